import PyProof.Rows.All
import Wide.All
import OpenK.AllK
import Wide.FinOn
import KE.KFromBytes
import HandS.Base
import HandS.Call
import HandS.List
import HandS.Dict
import HandS.Iter
import HandS.Rev
import PyProof.Rows.FactsT2
import PyProof.TupleCall
import HandS.RevTup
import HandS.ForMost
import KE.GoesEnum
import HandS.TupMul
import KE.KTupSum
import HandS.DictComp
import PyProof.FString
import HandS.Exc
import HandS.ExcOwn
import HandS.ExcInit
import HandS.ExcIs
import HandS.ExcField
import HandS.HeadWalk
import KE.KExcSuper
import HandS.AnyAll
import HandS.GenOver
import HandS.GenList
import HandS.Conv
import HandS.RevRange
import HandS.TupAny
import HandS.Style
import HandS.SortInts
import HandS.Wide
import HandS.IsInst
import HandS.NoneIn
import HandS.More
import HandS.Walk
import HandS.HeadHook1
import HandS.TryOnly
import PyProof.ExcBaseAll.ValueError
import KE.KStateDown
import Lean
import HandS.Words
import HandS.WordsExc
import HandS.Defaults
import HandS.Head0
import HandS.Head1
import HandS.Head2
import HandS.HeadEnd
import HandS.HeadHook2
import HandS.HeadHook3
import HandS.HeadHook4
import HandS.EndTab
import HandS.ExcBuiltin
import PySem.Challenge.RW_walkhands_k04_the_rule_backwards
section
set_option Elab.async false
set_option linter.all false
set_option maxRecDepth 100000
set_option maxHeartbeats 4000000
/-! tuple(reversed(tuple)) -/
namespace RT
open PySem PySem.Calls PyProof.Rows PyProof.V PySem.Spec
theorem nolen_rt : typeLookup (.type "reversed") "__len__" = pure none := by rw [typeLookup_type, builtinLookup_eq_fast]; kernel_rfl
theorem hint_rt : typeLookup (.type "reversed") "__length_hint__" = pure (some (.builtin "reversed.__length_hint__")) := by rw [typeLookup_type, builtinLookup_eq_fast]; kernel_rfl
theorem slot_rt_hint : Slot "reversed" "__length_hint__" "reversed.__length_hint__" :=
  .of (owner := "reversed") (n := "__length_hint__") (by rw [typeLookup_type, builtinLookup_eq_fast]; kernel_rfl) (by decide +kernel) (by decide +kernel) (by decide +kernel)
    (by first | exact .inl (by decide +kernel) | exact .inr (by decide +kernel)) (by rw [isSubtype_type]; kernel_rfl)
theorem entry_rt_hint : entryFor table "reversed.__length_hint__" = some Builtin.«reversed.__length_hint__» := entryFor_of_tree (by kernel_rfl)
theorem args_rt_hint (a : Value) : argsOk "reversed.__length_hint__" ⟨[a], []⟩ := by
  unfold argsOk; rw [signature?_of (id := "reversed.__length_hint__") (n := "__length_hint__".toList.reverse) (o := ['d', 'e', 's', 'r', 'e', 'v', 'e', 'r']) (by kernel_rfl) owner_rt]; kernel_rfl
theorem tup_at {h h' : Heap} {t : Addr} {items : Array Value} (x : IsTup h t items) (k : ∀ o, h.get? t = some o → h'.get? t = some o) : IsTup h' t items := by
  obtain ⟨o, ho, r⟩ := x
  exact ⟨o, k _ ho, r⟩
theorem Walks_tupRev {prog : Program} {w : World} {A : Around} (hh : A.handled = none) (I l : Addr) (hne : l ≠ I) (items : Array Value) (hn : items.size ≤ sizeLine) :
    Walks prog w A I [I, l] [I] items.size (fun i v => items[items.size - 1 - i]? = some v) (fun i h => i ≤ items.size ∧ IsRt h I l ((items.size : Int) - 1 - (i : Int)) ∧ IsTup h l items) where
  sub := fun b hb => by simp at hb; simp [hb]
  frame := fun _ _ _ x hk => ⟨x.1, x.2.1.at fun o e => hk I (by simp) o e, tup_at x.2.2 fun o e => hk l (by simp) o e⟩
  item := fun i s Q E hi x hQ => by
    have e : (items.size : Int) - 1 - (i : Int) = ((items.size - 1 - i : Nat) : Int) := by omega
    have hit := x.2.1
    rw [e] at hit
    have hx : items[items.size - 1 - i]? = some (items[items.size - 1 - i]'(by omega)) := Array.getElem?_eq_getElem (by omega)
    refine next_rt_item hit x.2.2 hx hn fun h' hit' hs' => ?_
    have e2 : ((items.size - 1 - i : Nat) : Int) - 1 = (items.size : Int) - 1 - ((i + 1 : Nat) : Int) := by omega
    rw [e2] at hit'
    exact hQ _ h' (s.toks + 1) hx ⟨hi, hit', tup_at x.2.2 fun o eo => (hs'.2 l hne).trans eo⟩ fun b o hb eo => (hs'.2 b (fun h => hb (by simp [h]))).trans eo
  done := fun s Q E x hQ => by
    have e : (items.size : Int) - 1 - (items.size : Int) = -1 := by omega
    have hit := x.2.1
    rw [e] at hit
    exact next_rt_end hh hit fun h' he' => hQ h' s.toks fun b o hb eo => he' b o (fun h => hb (by simp [h])) eo
  self := fun _ _ _ _ x hQ => iter_rt x.2.1 hQ
section
variable {prog : Program} {w : World} {A : Around} {E : Value → Shared → Prop} {s : Shared}
theorem collect_rt {it l : Addr} {items : Array Value} {Q : List Value → Shared → Prop} (hh : A.handled = none) (hit : IsRt s.heap it l ((items.size : Int) - 1)) (hl : IsTup s.heap l items) (hne : l ≠ it) (hn : items.size ≤ sizeLine)
    (hQ : ∀ (h' : Heap) (tk : Nat) (acc : Array Value), (∀ b o, b ≠ it → s.heap.get? b = some o → h'.get? b = some o) → ItemsOf (fun i v => items[items.size - 1 - i]? = some v) acc items.size → Q acc.toList { s with heap := h', toks := tk }) :
    wpAny (model prog w) A (collect (.ref it)) Q E s := by
  have W := (Walks_tupRev (prog := prog) (w := w) (A := A.in1) hh it l hne items hn).toS
  obtain ⟨oi, hoi, _⟩ := id hit
  obtain ⟨ol, hol, _⟩ := id hl
  have hSi : s.heap.objs.size ≠ it := Nat.ne_of_gt (Heap.lt_size hoi)
  have hSl : s.heap.objs.size ≠ l := Nat.ne_of_gt (Heap.lt_size hol)
  have hSf : s.heap.objs.size ∉ [it, l] := by simp only [List.mem_cons, List.not_mem_nil, or_false, not_or]; exact ⟨hSi, hSl⟩
  unfold collect
  refine wpAny_bind (wpAny_runValue (codeAny_builtin F.entry_proto_collect ?_))
  rw [Around.under_plainId F.plain_proto_collect _]
  show wpAny _ A.in1 (newList [] >>= fun l' => again (.builtin "list.__iadd__" ⟨[l', .ref it], []⟩)) _ _ s
  refine wpAny_bind (wpAny_newObj_type ?_)
  refine wpAny_pure ⟨plainId_quiet F.plain_list_iadd _, codeAny_builtin F.entry_list_iadd ?_⟩
  rw [Around.under_plainId F.plain_list_iadd _]
  have hS₁ : (s.heap.push { cls := .type "list", data := .seq ([] : List Value).toArray }).get? s.heap.objs.size = some { cls := .type "list", data := .seq ([] : List Value).toArray } := Heap.get?_push_size _ rfl
  have hit1 : IsRt (s.heap.push { cls := .type "list", data := .seq ([] : List Value).toArray }) it l ((items.size : Int) - 1) := hit.at fun o e => Heap.get?_push_of_some _ e
  have hl1 : IsTup (s.heap.push { cls := .type "list", data := .seq ([] : List Value).toArray }) l items := tup_at hl fun o e => Heap.get?_push_of_some _ e
  have hT : ({ s with heap := s.heap.push { cls := .type "list", data := .seq ([] : List Value).toArray } } : Shared).TypeIs (.ref it) "reversed" := IsRt.typeIs (s := { s with heap := s.heap.push { cls := .type "list", data := .seq ([] : List Value).toArray } }) hit1
  have h1 : Builtin.List.listSameRef (.ref s.heap.objs.size) (.ref it) = false := by simp [Builtin.List.listSameRef, hSi]
  show wpAny _ A.in1 (Builtin.List.listExtendWith (.ref s.heap.objs.size) (.ref it) (.ref s.heap.objs.size)) _ _ _
  unfold Builtin.List.listExtendWith
  refine wpAny_bind (wpAny_typeOf hT ?_)
  rw [if_neg (by rw [h1]; decide)]
  refine wpAny_bind (iter_rt (s := { s with heap := s.heap.push { cls := .type "list", data := .seq ([] : List Value).toArray } }) hit1 ?_)
  refine wpAny_bind (wpAny_holding ?_)
  unfold Builtin.List.listLengthHint
  refine wpAny_bind (wpAny_specialOf hT nolen_rt ?_)
  show wpAny _ A.in1 (specialOf (Value.ref it) (Str.ofString "__length_hint__") >>= _) _ _ _
  refine wpAny_bind (wpAny_specialOf hT hint_rt ?_)
  generalize hid : ("reversed.__length_hint__" : String) = id0
  wp_delta
  rw [show splitId id0 = some ("reversed", "__length_hint__") from by subst hid; decide +kernel]
  subst hid
  refine wpAny_bind (wpAny_isInstance (b := true) hT (by rw [isSubtype_type]; kernel_rfl) ?_)
  refine _root_.PySem.W.KFB.if_not rfl ?_
  refine _root_.PySem.W.KFB.if_not rfl ?_
  refine wpAny_bind (wpAny_rule ?_)
  refine wpAny_bind (wpAny_of_eq (slot_rt_hint.bind _) ?_)
  obtain ⟨oj, hoj, hcj, hdj⟩ := id hit1
  refine wpAny_bind (wpAny_attempt (wpAny_call_entry slot_rt_hint hT entry_rt_hint ?_ (args_rt_hint _)))
  unfold Builtin.«reversed.__length_hint__»
  refine wpAny_bind (wpAny_of_eq (a := Value.ref it) rfl ?_)
  refine wpAny_bind (wpAny_field (s := { s with heap := s.heap.push { cls := .type "list", data := .seq ([] : List Value).toArray } }) hoj hdj (x := .ref l) rfl ?_)
  refine _root_.PySem.W.KFB.if_not rfl ?_
  have hl63 : (sizeLine : Nat) < 2 ^ 63 := by rw [sizeLine_eq]; decide
  refine wpAny_bind (len_tuple (s := { s with heap := s.heap.push { cls := .type "list", data := .seq ([] : List Value).toArray } }) hl1 (by omega) ?_)
  refine wpAny_bind (wpAny_of_eq (a := some (items.size : Int)) rfl ?_)
  try dsimp only
  refine wpAny_bind (wpAny_field (s := { s with heap := s.heap.push { cls := .type "list", data := .seq ([] : List Value).toArray }, toks := s.toks + 1 + 1 }) hoj hdj (x := rawInt ((items.size : Int) - 1)) rfl ?_)
  unfold rawInt
  try dsimp only
  rw [if_neg (by omega)]
  unfold retInt
  refine wpAny_bind (wpAny_mkInt ?_)
  refine wpAny_pure ⟨_, rfl, ?_⟩
  refine wpAny_bind (wpAny_of_eq (a := some ((items.size : Int) - 1 + 1)) rfl ?_)
  try dsimp only
  have hz63 := hl63
  rw [sizeLine_eq] at hz63
  have hfi : Builtin.List.listFitsIndex ((items.size : Int) - 1 + 1) = true := by
    unfold Builtin.List.listFitsIndex
    simp only [Bool.and_eq_true, decide_eq_true_eq]
    constructor <;> omega
  have htl : Builtin.List.listTooLong ((items.size : Int) - 1 + 1).toNat = false := by
    unfold Builtin.List.listTooLong
    rw [show ((items.size : Int) - 1 + 1).toNat = items.size by omega]
    simp
    omega
  rw [hfi]
  refine _root_.PySem.W.KFB.if_not rfl ?_
  rw [if_neg (by omega)]
  refine _root_.PySem.W.KFB.if_not htl ?_
  refine wpAny_pure ?_
  by_cases c0 : items.size = 0
  · refine _root_.PySem.W.KFB.if_not (by rw [c0]; rfl) ?_
    have e0 : ((items.size : Nat) : Int) - 1 - ((0 : Nat) : Int) = (items.size : Int) - 1 := by omega
    refine wpAny_pure ⟨plainId_quiet F.plain_extend_loop _, codeAny_extend_loopS W hn _ hSf _ items.size 0 _ _ _ rfl (Nat.zero_le _) ⟨Nat.zero_le _, by rw [e0]; exact hit1, hl1⟩ hS₁ (ItemsOf.nil _) fun s' acc' c' hm hS' hacc => ?_⟩
    show wpAny _ A (load s.heap.objs.size >>= _) _ _ s'
    refine wpAny_bind (wpAny_load hS' ?_)
    refine wpAny_pure ?_
    rw [Moved.eq_with hm]
    refine hQ s'.heap s'.toks acc' (fun b o hb e => hm.heap b o (fun hmem => ?_) (Heap.get?_push_of_some _ e)) hacc
    rcases List.mem_cons.mp hmem with e' | hmem
    · exact absurd (Heap.lt_size e) (by rw [e']; exact Nat.lt_irrefl _)
    · exact hb (List.mem_singleton.mp hmem)
  · have hne0 : ((items.size : Int) - 1 + 1 != 0) = true := by
      rw [bne_iff_ne]; omega
    refine _root_.PySem.W.KFB.if_so (by rw [hne0]; rfl) ?_
    refine wpAny_bind (wpAny_rule ?_)
    refine wpAny_bind ?_
    show wpAny _ A.in1 (updateSeq s.heap.objs.size (·.push .none) >>= fun _ => updateSeq s.heap.objs.size (·.pop)) _ _ _
    refine wpAny_bind (wpAny_updateSeq hS₁ rfl ?_)
    have hS₂ := Heap.get?_update_self (Obj.mapSeq (·.push Value.none)) hS₁ rfl
    refine wpAny_updateSeq hS₂ rfl ?_
    have hS₃ := Heap.get?_update_self (Obj.mapSeq (·.pop)) hS₂ rfl
    have oth : ∀ b o, b ≠ s.heap.objs.size → (s.heap.push { cls := .type "list", data := .seq ([] : List Value).toArray }).get? b = some o →
        (((s.heap.push { cls := .type "list", data := .seq ([] : List Value).toArray }).update s.heap.objs.size (Obj.mapSeq (·.push Value.none))).update s.heap.objs.size (Obj.mapSeq (·.pop))).get? b = some o :=
      fun b o hb e => (Heap.get?_update_other _ _ (Ne.symm hb)).trans ((Heap.get?_update_other _ _ (Ne.symm hb)).trans e)
    have e0 : ((items.size : Nat) : Int) - 1 - ((0 : Nat) : Int) = (items.size : Int) - 1 := by omega
    have hit3 := hit1.at (h' := ((s.heap.push { cls := .type "list", data := .seq ([] : List Value).toArray }).update s.heap.objs.size (Obj.mapSeq (·.push Value.none))).update s.heap.objs.size (Obj.mapSeq (·.pop))) fun o e => oth it o (Ne.symm hSi) e
    have hl3 := tup_at hl1 (h' := ((s.heap.push { cls := .type "list", data := .seq ([] : List Value).toArray }).update s.heap.objs.size (Obj.mapSeq (·.push Value.none))).update s.heap.objs.size (Obj.mapSeq (·.pop))) fun o e => oth l o (Ne.symm hSl) e
    refine wpAny_pure ⟨plainId_quiet F.plain_extend_loop _, codeAny_extend_loopS W hn _ hSf _ items.size 0 _ _ _ rfl (Nat.zero_le _) ⟨Nat.zero_le _, by rw [e0]; exact hit3, hl3⟩ hS₃ (ItemsOf.nil _) fun s' acc' c' hm hS' hacc => ?_⟩
    show wpAny _ A (load s.heap.objs.size >>= _) _ _ s'
    refine wpAny_bind (wpAny_load hS' ?_)
    refine wpAny_pure ?_
    rw [Moved.eq_with hm]
    refine hQ s'.heap s'.toks acc' (fun b o hb e => hm.heap b o (fun hmem => ?_) (oth b o (fun z => absurd (Heap.lt_size e) (by rw [z]; exact Nat.lt_irrefl _)) (Heap.get?_push_of_some _ e))) hacc
    rcases List.mem_cons.mp hmem with e' | hmem
    · exact absurd (Heap.lt_size e) (by rw [e']; exact Nat.lt_irrefl _)
    · exact hb (List.mem_singleton.mp hmem)
theorem code_tuple_new_rt {it l : Addr} {items : Array Value} {Q₁ : Value → Shared → Prop} (hh : A.handled = none) (hit : IsRt s.heap it l ((items.size : Int) - 1)) (hl : IsTup s.heap l items) (hne : l ≠ it) (hn : items.size ≤ sizeLine)
    (h : ∀ (h' : Heap) (tk : Nat) (acc : Array Value), (∀ b o, b ≠ it → s.heap.get? b = some o → h'.get? b = some o) → ItemsOf (fun i v => items[items.size - 1 - i]? = some v) acc items.size →
      Q₁ (.ref h'.objs.size) { s with heap := h'.push { cls := .type "tuple", data := .seq acc }, toks := tk }) :
    codeAny (model prog w) A (.call (.builtin "tuple.__new__") ⟨[.type "tuple", .ref it], []⟩) (wants Q₁ E) s := by
  refine codeAny_of_tree ?_
  show wpAny _ A.in1 (do checkBuiltinCall "tuple.__new__" ⟨[.type "tuple", .ref it], []⟩; again (.builtin "tuple.__new__" ⟨[.type "tuple", .ref it], []⟩)) _ _ s
  refine wpAny_bind (wpAny_of_eq (F.newCall_tuple_1 _) (wpAny_pure ⟨plainId_quiet F.plain_tuple_new _, codeAny_builtin F.entry_tuple_new ?_⟩))
  rw [Around.under_plainId F.plain_tuple_new _]
  have hsub := sub_tuple_self
  have hinit := init_tuple_lookup
  have hmh := madeHere_tuple
  have hTI : s.TypeIs (.ref it) "reversed" := hit.typeIs
  have hh1 : A.in1.handled = none := hh
  wp_walk using wpAny_typeOf hTI, collect_rt (A := A.in1) hh1 hit hl hne hn
  intro h' tk acc hk hacc
  show wpAny _ _ (Builtin.Tuple.tupleExact acc.toList.toArray >>= fun v => ret v) _ _ _
  unfold Builtin.Tuple.tupleExact
  refine wpAny_bind (wpAny_newObj_type ?_ (by show acc.toList.toArray.size ≤ sizeLine; simp only [Array.toArray_toList]; rw [hacc.1]; exact hn))
  refine wpAny_pure ?_
  have e : acc.toList.toArray = acc := by simp
  rw [e]
  exact h h' tk acc hk hacc
theorem call_tuple_rt {it l : Addr} {items : Array Value} {Q : Value → Shared → Prop} (hh : A.handled = none) (hit : IsRt s.heap it l ((items.size : Int) - 1)) (hl : IsTup s.heap l items) (hne : l ≠ it) (hn : items.size ≤ sizeLine)
    (hQ : ∀ (h' : Heap) (tk : Nat) (acc : Array Value), (∀ b o, b ≠ it → s.heap.get? b = some o → h'.get? b = some o) → ItemsOf (fun i v => items[items.size - 1 - i]? = some v) acc items.size →
      Q (.ref h'.objs.size) { s with heap := h'.push { cls := .type "tuple", data := .seq acc }, toks := tk }) :
    wpAny (model prog w) A (call (.type "tuple") [.ref it]) Q E s := by
  refine callType_codes (Q₁ := fun obj s₁ => s₁.TypeIs obj "tuple" ∧ Q obj s₁) F.called_tuple (F.typeCall_tuple_1 _) F.entry_object_init
    (code_tuple_new_rt (A := A.in1) hh hit hl hne hn fun h' tk acc hk hacc => ⟨⟨_, Heap.get?_push_size _ rfl, rfl⟩, hQ h' tk acc hk hacc⟩) fun obj s₁ h₁ => ?_
  exact ⟨h₁.1, F.args_object_init_2 obj _, object_init_meets F.called_tuple.init.lookup F.called_tuple.made (by decide) prog w A.in1 _ s₁ ⟨h₁.1, rfl, h₁.2⟩⟩
end
end RT

namespace RT
open PySem PySem.Spec PyProof.Rows L2
/-- tuple(reversed(x)), x a list or a tuple: a new tuple -/
def tTupRevA (K : PySem.W.Frag) (te : TE) : TE := fun σ H Q => te σ H fun v H1 => ∃ (a : Addr) (xs : List V), v = .ref a ∧ (SqL K H1 a xs ∨ SqT K H1 a xs) ∧ ∀ q, H1 q = none → Q (.ref q) (upd H1 q (.tup xs.reverse))
theorem pe_tupRevA {X : Cx} {e : Expr} {te : TE} {p p2 pos pos2 : Pos} (hc : X.calm = true) (hg : Gl X "tuple") (hm : X.mg "tuple" = none) (hg2 : Gl X "reversed") (hm2 : X.mg "reversed" = none) (he : PE X e te)
    (hs : starEach [e] X.env = (false, eval e X.env) :: starEach [] X.env := by rfl)
    (hs2 : starEach [.Call (.Name "reversed" p2) [e] [] pos2] X.env = (false, eval (.Call (.Name "reversed" p2) [e] [] pos2) X.env) :: starEach [] X.env := by rfl) :
    PE X (.Call (.Name "tuple" p) [.Call (.Name "reversed" p2) [e] [] pos2] [] pos) (tTupRevA X.K te) := by
  refine ⟨fun pins s σ H Q I h => ?_⟩
  refine Call_ (ld_blt I hg hm boot_tuple (PyProof.Rows.callWith_type1 (args_cons (Call_ (ld_blt I hg2 hm2 PyProof.Rows.boot_reversed (PyProof.Rows.callWith_type1 (args_cons (thn (he.run pins s σ H _ I h) fun u s1 ⟨v, H1, I1, r1, q1⟩ => args_nil ?_) hs) hs rfl))) hs2) hs2 rfl))
  obtain ⟨a, xs, ev, hq, q⟩ := q1
  subst ev
  obtain rfl : u = Value.ref a := r1
  rcases hq with hq | hq
  · obtain ⟨its, rv, p', hz⟩ := I1.list hq
    refine call_reversed_list p'.isList (args_nil ?_)
    have k0 : ∀ b o, s1.heap.get? b = some o → (s1.heap.push (revObj a ((its.toArray.size : Int) - 1))).get? b = some o := fun b o e => Heap.get?_push_of_some _ e
    have I2 : Inv X pins σ H1 { s1 with heap := s1.heap.push (revObj a ((its.toArray.size : Int) - 1)) } := I1.kept (t' := s1.toks) k0
    obtain ⟨f0, f1, f2, f3, f4, f5⟩ := I1.fpOk (H' := H1) (b := s1.heap.objs.size) (Nat.le_refl _) (I1.hok.fresh (Nat.le_refl _))
    have hl := p'.isList
    obtain ⟨ol, hol, _⟩ := id hl
    have hne : a ≠ s1.heap.objs.size := Nat.ne_of_lt (Heap.lt_size hol)
    have hn : its.toArray.size ≤ sizeLine := by rw [List.size_toArray, ← rv.length]; exact hz
    refine call_tuple_rev (s := { s1 with heap := s1.heap.push (revObj a ((its.toArray.size : Int) - 1)) }) (I1.ok.hd hc) ⟨_, Heap.get?_push_size _ rfl, rfl, rfl⟩ (hl.push _) hne hn fun h' tk acc hk hi => ?_
    have I3 : Inv X pins σ H1 { s1 with heap := h', toks := tk } := I2.turned (t' := tk) (fun b o hb e => hk b o hb e) f0 f1 f3 f4 f5
    refine ⟨.ref h'.objs.size, upd H1 h'.objs.size (.tup xs.reverse), I3.laid (t' := tk) (fun c o e => Heap.get?_push_of_some _ e) (Nat.le_refl _) (show ObjOk X.prog X.w _ _ _ (.tup xs.reverse) from ⟨by rw [List.length_reverse]; exact hz, acc.toList, vals_rev rv hi, ?_⟩), rfl, q _ (I3.hok.fresh (Nat.le_refl _))⟩
    rw [Array.toArray_toList]
    exact IsTup.new _ _
  · obtain ⟨its, rv, p', hz⟩ := I1.tuple hq
    have hn63 := line63
    have hn : its.toArray.size ≤ sizeLine := by rw [List.size_toArray, ← rv.length]; exact hz
    refine call_reversed_tup p' (fun A E Q k => len_tuple p' (by simp only [List.size_toArray] at hn ⊢; omega) k) (args_nil ?_)
    have k0 : ∀ b o, s1.heap.get? b = some o → (s1.heap.push (rtObj a ((its.toArray.size : Int) - 1))).get? b = some o := fun b o e => Heap.get?_push_of_some _ e
    have I2 : Inv X pins σ H1 { s1 with heap := s1.heap.push (rtObj a ((its.toArray.size : Int) - 1)), toks := s1.toks + 1 + 1 } := I1.kept (t' := s1.toks + 1 + 1) k0
    obtain ⟨f0, f1, f2, f3, f4, f5⟩ := I1.fpOk (H' := H1) (b := s1.heap.objs.size) (Nat.le_refl _) (I1.hok.fresh (Nat.le_refl _))
    obtain ⟨ol, hol, _⟩ := id p'
    have hne : a ≠ s1.heap.objs.size := Nat.ne_of_lt (Heap.lt_size hol)
    refine call_tuple_rt (s := { s1 with heap := s1.heap.push (rtObj a ((its.toArray.size : Int) - 1)), toks := s1.toks + 1 + 1 }) (I1.ok.hd hc) ⟨_, Heap.get?_push_size _ rfl, rfl, rfl⟩ (tup_at p' fun o e => Heap.get?_push_of_some _ e) hne hn fun h' tk acc hk hi => ?_
    have I3 : Inv X pins σ H1 { s1 with heap := h', toks := tk } := I2.turned (t' := tk) (fun b o hb e => hk b o hb e) f0 f1 f3 f4 f5
    refine ⟨.ref h'.objs.size, upd H1 h'.objs.size (.tup xs.reverse), I3.laid (t' := tk) (fun c o e => Heap.get?_push_of_some _ e) (Nat.le_refl _) (show ObjOk X.prog X.w _ _ _ (.tup xs.reverse) from ⟨by rw [List.length_reverse]; exact hz, acc.toList, vals_rev rv hi, ?_⟩), rfl, q _ (I3.hok.fresh (Nat.le_refl _))⟩
    rw [Array.toArray_toList]
    exact IsTup.new _ _
end RT
end

section
set_option Elab.async false
set_option linter.all false
set_option maxRecDepth 100000
set_option maxHeartbeats 4000000
namespace Li
open PySem PySem.Spec PyProof.Rows L2
/-! ### enumerate of a tuple -/
theorem meets_enum1 {v : Value} {o : Obj} {H : Heap → Prop} (B : Begins v o H) :
    Meets (Builtin.«enumerate.__new__» ⟨[.type "enumerate", v], []⟩) (fun _ R s => H s.heap ∧
      R (.ok (.ret (.ref (s.heap.push o).objs.size))) { s with heap := (s.heap.push o).push { cls := .type "enumerate", data := .fields #[.none, .bool false, .ref s.heap.objs.size, rawInt 0, .none, .none] } }) :=
  .of_wp fun prog w A R s h => by
    obtain ⟨hp, g, d, tk, os⟩ := s; obtain ⟨h1, h⟩ := h
    have hsub := sub_enumerate
    have q1 : ∀ {A' : Around} {E : Value → Shared → Prop} {Q : Value → Shared → Prop}, Q (.ref hp.objs.size) ⟨hp.push o, g, d, tk, os⟩ → wpAny (model prog w) A' (pyIter v) Q E ⟨hp, g, d, tk, os⟩ :=
      fun q => B.iter prog w _ _ ⟨hp, g, d, tk, os⟩ _ h1 q
    wp_walk using q1
    refine wpAny_stack_any fun st => wpAny_pure ?_
    split
    · rename_i c _ _ _ _ _
      cases (c == Value.type "enumerate")
      · wp_walk using q1
        exact ⟨_, rfl, h⟩
      · wp_walk using q1
        exact ⟨_, rfl, h⟩
    · wp_walk using q1
      exact ⟨_, rfl, h⟩
section
variable {prog : Program} {w : World} {A : Around} {E : Value → Shared → Prop} {s : Shared}
theorem call_enum1 {v : Value} {o : Obj} {H : Heap → Prop} {Q : Value → Shared → Prop} (B : Begins v o H) (h1 : H s.heap)
    (h : ∀ h', IsEnum h' (s.heap.objs.size + 1) s.heap.objs.size 0 .none → h'.get? s.heap.objs.size = some o → h'.objs.size = s.heap.objs.size + 2 →
      (∀ b o, s.heap.get? b = some o → h'.get? b = some o) → Q (.ref (s.heap.objs.size + 1)) { s with heap := h' }) :
    wpAny (model prog w) A (call (.type "enumerate") [v]) Q E s := by
  refine callType_new F.called_enumerate (by decide) (F.typeCall_enumerate_1 _) (F.newCall_enumerate_1 _) (fun obj => F.args_object_init_2 obj _) F.entry_enumerate_new
    (meets_enum1 B) ⟨h1, ?_⟩
  have hz : (s.heap.push o).objs.size = s.heap.objs.size + 1 := Heap.size_push ..
  show _ ∧ _
  rw [hz]
  have he : IsEnum ((s.heap.push o).push { cls := .type "enumerate", data := .fields #[.none, .bool false, .ref s.heap.objs.size, rawInt 0, .none, .none] }) (s.heap.objs.size + 1) s.heap.objs.size 0 .none := by
    have := Heap.get?_push_size (s.heap.push o) (o := { cls := .type "enumerate", data := .fields #[.none, .bool false, .ref s.heap.objs.size, rawInt 0, .none, .none] }) rfl
    rw [hz] at this; exact this
  refine ⟨⟨_, he, rfl⟩, h _ he (Heap.get?_push_of_some _ (Heap.get?_push_size _ B.free)) (by rw [Heap.size_push, hz]) fun b o x => Heap.get?_push_of_some _ (Heap.get?_push_of_some _ x)⟩
end
/-- the tuple at a at each turn, each item in a new pair -/
def IteT (K : PySem.W.Frag) (a : Addr) : It :=
  ⟨fun i H => ∃ (xs : List V) (x : V), SqT K H a xs ∧ xs[i]? = some x, fun i H v H' => ∃ T x, v = .ref T ∧ H T = none ∧ H' = upd H T (.tup [.int (i : Nat), x]) ∧ ∀ xs, SqT K H a xs → xs[i]? = some x, fun i H => ∃ xs : List V, SqT K H a xs ∧ xs.length ≤ i⟩
theorem turn_enumT {P : Program} {w : World} {K : PySem.W.Frag} {elts : List Expr} {kk : Nat} {tpos : Pos} (a e it : Addr) :
    Turn P w K (.Tuple elts kk tpos) (IteT K a) [e, it] e (fun i h => (∃ old, IsEnum h e it ((i : Nat) : Int) old) ∧ h.IsTupleIter it a i ∧ e ≠ it) where
  mem := by simp
  obj := fun i h st b hb => by
    obtain ⟨⟨old, he⟩, ⟨o, ho, hc, hd⟩, _⟩ := st
    have e' : b = e ∨ b = it := by simpa using hb
    rcases e' with z | z
    · rw [z]; exact ⟨_, he, fun v q => nomatch q⟩
    · rw [z]; exact ⟨o, ho, fun v q => by rw [hd] at q; cases q⟩
  keep := fun i h h' st k => let ⟨⟨old, he⟩, hi, hne⟩ := st; ⟨⟨old, k e (by simp) _ he⟩, hi.at fun o q => k it (by simp) o q, hne⟩
  item := by
    intro X hP hw hK hc i pins s σ H E I hf st hg
    subst hP hw hK
    obtain ⟨⟨old, he⟩, hit, hne⟩ := st
    obtain ⟨xs, x, hq, hx⟩ := hg
    obtain ⟨its, rv, p, hz⟩ := I.tuple hq
    obtain ⟨u, hu, ru⟩ := rv.get hx
    have hel : e < s.heap.objs.size := Heap.lt_size he
    have hil : it < s.heap.objs.size := by obtain ⟨_, q, _⟩ := hit; exact Heap.lt_size q
    have p' : s.heap.IsTuple a its.toArray := p
    have hai : a ≠ it := fun z => by
      obtain ⟨o1, e1, c1, _⟩ := p'
      obtain ⟨o2, e2, c2, _⟩ := id hit
      rw [z, e2] at e1; cases e1; rw [c1] at c2; exact absurd (Value.type.inj c2) (by decide)
    have hea : e ≠ a := fun z => by
      obtain ⟨o1, e1, c1, _⟩ := p'
      have e2 : s.heap.get? e = _ := he
      rw [← z, e2] at e1; cases e1; exact absurd (Value.type.inj c1) (by decide)
    have D := Draws.tuple (prog := X.prog) (w := X.w) (A := X.A.in1) (I.ok.hd hc) it a hai its.toArray
    have hlt : i < its.toArray.size := by
      have := (List.getElem?_eq_some_iff.mp hu).1
      simpa using this
    refine wpAny_pyNext_enum_itemD D he ⟨hit, p'⟩ hlt hne (by simp; exact ⟨hne, hea⟩) fun y h' tk hy ho hst hT hsz hk => ?_
    have hyu : y = u := by
      have h1 : its.toArray[i]? = some y := hy
      have h2 : its.toArray[i]? = some u := by simpa using hu
      rw [h2] at h1; exact (Option.some.inj h1).symm
    subst hyu
    refine ⟨_, rfl, wpAny_letOwnedTupleGo_enum (s := { s with heap := h', toks := tk + 1 }) ho fun h'' he' sb => ?_⟩
    have hT2 : h''.get? s.heap.objs.size = some { cls := .type "tuple", data := .seq #[.int i tk, y] } := (sb.2 _ (Nat.ne_of_gt hel)).trans hT
    have new : ObjOk X.prog X.w (upd H s.heap.objs.size (.tup [.int (i : Nat), x])) h'' s.heap.objs.size (.tup [.int (i : Nat), x]) :=
      ⟨by show 2 ≤ sizeLine; decide, [.int i tk, y], .cons ⟨_, rfl⟩ (.cons ru .nil), ⟨_, hT2, rfl, _, rfl⟩⟩
    have I1 : Inv X pins σ (upd H s.heap.objs.size (.tup [.int (i : Nat), x])) { s with heap := h'', toks := tk + 1 } :=
      I.turnedNew (ch := [e, it]) (fun b ob hb q => (sb.2 b (fun z => hb (by simp [z]))).trans (hk b ob (fun z => hb (by simp [z])) (fun z => hb (by simp [z])) q)) hf (Nat.le_refl _) new
    refine ⟨.ref s.heap.objs.size, _, I1, rfl, ⟨_, x, rfl, I.hok.fresh (Nat.le_refl _), rfl, fun ys hy => by rw [I.tuple_inj hy hq]; exact hx⟩, ⟨⟨y, ?_⟩, hst.1.at fun o q => (sb.2 it (Ne.symm hne)).trans q, hne⟩, fun b hb => ?_⟩
    · have e1 : ((i + 1 : Nat) : Int) = (i : Int) + 1 := by omega
      rw [e1]; exact he'
    · have hb' : b < s.heap.objs.size := by
        have e' : b = e ∨ b = it := by simpa using hb
        rcases e' with z | z
        · rw [z]; exact hel
        · rw [z]; exact hil
      rw [upd_ne (Nat.ne_of_lt hb')]
      exact (hf b hb).1
  done := by
    intro X hP hw hK hc i pins s σ H E I hf st hg
    subst hP hw hK
    obtain ⟨⟨old, he⟩, hit, hne⟩ := st
    obtain ⟨xs, hq, hx⟩ := hg
    obtain ⟨its, rv, p, hz⟩ := I.tuple hq
    obtain ⟨f0, f1, f2, f3, f4, f5⟩ := hf it (by simp)
    have hl := rv.length
    have p' : s.heap.IsTuple a its.toArray := p
    have hai : a ≠ it := fun z => by
      obtain ⟨o1, e1, c1, _⟩ := p'
      obtain ⟨o2, e2, c2, _⟩ := id hit
      rw [z, e2] at e1; cases e1; rw [c1] at c2; exact absurd (Value.type.inj c2) (by decide)
    have hT : s.TypeIs (.ref e) "enumerate" := ⟨_, he, rfl⟩
    unfold pyNext
    refine wpAny_bind (wpAny_attempt (wpAny_callSpecial?_slot (name := Str.ofString "__next__") hT F.slot_enumerate_next
      (wpAny_call_entry F.slot_enumerate_next hT F.entry_enumerate_next ?_ (F.args_enumerate_next_1 _))))
    show wpAny _ _ (field (.ref e) 2 >>= _) _ _ _
    refine wpAny_bind (wpAny_field he rfl (x := .ref it) rfl ?_)
    refine wpAny_bind (wpAny_nextOf_tuple_end (I.ok.hd hc) hit p' (by simp; omega) fun h' y eb hy => ?_)
    obtain ⟨o, ho, hc'⟩ := hy
    refine wpAny_bind (wpAny_isInstance (T := "StopIteration") (b := true) ⟨o, ho, hc'⟩ isSubtype_stop ?_)
    exact wpAny_pure ⟨rfl, I.turned (t' := s.toks) (fun b o hb q => eb b o hb q) f0 f1 f3 f4 f5⟩
  self := fun A i s Q E st h => let ⟨⟨_, he⟩, _⟩ := st; wpAny_pyIter_enum he h
/-- enumerate of a list or a tuple -/
def iEnumA (K : PySem.W.Frag) (ta : TA) : TI := fun σ H R => ta σ H fun vs H1 => ∃ a, vs = [.ref a] ∧ ((∃ xs, SqL K H1 a xs ∧ R (Ite K a) H1) ∨ (∃ xs, SqT K H1 a xs ∧ R (IteT K a) H1))
theorem pi_enumA {X : Cx} {e : Expr} {ta : TA} {p pos tpos : Pos} {elts : List Expr} {kk : Nat} (hg : Gl X "enumerate") (hm : X.mg "enumerate" = none) (ha : PA X [e] ta) (hs : starEach [e] X.env = [(false, eval e X.env)] := by rfl) :
    PI X (.Tuple elts kk tpos) (.Call (.Name "enumerate" p) [e] [] pos) (iEnumA X.K ta) := by
  refine ⟨fun pins s σ H R I h => ?_⟩
  refine Call_ (ld_blt I hg hm boot_enumerate (PyProof.Rows.callWith_type1 (thn (ha.run pos pins s σ H _ I h) fun us s1 ⟨vs, H1, I1, r1, q1⟩ => ?_) hs rfl))
  obtain ⟨a, ex, q⟩ := q1
  subst ex
  cases r1 with
  | cons r rr =>
    cases rr
    cases r
    have fpk : ∀ b ∈ [s1.heap.objs.size + 1, s1.heap.objs.size], FpOk X pins H1 b := fun b hb => by
      have e' : b = s1.heap.objs.size + 1 ∨ b = s1.heap.objs.size := by simpa using hb
      have hle : s1.heap.objs.size ≤ b := by
        rcases e' with z | z
        · rw [z]; exact Nat.le_add_right _ _
        · rw [z]; exact Nat.le_refl _
      exact I1.fpOk hle (I1.hok.fresh hle)
    rcases q with ⟨xs, hq, q⟩ | ⟨xs, hq, q⟩
    · obtain ⟨its, rv, p', hz⟩ := I1.list hq
      refine call_enumerate_list p'.isList fun h' he hit hsz hk => wpAny_pyIter_enum he ?_
      have I2 : Inv X pins σ H1 { s1 with heap := h' } := I1.kept (t' := s1.toks) hk
      exact ⟨s1.heap.objs.size + 1, [s1.heap.objs.size + 1, s1.heap.objs.size], _, _, H1, rfl, I2, turn_enum a (s1.heap.objs.size + 1) s1.heap.objs.size, ⟨⟨.none, he⟩, hit, Nat.succ_ne_self _⟩, fpk, q⟩
    · obtain ⟨its, rv, p', hz⟩ := I1.tuple hq
      refine call_enum1 (begins_tuple a its.toArray) p' fun h' he hit hsz hk => wpAny_pyIter_enum he ?_
      have I2 : Inv X pins σ H1 { s1 with heap := h' } := I1.kept (t' := s1.toks) hk
      exact ⟨s1.heap.objs.size + 1, [s1.heap.objs.size + 1, s1.heap.objs.size], _, _, H1, rfl, I2, turn_enumT a (s1.heap.objs.size + 1) s1.heap.objs.size, ⟨⟨.none, he⟩, ⟨_, hit, rfl, rfl⟩, Nat.succ_ne_self _⟩, fpk, q⟩
end Li
end

section
set_option Elab.async false
set_option linter.all false
set_option maxRecDepth 100000
set_option maxHeartbeats 4000000
namespace Li
open PySem PySem.Spec PyProof.Rows L2
/-! ### sum, max, min of a tuple of ints -/
section
variable {prog : Program} {w : World} {A : Around} {E : Value → Shared → Prop} {s : Shared} {l : Addr} {its : List Value} {ns : List Int} {Q : Value → Shared → Prop}
theorem sum_rawT (hh : A.handled = none) (hl : s.heap.IsTuple l its.toArray) (hi : IntsAre its ns)
    (h : ∀ h' tk t', (∀ b o, s.heap.get? b = some o → h'.get? b = some o) → Q (.int ns.sum t') { s with heap := h', toks := tk }) : wpAny (model prog w) A (call (.builtin "sum") [.ref l]) Q E s := by
  obtain ⟨xs, e⟩ := hi.allInts.items
  have hn : numsOf (intItems xs).toList = ns := by rw [← e]; exact hi.numsOf
  rw [nums_intItems] at hn
  rw [e] at hl
  refine PySem.W.ktm_sumG hh hl fun h' tk t' hk => ?_
  have := h h' tk t' hk
  rw [preSum_eq, List.take_of_length_le (by simp), hn]; exact this
theorem iter_intTup {xs : Array (Int × Tok)} (hl : s.heap.IsTuple l (intItems xs))
    (h : ∀ s₂ : Shared, s₂ = { s with heap := s.heap.push { cls := .type "tuple_iterator", data := .fields #[.ref l, .int 0 0] } } →
      (s₂.heap.IsTupleIter s.heap.objs.size l 0 ∧ s₂.heap.IsTuple l (intItems xs)) → (∀ b ∈ [s.heap.objs.size, l], b < s₂.heap.objs.size) → l ≠ s.heap.objs.size → Q (.ref s.heap.objs.size) s₂) :
    wpAny (model prog w) A (pyIter (.ref l)) Q E s := by
  have hlt : l < s.heap.objs.size := by obtain ⟨_, e, _⟩ := hl; exact Heap.lt_size e
  refine wpAny_pyIter_tuple hl (h _ rfl ⟨⟨_, Heap.get?_push_size _ rfl, rfl, rfl⟩, hl.at fun o e => Heap.get?_push_of_some _ e⟩ (fun b hb => ?_) (Nat.ne_of_lt hlt))
  show b < (s.heap.push _).objs.size
  rw [Heap.size_push]
  rcases List.mem_cons.mp hb with rfl | hb
  · exact Nat.lt_succ_self _
  · rcases List.mem_cons.mp hb with rfl | hb
    · exact Nat.lt_succ_of_lt hlt
    · cases hb
theorem old_keptT {h' : Heap} {o1 : Obj} (hk : ∀ b o, b ∉ [s.heap.objs.size] → (s.heap.push o1).get? b = some o → h'.get? b = some o) :
    ∀ b o, s.heap.get? b = some o → h'.get? b = some o := fun b o e => by
  refine hk b o (fun hm => ?_) (Heap.get?_push_of_some _ e)
  rcases List.mem_cons.mp hm with e1 | hm
  · exact absurd (e1 ▸ Heap.lt_size e) (Nat.lt_irrefl _)
  · cases hm
theorem max_rawT (hh : A.handled = none) (hl : s.heap.IsTuple l its.toArray) (hi : IntsAre its ns) (hne : 0 < ns.length)
    (h : ∀ h' tk M t', (∀ b o, s.heap.get? b = some o → h'.get? b = some o) → M ∈ ns → (∀ a, a ∈ ns → a ≤ M) → Q (.int M t') { s with heap := h', toks := tk }) : wpAny (model prog w) A (call (.builtin "max") [.ref l]) Q E s := by
  obtain ⟨xs, e⟩ := hi.allInts.items
  have hn : numsOf (intItems xs).toList = ns := by rw [← e]; exact hi.numsOf
  rw [nums_intItems] at hn
  subst hn
  rw [e] at hl
  have hsz : 0 < xs.size := by simpa using hne
  refine call_max_walk (iter_intTup hl fun s₂ e st hfp hlI => ?_)
  subst e
  refine ⟨_, _, _, _, _, _, _, rfl, Walks.tuple (A := A.in1) hh _ l hlI (intItems xs), st, hfp, by simpa [intItems] using hsz, CmpOf.ints_gt (numAt xs) (fun _ _ => intItems_at), fun v h' tk hP hk => ?_⟩
  obtain ⟨t, rfl⟩ := intItems_at (i := argBest (fun i j => decide (numAt xs i > numAt xs j)) (xs.size - 1)) (xs := xs) (v := v) (by simpa [intItems] using hP)
  obtain ⟨h1, h2⟩ := argBest_gt (numAt xs) (xs.size - 1)
  refine h h' tk _ t (old_keptT hk) ?_ fun a ha => ?_
  · rw [numAt_eq]; exact PySem.getD_mem (by rw [List.length_map, Array.length_toList]; omega)
  · obtain ⟨j, hj, rfl⟩ := mem_getD ha
    rw [List.length_map, Array.length_toList] at hj
    rw [← numAt_eq]; exact h2 j (by omega)
theorem min_rawT (hh : A.handled = none) (hl : s.heap.IsTuple l its.toArray) (hi : IntsAre its ns) (hne : 0 < ns.length)
    (h : ∀ h' tk M t', (∀ b o, s.heap.get? b = some o → h'.get? b = some o) → M ∈ ns → (∀ a, a ∈ ns → M ≤ a) → Q (.int M t') { s with heap := h', toks := tk }) : wpAny (model prog w) A (call (.builtin "min") [.ref l]) Q E s := by
  obtain ⟨xs, e⟩ := hi.allInts.items
  have hn : numsOf (intItems xs).toList = ns := by rw [← e]; exact hi.numsOf
  rw [nums_intItems] at hn
  subst hn
  rw [e] at hl
  have hsz : 0 < xs.size := by simpa using hne
  refine call_min_walk (iter_intTup hl fun s₂ e st hfp hlI => ?_)
  subst e
  refine ⟨_, _, _, _, _, _, _, rfl, Walks.tuple (A := A.in1) hh _ l hlI (intItems xs), st, hfp, by simpa [intItems] using hsz, CmpOf.ints_lt (numAt xs) (fun _ _ => intItems_at), fun v h' tk hP hk => ?_⟩
  obtain ⟨t, rfl⟩ := intItems_at (i := argBest (fun i j => decide (numAt xs i < numAt xs j)) (xs.size - 1)) (xs := xs) (v := v) (by simpa [intItems] using hP)
  obtain ⟨h1, h2⟩ := argBest_lt (numAt xs) (xs.size - 1)
  refine h h' tk _ t (old_keptT hk) ?_ fun a ha => ?_
  · rw [numAt_eq]; exact PySem.getD_mem (by rw [List.length_map, Array.length_toList]; omega)
  · obtain ⟨j, hj, rfl⟩ := mem_getD ha
    rw [List.length_map, Array.length_toList] at hj
    rw [← numAt_eq]; exact h2 j (by omega)
end
section
variable {X : Cx}
def SqA (K : PySem.W.Frag) (H : Hp) (a : Addr) (xs : List V) : Prop := SqL K H a xs ∨ SqT K H a xs
def rSumA (K : PySem.W.Frag) : List V → Hp → VK → Prop := fun vs H Q => ∃ (a : Addr) (ns : List Int), vs = [V.ref a] ∧ SqA K H a (ns.map V.int) ∧ Q (.int ns.sum) H
def rMaxA (K : PySem.W.Frag) : List V → Hp → VK → Prop := fun vs H Q => ∃ (a : Addr) (ns : List Int), vs = [V.ref a] ∧ SqA K H a (ns.map V.int) ∧ 0 < ns.length ∧ ∀ m, m ∈ ns → (∀ y, y ∈ ns → y ≤ m) → Q (.int m) H
def rMinA (K : PySem.W.Frag) : List V → Hp → VK → Prop := fun vs H Q => ∃ (a : Addr) (ns : List Int), vs = [V.ref a] ∧ SqA K H a (ns.map V.int) ∧ 0 < ns.length ∧ ∀ m, m ∈ ns → (∀ y, y ∈ ns → m ≤ y) → Q (.int m) H
theorem cr_sumA (hc : X.calm = true) : CallR X (.builtin "sum") (rSumA X.K) := by
  intro pins s σ H vs us Q I r ⟨a, ns, e, hs, q⟩
  rcases hs with hs | hs
  · exact cr_sum hc pins s σ H vs us Q I r ⟨a, ns, e, hs, q⟩
  · subst e
    obtain ⟨its, rv, hl, _⟩ := I.tuple hs
    rw [Vals.ref1 r]
    exact sum_rawT (I.ok.hd hc) hl rv.ints fun h' tk t' hk => ⟨.int _, H, I.kept hk, ⟨_, rfl⟩, q⟩
theorem cr_maxA (hc : X.calm = true) : CallR X (.builtin "max") (rMaxA X.K) := by
  intro pins s σ H vs us Q I r ⟨a, ns, e, hs, hne, q⟩
  rcases hs with hs | hs
  · exact cr_max hc pins s σ H vs us Q I r ⟨a, ns, e, hs, hne, q⟩
  · subst e
    obtain ⟨its, rv, hl, _⟩ := I.tuple hs
    rw [Vals.ref1 r]
    exact max_rawT (I.ok.hd hc) hl rv.ints hne fun h' tk m t' hk h1 h2 => ⟨.int _, H, I.kept hk, ⟨_, rfl⟩, q m h1 h2⟩
theorem cr_minA (hc : X.calm = true) : CallR X (.builtin "min") (rMinA X.K) := by
  intro pins s σ H vs us Q I r ⟨a, ns, e, hs, hne, q⟩
  rcases hs with hs | hs
  · exact cr_min hc pins s σ H vs us Q I r ⟨a, ns, e, hs, hne, q⟩
  · subst e
    obtain ⟨its, rv, hl, _⟩ := I.tuple hs
    rw [Vals.ref1 r]
    exact min_rawT (I.ok.hd hc) hl rv.ints hne fun h' tk m t' hk h1 h2 => ⟨.int _, H, I.kept hk, ⟨_, rfl⟩, q m h1 h2⟩
end
/-! ### a tuple repeated, any number -/
theorem tuple_mul1 (l : Addr) (items : Array Value) (n : Nat) (dd : Option Addr) (sl : Array (Option Value)) (x : Int) (u : Tok) (c0 : (decide (x < -(2 ^ 63)) || decide (x ≥ 2 ^ 63)) = false) (c1 : (items.isEmpty || x == 1) = true) :
    Meets (Builtin.«tuple.__mul__» ⟨[.ref l, .int x u], []⟩) (fun _ R s => s.heap.get? l = some { cls := .type "tuple", dict := dd, data := .seq items n, slots := sl } ∧ R (.ok (.ret (Value.ref l))) s) :=
  .of_wp fun prog w A R s h => by
    obtain ⟨hp, g, d, tk, os⟩ := s
    obtain ⟨hl, h⟩ := h
    have f1 := AutoSeq1.idx_int
    wp_walk using wpAny_loadPart' hl
    repeat (first
      | (refine wpAny_ite_false (decide_eq_false (by rw [c0]; exact Bool.false_ne_true)) ?_; wp_walk using wpAny_loadPart' hl)
      | (refine wpAny_ite_true (decide_eq_true c1) ?_; wp_walk using wpAny_loadPart' hl))
    exact ⟨_, rfl, h⟩
theorem tuple_mul0 (l : Addr) (items : Array Value) (n : Nat) (dd : Option Addr) (sl : Array (Option Value)) (x : Int) (u : Tok) (c0 : (decide (x < -(2 ^ 63)) || decide (x ≥ 2 ^ 63)) = false) (c1 : (items.isEmpty || x == 1) = false) (c2 : (decide (x ≤ 0) || items.isEmpty) = true) :
    Meets (Builtin.«tuple.__mul__» ⟨[.ref l, .int x u], []⟩) (fun _ R s => s.heap.get? l = some { cls := .type "tuple", dict := dd, data := .seq items n, slots := sl } ∧
      R (.ok (.ret (Value.ref s.heap.objs.size))) { s with heap := s.heap.push { cls := Value.type "tuple", data := Data.seq #[] }, toks := s.toks }) :=
  .of_wp fun prog w A R s h => by
    obtain ⟨hp, g, d, tk, os⟩ := s
    obtain ⟨hl, h⟩ := h
    have f1 := AutoSeq1.idx_int
    wp_walk using wpAny_loadPart' hl
    repeat (first
      | (refine wpAny_ite_false (decide_eq_false (by rw [c0]; exact Bool.false_ne_true)) ?_; wp_walk using wpAny_loadPart' hl)
      | (refine wpAny_ite_false (decide_eq_false (by rw [c1]; exact Bool.false_ne_true)) ?_; wp_walk using wpAny_loadPart' hl)
      | (refine wpAny_ite_true (decide_eq_true c2) ?_; wp_walk using wpAny_loadPart' hl))
    exact ⟨_, rfl, h⟩
def rRepA (K : PySem.W.Frag) : R2 := fun x y H Q => ∃ l k xs, x = .ref l ∧ y = .int k ∧ SqT K H l xs ∧ -(2 ^ 62) ≤ k ∧ k ≤ 1000 ∧ xs.length ≤ 1000 ∧ ((xs = [] ∨ k = 1) → Q (.ref l) H) ∧ (¬ (xs = [] ∨ k = 1) → ∀ p, H p = none → Q (.ref p) (upd H p (.tup (List.replicate k.toNat xs).flatten)))
theorem op_repA {X : Cx} : OpR X (binaryOp .Mult) (rRepA X.K) := by
  intro pins s σ H x y v u Q I rx ry h
  obtain ⟨l, k, xs, ex, ey, hT, h1, h2, hz, q1, q2⟩ := h
  by_cases hc : xs = [] ∨ k = 1
  · subst ex; subst ey
    cases rx
    obtain ⟨t, rfl⟩ := ry
    obtain ⟨its, r, ⟨⟨cls, dd, data, sl⟩, ho, hc', n, hd⟩, hs⟩ := I.tuple hT
    simp only at hc' hd
    subst hc' hd
    have hle : its.length = xs.length := r.length.symm
    have c0 : (decide (k < -(2 ^ 63)) || decide (k ≥ 2 ^ 63)) = false := by
      rw [decide_eq_false (by omega), decide_eq_false (by omega)] <;> rfl
    have c1 : (its.toArray.isEmpty || k == 1) = true := by
      rcases hc with e | e
      · have : its = [] := List.eq_nil_of_length_eq_zero (by rw [hle, e]; rfl)
        rw [this]; rfl
      · rw [e]; simp
    refine wpAny_binaryOp_repeat_ref (T := "tuple") (U := "int") (by decide) ⟨_, ho, rfl⟩ (fun s' => typeIs_int s' k t) noFill_tuple_mul F.fills_int_mul F.slot_int_rmul repeat_tuple F.slot_int_index.lookup
      (call_meets F.slot_int_rmul (typeIs_int s k t) F.entry_int_rmul (F.args_int_rmul_2 _ _) (int_rmul_tuple k t l its.toArray n dd sl)
        ⟨ho, rfl, ⟨_, ho, rfl⟩, call_meets F.slot_tuple_mul ⟨_, ho, rfl⟩ F.entry_tuple_mul (F.args_tuple_mul_2 _ _) (tuple_mul1 l its.toArray n dd sl k t c0 c1) ⟨ho, ?_⟩⟩)
    exact ⟨.ref l, H, I, rfl, q1 hc⟩
  · by_cases hk : k ≤ 0
    · subst ex; subst ey
      cases rx
      obtain ⟨t, rfl⟩ := ry
      obtain ⟨its, r, ⟨⟨cls, dd, data, sl⟩, ho, hc', n, hd⟩, hs⟩ := I.tuple hT
      simp only at hc' hd
      subst hc' hd
      have hle : its.length = xs.length := r.length.symm
      have hi : its.toArray.isEmpty = false := by
        cases its with
        | nil => exact absurd (List.eq_nil_of_length_eq_zero hle.symm) fun e => hc (.inl e)
        | cons a b => rfl
      have c0 : (decide (k < -(2 ^ 63)) || decide (k ≥ 2 ^ 63)) = false := by
        rw [decide_eq_false (by omega), decide_eq_false (by omega)] <;> rfl
      have c1 : (its.toArray.isEmpty || k == 1) = false := by
        rw [hi, Bool.false_or]
        exact beq_eq_false_iff_ne.mpr (by omega)
      have c2 : (decide (k ≤ 0) || its.toArray.isEmpty) = true := by rw [decide_eq_true hk]; rfl
      refine wpAny_binaryOp_repeat_ref (T := "tuple") (U := "int") (by decide) ⟨_, ho, rfl⟩ (fun s' => typeIs_int s' k t) noFill_tuple_mul F.fills_int_mul F.slot_int_rmul repeat_tuple F.slot_int_index.lookup
        (call_meets F.slot_int_rmul (typeIs_int s k t) F.entry_int_rmul (F.args_int_rmul_2 _ _) (int_rmul_tuple k t l its.toArray n dd sl)
          ⟨ho, rfl, ⟨_, ho, rfl⟩, call_meets F.slot_tuple_mul ⟨_, ho, rfl⟩ F.entry_tuple_mul (F.args_tuple_mul_2 _ _) (tuple_mul0 l its.toArray n dd sl k t c0 c1 c2) ⟨ho, ?_⟩⟩)
      have q := q2 hc
      rw [show k.toNat = 0 by omega] at q
      exact ⟨.ref s.heap.objs.size, _, I.laid (t' := s.toks) (o := .tup []) (fun b ob q => Heap.get?_push_of_some _ q) (Nat.le_refl _) ⟨Nat.zero_le _, [], .nil, IsTup.new _ _⟩, rfl, q _ (I.hok.fresh (Nat.le_refl _))⟩
    · exact op_repT pins s σ H x y v u Q I rx ry ⟨l, k, xs, ex, ey, hT, fun e => hc (.inl e), by have : k ≠ 1 := fun e => hc (.inr e); omega, h2, hz, q2 hc⟩
end Li
end

section
set_option Elab.async false
set_option linter.all false
set_option maxRecDepth 100000
set_option maxHeartbeats 4000000
/-! dict comprehensions of two clauses, keys that are tuples -/
namespace DcT
open PySem PySem.Spec PyProof.Rows L2
/-- the text: no tests -/
abbrev dx (kx vx ta ia tb ib : Expr) (sc : Scope) (gp : Pos) : Expr := .DictComp kx vx [⟨ta, ia, [], 0⟩, ⟨tb, ib, [], 0⟩] sc gp
section
variable (kx vx ta ia tb ib : Expr) (sc : Scope) (gp : Pos) (z acc : Value) (D : Addr) (env : Env)
theorem turn_a : compTurn (dx kx vx ta ia tb ib sc gp) 0 z acc env = (do
    standAt ia.pos
    match ← pyNext z with
    | none => pure (.done .next)
    | some v =>
      letOwnedTupleGo ta z v
      assign ta env v
      let y ← eval ib env
      standAt ib.pos
      let y ← foldedSetIterable ib env y
      let _ ← runOwn (.compStart (dx kx vx ta ia tb ib sc gp) 1 (← holding [y] (pyIter y)) acc env) env
      again (.compLoop (dx kx vx ta ia tb ib sc gp) 0 z acc env)) := by rfl
theorem turn_b : compTurn (dx kx vx ta ia tb ib sc gp) 1 z (.ref D) env = (do
    standAt ib.pos
    match ← pyNext z with
    | none => pure (.done .next)
    | some v =>
      letOwnedTupleGo tb z v
      assign tb env v
      (do
        let kv ← eval kx env
        let vv ← holding [kv] (eval vx env)
        standAt { kx.pos with endLine := vx.pos.endLine, endCol := vx.pos.endCol }
        holding [kv, vv] (dictSet D kv vv))
      again (.compLoop (dx kx vx ta ia tb ib sc gp) 1 z (.ref D) env)) := by rfl
end
section
variable {prog : Program} {w : World} {A : Around} {R : Result → Shared → Prop} {s : Shared} {kx vx ta ia tb ib : Expr} {sc : Scope} {gp : Pos} {z : Value} {D : Addr} {env : Env}
/-- the way out of a raise -/
abbrev Er (prog : Program) (w : World) (A : Around) (env : Env) (R : Result → Shared → Prop) : Value → Shared → Prop := notedBy (model prog w) A env fun e s' => R (.error e) s'
theorem loop_a (hs : ∀ x, foldedSetIterable ib env x = pure x) (J : Nat → Shared → Prop)
    (turn : ∀ n s, J n s → wpAny (model prog w) A (pyNext z) (fun r s1 => match r with
      | none => R (.ok .next) s1
      | some v => wpAny (model prog w) A (letOwnedTupleGo ta z v) (fun _ s2 => wpAny (model prog w) A (assign ta env v) (fun _ s3 => wpAny (model prog w) A (eval ib env) (fun y s4 => wpAny (model prog w) A (pyIter y) (fun z1 s5 =>
          codeAny (model prog w) A (.compStart (dx kx vx ta ia tb ib sc gp) 1 z1 (.ref D) env) (fun r s' => match r with
            | .ok _ => ∃ m, m < n ∧ J m s'
            | .error _ => False) s5) (Er prog w A env R) s4) (Er prog w A env R) s3) (Er prog w A env R) s2) (Er prog w A env R) s1) (Er prog w A env R) s)
    (n : Nat) (h : J n s) : codeAny (model prog w) A (.compLoop (dx kx vx ta ia tb ib sc gp) 0 z (.ref D) env) R s := by
  refine codeAny_loop rfl J (fun n s hJ => ?_) n h
  show wpAny _ A ((compTurn (dx kx vx ta ia tb ib sc gp) 0 z (.ref D) env).onRaise (fun x => do noteFrame x env; theTreesLotGoes x)) _ _ s
  refine wpAny_noted ?_
  rw [turn_a]
  refine wpAny_bind (wpAny_standAt (wpAny_bind (wpAny_mono (turn n s hJ) (fun r s1 q1 => ?_) fun _ _ q => q)))
  cases r with
  | none => exact wpAny_pure q1
  | some v =>
    refine wpAny_bind (wpAny_mono q1 (fun _ s2 q2 => wpAny_bind (wpAny_mono q2 (fun _ s3 q3 => wpAny_bind (wpAny_mono q3 (fun y s4 q4 => ?_) fun _ _ q => q)) fun _ _ q => q)) fun _ _ q => q)
    refine wpAny_bind (wpAny_standAt (wpAny_bind (wpAny_of_eq (hs y) (wpAny_bind (wpAny_holding (wpAny_mono q4 (fun z1 s5 q5 => wpAny_bind (wpAny_runOwn ?_)) fun _ _ q => q))))))
    rw [Around.mark_none]
    refine codeAny_mono q5 fun r s' hr => ?_
    cases r with
    | ok f => first | exact wpAny_pure ⟨rfl, hr⟩ | exact wpAny_bind (wpAny_pure (wpAny_pure ⟨rfl, hr⟩))
    | error e => exact hr.elim
theorem loop_b (J : Nat → Shared → Prop)
    (turn : ∀ n s, J n s → wpAny (model prog w) A (pyNext z) (fun r s1 => match r with
      | none => R (.ok .next) s1
      | some v => wpAny (model prog w) A (letOwnedTupleGo tb z v) (fun _ s2 => wpAny (model prog w) A (assign tb env v) (fun _ s3 => wpAny (model prog w) A (eval kx env) (fun kv s4 => wpAny (model prog w) A (eval vx env) (fun vv s5 =>
          wpAny (model prog w) A (dictSet D kv vv) (fun _ s6 => ∃ m, m < n ∧ J m s6) (Er prog w A env R) s5) (Er prog w A env R) s4) (Er prog w A env R) s3) (Er prog w A env R) s2) (Er prog w A env R) s1) (Er prog w A env R) s)
    (n : Nat) (h : J n s) : codeAny (model prog w) A (.compLoop (dx kx vx ta ia tb ib sc gp) 1 z (.ref D) env) R s := by
  refine codeAny_loop rfl J (fun n s hJ => ?_) n h
  show wpAny _ A ((compTurn (dx kx vx ta ia tb ib sc gp) 1 z (.ref D) env).onRaise (fun x => do noteFrame x env; theTreesLotGoes x)) _ _ s
  refine wpAny_noted ?_
  rw [turn_b]
  refine wpAny_bind (wpAny_standAt (wpAny_bind (wpAny_mono (turn n s hJ) (fun r s1 q1 => ?_) fun _ _ q => q)))
  cases r with
  | none => exact wpAny_pure q1
  | some v =>
    refine wpAny_bind (wpAny_mono q1 (fun _ s2 q2 => wpAny_bind (wpAny_mono q2 (fun _ s3 q3 => ?_) fun _ _ q => q)) fun _ _ q => q)
    refine wpAny_bind (wpAny_bind (wpAny_mono q3 (fun kv s4 q4 => wpAny_bind (wpAny_holding (wpAny_mono q4 (fun vv s5 q5 => wpAny_bind (wpAny_standAt (wpAny_holding (wpAny_mono q5 (fun _ s6 q6 => wpAny_pure ⟨rfl, q6⟩) fun _ _ q => q)))) fun _ _ q => q))) fun _ _ q => q))
theorem start_b (h : wpAny (model prog w) A (pyIter z) (fun z' s' => codeAny (model prog w) A (.compLoop (dx kx vx ta ia tb ib sc gp) 1 z' (.ref D) env) R s') (Er prog w A env R) s)
    (h0 : codeAny (model prog w) A (.compLoop (dx kx vx ta ia tb ib sc gp) 1 z (.ref D) env) R s) : codeAny (model prog w) A (.compStart (dx kx vx ta ia tb ib sc gp) 1 z (.ref D) env) R s := by
  refine codeAny_of_tree ?_
  show wpAny _ _ ((compStart (dx kx vx ta ia tb ib sc gp) 1 z (.ref D) env).onRaise (fun x => do noteFrame x env; standAt theWindowsPlace)) _ _ s
  refine wpAny_notedAt ?_
  unfold compStart
  show wpAny _ _ (ask >>= _) _ _ s
  refine wpAny_bind (wpAny_askSetting (wpAny_ite ?_))
  split
  · first
      | exact wpAny_bind (wpAny_pure (wpAny_pure (And.intro rfl h0)))
      | exact wpAny_pure (And.intro rfl h0)
  · first
      | exact wpAny_bind (wpAny_rule (wpAny_bind (wpAny_standAt (wpAny_bind (wpAny_mono h (fun z' s' q => wpAny_pure (And.intro rfl q)) fun _ _ x => x)))))
      | (refine wpAny_bind (wpAny_rule ?_); show wpAny _ _ (standAt ib.pos >>= _) _ _ s; exact wpAny_bind (wpAny_standAt (wpAny_bind (wpAny_mono h (fun z' s' q => wpAny_pure (And.intro rfl q)) fun _ _ x => x))))
end
/-- d[k] = v by a comprehension, the key a tuple -/
theorem set_t {X : Cx} {pins : List (Addr × Obj)} {σ : L2.St} {H : Hp} {s : Shared} {E : Value → Shared → Prop} {D b : Addr} {kvs : List (List Key × V)} {k : List Key} {v : V} {r : Value} {Q : Unit → Shared → Prop} (hu : X.A.units < cLine) (I : Inv X pins σ H s) (hD : H D = some (.dT kvs)) (hb : H b = some (.tup (k.map kV))) (hz : kvs.length < sizeLine)
    (rv : RelV v r) (h : ∀ s', Inv X pins σ (upd H D (.dT (putK kvs k v))) s' → Q () s') : wpAny (model X.prog X.w) X.A (dictSet D (.ref b) r) Q E s := by
  obtain ⟨zz, hd, xs, rel, dd⟩ := dt_of I.hok hD
  have hzx : xs.length ≤ sizeLine := by rw [← Paired.length rel]; exact zz
  have hl : (putK kvs k v).length ≤ sizeLine := by have := length_putK kvs k v; omega
  refine wpAny_dictSet_heap (hsz := hzx) hu (key_of I.hok hb) dd fun h' dd' hs => h _ ?_
  obtain ⟨q, es, ep, hq, h2, h3, h4, _, h5⟩ := dd'
  refine d_write I (by rw [hD]; exact True.intro) hs ⟨q, hq⟩ ⟨hl, hd, _, (rel.put k hb rv).keeps fun c ys ec => ?_, q, es, ep, hq, h2, h3, h4, h5⟩
  rw [upd_ne (ne_of ec hD (fun z => nomatch z))]
  exact ec

section
variable {X : Cx}
/-- {k: v for .. in .. for .. in ..}: the new dict at D; vs the block's names, us those of the second target -/
def tDc2 (wa : TI) (ga : TG) (wb : TI) (gb : TG) (tk tv : TE) (vs us : List Nat) : TE := fun σ H Q => wa σ H fun J H1 => ∀ D, H1 D = none → ∃ W : Nat → Nat → Hp → Prop, (∃ m, W 0 m (upd H1 D (.dT []))) ∧ ∀ i m H, W i m H →
  (J.stop i H ∧ Q (.ref D) H) ∨ (J.go i H ∧ ∃ N : Hp → Prop, (∀ H', N H' → ∃ m', m' < m ∧ W (i + 1) m' H') ∧ ∀ x H', J.yld i H x H' → ga x (wipe σ vs) H' fun σ2 H2 => wipe σ2 vs = wipe σ vs ∧
    wb σ2 H2 fun J1 H4 => ∃ V1 : Nat → Nat → Hp → Prop, (∃ m, V1 0 m H4) ∧ ∀ j k H, V1 j k H →
      (J1.stop j H ∧ N H) ∨ (J1.go j H ∧ ∃ N1 : Hp → Prop, (∀ H', N1 H' → ∃ k', k' < k ∧ V1 (j + 1) k' H') ∧ ∀ x H', J1.yld j H x H' → gb x (wipe σ2 us) H' fun σ3 H5 => wipe σ3 us = wipe σ2 us ∧
        tk σ3 H5 fun y H6 => tv σ3 H6 fun u H7 => ∃ (kvs : List (List Key × V)) (k : List Key) (b : Addr), y = .ref b ∧ H7 b = some (.tup (k.map kV)) ∧ H7 D = some (.dT kvs) ∧ kvs.length < sizeLine ∧ N1 (upd H7 D (.dT (putK kvs k u)))))
theorem dc2_core {pins : List (Addr × Obj)} {s : Shared} {σ : L2.St} {H : Hp} {Q : VK} {kx vx ta ia tb ib : Expr} {sc : Scope} {own : List (Str × Nat)} {us : List Nat} {gp gp' : Pos} {wa wb : TI} {ga gb : TG} {tk tv : TE} {use : Option (Value → Sem Unit)} {Qf : Value → Shared → Prop}
    (hc : X.calm = true) (hN : X.N.Nodup) (hu : X.A.units < cLine) (I : Inv X pins σ H s) (hia : PI X ta ia wa) (ok : BlkOk X.N X.env.scope sc own) (hv : ∀ i ∈ us, i ∈ own.map (·.2))
    (hga : ∀ (s : Shared) (H : Hp) (C : Addr) (cl : List (Str × Addr)) (fp : List Addr), PG (X.blk s H sc (compEnvC sc cl C X.env) fp) ta ga)
    (hib : ∀ (s : Shared) (H : Hp) (C : Addr) (cl : List (Str × Addr)) (fp : List Addr), PI (X.blk s H sc (compEnvC sc cl C X.env) fp) tb ib wb)
    (hgb : ∀ (s : Shared) (H : Hp) (C : Addr) (cl : List (Str × Addr)) (fp : List Addr), PG (X.blk s H sc (compEnvC sc cl C X.env) fp) tb gb)
    (hk : ∀ (s : Shared) (H : Hp) (C : Addr) (cl : List (Str × Addr)) (fp : List Addr), PE (X.blk s H sc (compEnvC sc cl C X.env) fp) kx tk)
    (hx : ∀ (s : Shared) (H : Hp) (C : Addr) (cl : List (Str × Addr)) (fp : List Addr), PE (X.blk s H sc (compEnvC sc cl C X.env) fp) vx tv)
    (fa : ∀ x, foldedSetIterable ia X.env x = pure x) (fb : ∀ env x, foldedSetIterable ib env x = pure x) (h : tDc2 wa ga wb gb tk tv (own.map (·.2)) us σ H Q)
    (hRR : ∀ D C s' m H', Inv X pins σ H' s' → Q (.ref D) H' → s'.heap.Ns C m → FpOk X pins H' C → compPost (model X.prog X.w) X.A X.xe use Qf (.ref D) C (.ok .next) s') :
    wpAny (model X.prog X.w) X.A (comprehension (dx kx vx ta ia tb ib sc gp) sc X.env gp' newDict false (eval ia X.env) use) Qf X.xe s := by
  have hfree : ∀ y ∈ sc.names, y.2 = .free → ∃ c, X.env.cells.lookup y.1 = some c := fun y hy e => (ok.free y hy e).elim (fun k => I.ok.has _ (.inl k)) fun k => I.ok.has _ (.inr k)
  refine wpAny_comprehension_free (use := use) rfl fa (closure_ok hfree) ok.kind (fun y hy e => by rw [ok.uniq y hy, e]) (thn (hia.run pins s σ H _ I h) fun a1 r1 w1 => thn w1 fun a2 r2 w2 => ?_)
  obtain ⟨it, fp, tn, J, Ha, rfl, Ia, T, sa, fpa, q⟩ := w2
  refine wpAny_newObj_type (newEnv_comp ?_)
  generalize hD : r2.heap.objs.size = D
  have hDn : Ha D = none := Ia.hok.fresh (Nat.le_of_eq hD)
  obtain ⟨W, ⟨m0, w0⟩, step⟩ := q D hDn
  generalize hr3 : ({ r2 with heap := r2.heap.push { cls := .type "dict", data := .dict #[] } } : Shared) = r3
  have Ib : Inv X pins σ (upd Ha D (.dT [])) r3 := by
    rw [← hr3]
    refine Ia.laid (t' := r2.toks) (fun b o e => Heap.get?_push_of_some _ e) (Nat.le_of_eq hD) ?_
    rw [← hD]; exact dt_empty r2.heap Ia.big
  have h3 : r3.heap = r2.heap.push { cls := .type "dict", data := .dict #[] } := by rw [← hr3]
  have fpb : ∀ b ∈ fp, FpOk X pins (upd Ha D (.dT [])) b ∧ b < r3.heap.objs.size := fun b hb => by
    have lt : b < r2.heap.objs.size := by
      obtain ⟨o, e, _⟩ := T.obj _ _ sa b hb
      exact Heap.lt_size e
    refine ⟨⟨?_, (fpa b hb).2⟩, by rw [h3, Heap.size_push]; exact Nat.lt_succ_of_lt lt⟩
    rw [upd_ne (by rw [← hD]; exact Nat.ne_of_lt lt)]; exact (fpa b hb).1
  have sb : tn 0 r3.heap := T.keep _ _ _ sa fun b _ o e => by rw [h3]; exact Heap.get?_push_of_some _ e
  have Ic := block_start Ib ok hN fpb
  generalize hHb : upd Ha D (.dT []) = Hb at Ib Ic fpb w0
  have pga := hga r3 Hb r3.heap.objs.size (cellsFrom (r3.heap.objs.size + 1) sc.names (cloFrom X.env.cells sc.names [])) fp
  have pib := hib r3 Hb r3.heap.objs.size (cellsFrom (r3.heap.objs.size + 1) sc.names (cloFrom X.env.cells sc.names [])) fp
  have pgb := hgb r3 Hb r3.heap.objs.size (cellsFrom (r3.heap.objs.size + 1) sc.names (cloFrom X.env.cells sc.names [])) fp
  have pk := hk r3 Hb r3.heap.objs.size (cellsFrom (r3.heap.objs.size + 1) sc.names (cloFrom X.env.cells sc.names [])) fp
  have px := hx r3 Hb r3.heap.objs.size (cellsFrom (r3.heap.objs.size + 1) sc.names (cloFrom X.env.cells sc.names [])) fp
  show codeAny _ _ (.compStart (dx kx vx ta ia tb ib sc gp) 0 (.ref it) (.ref D) (compEnvC sc (cellsFrom (r3.heap.objs.size + 1) sc.names (cloFrom X.env.cells sc.names [])) r3.heap.objs.size X.env)) (compPost (model X.prog X.w) X.A X.xe use Qf (.ref D) r3.heap.objs.size) { r3 with heap := pushCells (r3.heap.push { cls := .type "dict", data := .dict #[] }) sc.names }
  generalize hce : compEnvC sc (cellsFrom (r3.heap.objs.size + 1) sc.names (cloFrom X.env.cells sc.names [])) r3.heap.objs.size X.env = ce at Ic pga pib pgb pk px ⊢
  have cL : ce.locals = r3.heap.objs.size := by subst hce; rfl
  have nb : ∀ b ∈ fp, Hb b = none := fun b hb => (fpb b hb).1.1
  generalize hr4 : ({ r3 with heap := pushCells (r3.heap.push { cls := .type "dict", data := .dict #[] }) sc.names } : Shared) = r4 at Ic ⊢
  have sc4 : tn 0 r4.heap := T.keep _ _ _ sb fun b _ o e => by rw [← hr4]; exact pushCells_keeps _ _ _ _ (Heap.get?_push_of_some _ e)
  have far : ∀ {σ' : L2.St} {H' : Hp} {s' : Shared}, Inv (X.blk r3 Hb sc ce fp) [] σ' H' s' → (∀ b ∈ fp, H' b = none) → ∀ b ∈ fp, FpOk (X.blk r3 Hb sc ce fp) [] H' b := fun I' n b hb =>
    ⟨n b hb, (I'.ok.exf b hb).1, I'.ok.exfs b hb, .inl hb, fun x c e => (I'.ok.exf b hb).2 x c e, fun p hp => absurd (show p ∈ ([] : List (Addr × Obj)) ++ [] from hp) (by simp)⟩
  -- at the head of the outer loop
  let At : Nat → Shared → Prop := fun n s' => ∃ i H', Inv (X.blk r3 Hb sc ce fp) [] (wipe σ (own.map (·.2))) H' s' ∧ tn i s'.heap ∧ (∀ b ∈ fp, H' b = none) ∧ W i n H'
  have whole : codeAny (model X.prog X.w) X.A (.compLoop (dx kx vx ta ia tb ib sc gp) 0 (.ref it) (.ref D) ce) (compPost (model X.prog X.w) X.A X.xe use Qf (.ref D) r3.heap.objs.size) r4 := by
    refine loop_a (fb ce) At ?_ m0 ⟨0, Hb, Ic, sc4, nb, w0⟩
    rintro n t0 ⟨i, K0, B0, st0, n0, v0⟩
    rcases step i n K0 v0 with ⟨stp, fin⟩ | ⟨go, N, hN', each⟩
    · refine thnF (T.done (X.blk r3 Hb sc ce fp) rfl rfl rfl hc i [] t0 _ K0 (fun _ _ => False) B0 (far B0 n0) st0 stp) fun r t1 ⟨hr, B1⟩ => ?_
      subst hr
      have B2 : Inv X pins σ K0 t1 := Ib.call' (ch := fp) B1.os B1.base B1.hok B1.bare fun b hb => ⟨(fpb b hb).1.2.2.2.1, (fpb b hb).1.2.1, (fpb b hb).1.2.2.2.2.1, (fpb b hb).1.2.2.2.2.2⟩
      obtain ⟨m, hn, _⟩ := B1.loc
      refine hRR D r3.heap.objs.size t1 m K0 B2 fin (by rw [← cL]; exact hn) (Ib.fpOk (Nat.le_refl _) ?_)
      rw [← cL]; exact B1.free
    · refine thnF (T.item (X.blk r3 Hb sc ce fp) rfl rfl rfl hc i [] t0 _ K0 (fun _ _ => False) B0 (far B0 n0) st0 go) fun r t1 ⟨u, hr, w⟩ => ?_
      subst hr
      refine thnF w fun _ t2 ⟨x, K2, B2, rx, yx, st2, n2⟩ => ?_
      have B2p := B2.pinned (far B2 n2) (T.obj _ _ st2)
      refine thnF (pga.run _ t2 _ K2 x u _ B2p rx (each x K2 yx)) fun _ t3 ⟨σ3, K3, B3, hw3, q3⟩ => ?_
      have len3 : (wipe σ (own.map (·.2))).length = σ3.length := by rw [← hw3, wipe_length]
      have know : ∀ (j : Nat) v, (wipe σ (own.map (·.2)))[j]? = some (some v) → (wipe σ3 us)[j]? = some (some v) := fun j v e => by
        rw [← hw3] at e
        obtain ⟨e1, e2⟩ := wipe_some e
        rw [wipe_out fun z => e2 (hv j z)]; exact e1
      -- from the inner loop's end to the head of the outer one
      have up : ∀ {s' : Shared} {H' : Hp}, Inv (X.blk r3 Hb sc ce fp) ([] ++ pinsAt fp t2.heap) (wipe σ3 us) H' s' → N H' → ∃ m, m < n ∧ At m s' := fun {s' H'} B' nx => by
        obtain ⟨m', hm, v'⟩ := hN' H' nx
        have pin : ∀ b ∈ fp, ∀ o, t2.heap.get? b = some o → s'.heap.get? b = some o ∧ H' b = none := fun b hb o e =>
          let z := B'.pin (b, o) (List.mem_append_right _ (List.mem_append_right _ (mem_pinsAt hb e)))
          ⟨z.1, z.2.1⟩
        refine ⟨m', hm, i + 1, H', (B'.unpinned (pins := [])).weak (len3.trans (wipe_length σ3 us).symm) know, T.keep _ _ _ st2 fun b hb o e => (pin b hb o e).1, fun b hb => ?_, v'⟩
        obtain ⟨o, e, _⟩ := T.obj _ _ st2 b hb
        exact (pin b hb o e).2
      refine thnF (pib.run _ t3 σ3 K3 _ B3 q3) fun a4 t4 w4 => thnF w4 fun a5 t5 w5 => ?_
      obtain ⟨it1, fp1, tn1, J1, K5, rfl, B5, T1, st5, fp5, V1, ⟨m1, v1⟩, step1⟩ := w5
      have far1 : ∀ {H' : Hp}, (∀ b ∈ fp1, H' b = none) → ∀ b ∈ fp1, FpOk (X.blk r3 Hb sc ce fp) ([] ++ pinsAt fp t2.heap) H' b := fun n b hb => ⟨n b hb, (fp5 b hb).2⟩
      let At1 : Nat → Shared → Prop := fun k s' => ∃ j H', Inv (X.blk r3 Hb sc ce fp) ([] ++ pinsAt fp t2.heap) (wipe σ3 us) H' s' ∧ tn1 j s'.heap ∧ (∀ b ∈ fp1, H' b = none) ∧ V1 j k H'
      have inner : codeAny (model X.prog X.w) X.A (.compLoop (dx kx vx ta ia tb ib sc gp) 1 (.ref it1) (.ref D) ce) (fun r s' => match r with
          | .ok _ => ∃ m, m < n ∧ At m s'
          | .error _ => False) t5 := by
        refine loop_b At1 ?_ m1 ⟨0, K5, B5.weak (wipe_length _ _) (fun j v e => (wipe_some e).1), st5, fun b hb => (fp5 b hb).1, v1⟩
        rintro k t6 ⟨j, K6, B6, st6, n6, v6⟩
        rcases step1 j k K6 v6 with ⟨stp1, nx⟩ | ⟨go1, N1, hN1, each1⟩
        · refine thnF (T1.done (X.blk r3 Hb sc ce fp) rfl rfl rfl hc j _ t6 (wipe σ3 us) K6 (fun _ _ => False) B6 (far1 n6) st6 stp1) fun r t7 ⟨hr, B7⟩ => ?_
          subst hr
          exact up B7 nx
        · refine thnF (T1.item (X.blk r3 Hb sc ce fp) rfl rfl rfl hc j _ t6 (wipe σ3 us) K6 (fun _ _ => False) B6 (far1 n6) st6 go1) fun r t7 ⟨u1, hr, w7⟩ => ?_
          subst hr
          refine thnF w7 fun _ t8 ⟨x1, K8, B8, rx1, yx1, st8, n8⟩ => ?_
          have B8p := B8.pinned (far1 n8) (T1.obj _ _ st8)
          refine thnF (pgb.run _ t8 (wipe σ3 us) K8 x1 u1 _ B8p rx1 (each1 x1 K8 yx1)) fun _ t9 ⟨σ9, K9, B9, hw9, q9⟩ => ?_
          refine thnF (pk.run _ t9 σ9 K9 _ B9 q9) fun kv ta' ⟨yk, Ka, Ba, rk, qa⟩ => ?_
          refine thnF (px.run _ ta' σ9 Ka _ Ba qa) fun vv tb' ⟨yv, Kb, Bb, rv, kvs, kk, b, ek, eb, eD, hz, nx⟩ => ?_
          subst ek
          obtain rfl : kv = Value.ref b := rk
          refine set_t (X := X.blk r3 Hb sc ce fp) hu Bb eD eb hz rv fun tc Bc => ?_
          obtain ⟨m', hm, v'⟩ := hN1 _ nx
          have pin : ∀ b ∈ fp1, ∀ o, t8.heap.get? b = some o → tc.heap.get? b = some o ∧ (upd Kb D (.dT (putK kvs kk yv))) b = none := fun b hb o e =>
            let z := Bc.pin (b, o) (List.mem_append_right _ (List.mem_append_right _ (mem_pinsAt hb e)))
            ⟨z.1, z.2.1⟩
          refine ⟨m', hm, j + 1, _, Bc.unpinned.weak (by rw [← hw9, wipe_length]) (fun j v e => by rw [← hw9] at e; exact (wipe_some e).1), T1.keep _ _ _ st8 fun b hb o e => (pin b hb o e).1, fun b hb => ?_, v'⟩
          obtain ⟨o, e, _⟩ := T1.obj _ _ st8 b hb
          exact (pin b hb o e).2
      exact start_b (T1.self X.A 0 _ _ _ st5 inner) inner
  exact codeAny_compStart_dict whole (T.self X.A 0 _ _ _ sc4 whole)
/-- as a value; behind it the dict is locked for good -/
theorem pe_dc2 {kx vx ta ia tb ib : Expr} {sc : Scope} {own : List (Str × Nat)} {us : List Nat} {gp : Pos} {wa wb : TI} {ga gb : TG} {tk tv : TE}
    (hc : X.calm = true) (hN : X.N.Nodup) (hu : X.A.units < cLine) (hia : PI X ta ia wa) (ok : BlkOk X.N X.env.scope sc own) (hv : ∀ i ∈ us, i ∈ own.map (·.2))
    (hga : ∀ (s : Shared) (H : Hp) (C : Addr) (cl : List (Str × Addr)) (fp : List Addr), PG (X.blk s H sc (compEnvC sc cl C X.env) fp) ta ga)
    (hib : ∀ (s : Shared) (H : Hp) (C : Addr) (cl : List (Str × Addr)) (fp : List Addr), PI (X.blk s H sc (compEnvC sc cl C X.env) fp) tb ib wb)
    (hgb : ∀ (s : Shared) (H : Hp) (C : Addr) (cl : List (Str × Addr)) (fp : List Addr), PG (X.blk s H sc (compEnvC sc cl C X.env) fp) tb gb)
    (hk : ∀ (s : Shared) (H : Hp) (C : Addr) (cl : List (Str × Addr)) (fp : List Addr), PE (X.blk s H sc (compEnvC sc cl C X.env) fp) kx tk)
    (hx : ∀ (s : Shared) (H : Hp) (C : Addr) (cl : List (Str × Addr)) (fp : List Addr), PE (X.blk s H sc (compEnvC sc cl C X.env) fp) vx tv)
    (fa : ∀ x, foldedSetIterable ia X.env x = pure x) (fb : ∀ env x, foldedSetIterable ib env x = pure x) :
    PE X (dx kx vx ta ia tb ib sc gp) (fun σ H Q => tDc2 wa ga wb gb tk tv (own.map (·.2)) us σ H fun x H1 => ∃ D kvs, x = .ref D ∧ H1 D = some (.dT kvs) ∧ ∀ o, Q x (upd H1 D (.frz o (.dT kvs)))) := by
  refine ⟨fun pins s σ H Q I h => ?_⟩
  show wpAny _ _ (eval (.DictComp kx vx [⟨ta, ia, [], 0⟩, ⟨tb, ib, [], 0⟩] sc gp) X.env) _ _ s
  rw [arm_eval_DictComp]
  refine dc2_core hc hN hu I hia ok hv hga hib hgb hk hx fa fb h fun D C s' m H' I' q hn f => ⟨m, hn, fun h'' same => ?_⟩
  obtain ⟨f0, f1, f2, f3, f4, f5⟩ := f
  obtain ⟨D', kvs, eD, hd, q⟩ := q
  cases eD
  have I2 := I'.turned (h' := h'') (t' := s'.toks) (fun b o hb e => (same.2 b hb).trans e) f0 f1 f3 f4 f5
  obtain ⟨od, I3⟩ := I2.lock hd True.intro
  exact ⟨.ref D, _, I3, rfl, q od⟩
/-- x = {..}, the name taken from the block -/
theorem ps_setDc2 {i : Nat} {y : Str} {py spos : Pos} {kx vx ta ia tb ib : Expr} {sc : Scope} {own : List (Str × Nat)} {us : List Nat} {gp : Pos} {wa wb : TI} {ga gb : TG} {tk tv : TE}
    (hc : X.calm = true) (hN : X.N.Nodup) (hu : X.A.units < cLine) (hy : X.N[i]? = some y) (hyl : X.env.scope.names.lookup y = some .local) (hsw : swapsWith (dx kx vx ta ia tb ib sc gp) (some (.Name y py)) spos.line X.env = pure true) (hia : PI X ta ia wa) (ok : BlkOk X.N X.env.scope sc own) (hv : ∀ i ∈ us, i ∈ own.map (·.2))
    (hga : ∀ (s : Shared) (H : Hp) (C : Addr) (cl : List (Str × Addr)) (fp : List Addr), PG (X.blk s H sc (compEnvC sc cl C X.env) fp) ta ga)
    (hib : ∀ (s : Shared) (H : Hp) (C : Addr) (cl : List (Str × Addr)) (fp : List Addr), PI (X.blk s H sc (compEnvC sc cl C X.env) fp) tb ib wb)
    (hgb : ∀ (s : Shared) (H : Hp) (C : Addr) (cl : List (Str × Addr)) (fp : List Addr), PG (X.blk s H sc (compEnvC sc cl C X.env) fp) tb gb)
    (hk : ∀ (s : Shared) (H : Hp) (C : Addr) (cl : List (Str × Addr)) (fp : List Addr), PE (X.blk s H sc (compEnvC sc cl C X.env) fp) kx tk)
    (hx : ∀ (s : Shared) (H : Hp) (C : Addr) (cl : List (Str × Addr)) (fp : List Addr), PE (X.blk s H sc (compEnvC sc cl C X.env) fp) vx tv)
    (fa : ∀ x, foldedSetIterable ia X.env x = pure x) (fb : ∀ env x, foldedSetIterable ib env x = pure x) :
    PS X (.Assign [.Name y py] (dx kx vx ta ia tb ib sc gp) spos) (tAsg (fun σ H Q => tDc2 wa ga wb gb tk tv (own.map (·.2)) us σ H fun x H1 => ∃ D kvs, x = .ref D ∧ H1 D = some (.dT kvs) ∧ ∀ o, Q x (upd H1 D (.frz o (.dT kvs)))) (gName i)) := by
  refine ⟨fun pins s σ H E I h => ?_⟩
  rw [exec_Assign_Name_used _ _ _ _ hsw]
  refine wpAny_bind (wpAny_standAt (wpAny_bind ?_))
  show wpAny _ X.A (do let _ ← comprehension (dx kx vx ta ia tb ib sc gp) sc X.env (firstIterPos [⟨ta, ia, [], 0⟩, ⟨tb, ib, [], 0⟩] gp) newDict false (eval ia X.env) (some (assign (.Name y py) X.env))) _ _ s
  have h : tDc2 wa ga wb gb tk tv (own.map (·.2)) us σ H (fun x H1 => ∃ D kvs, x = .ref D ∧ H1 D = some (.dT kvs) ∧ ∀ o, gName i x σ (upd H1 D (.frz o (.dT kvs))) E.nx) := h
  refine wpAny_bind (thn (dc2_core (Qf := fun _ s' => SP X pins E .next s') hc hN hu I hia ok hv hga hib hgb hk hx fa fb h fun D C s' m H' I' q hn f => ?_) fun _ s' hq => wpAny_pure (wpAny_pure hq))
  obtain ⟨D', kvs, eD, hd, q⟩ := q
  cases eD
  obtain ⟨od, I3⟩ := I'.lock hd True.intro
  have q := q od
  show wpAny _ _ (assign (.Name y py) X.env (.ref D)) _ _ _
  refine wpAny_assign_Name (store_ok2 (v := V.ref D) I3 hN hy (.inl hyl) rfl (fun t I2 ⟨a, sb, ha⟩ => ?_) (.inr hyl))
  obtain ⟨f0, f1, f2, f3, f4, f5⟩ := f
  have hCa : C ≠ a := by
    rcases ha with z | z
    · rw [z]; exact f1
    · exact fun e => f4 y a z e.symm
  refine ⟨m, hn.sameBut sb hCa, fun h3 sb3 => ⟨_, _, I2.turned (t' := t.toks) (fun b o hb e => (sb3.2 b hb).trans e) ?_ f1 f3 f4 f5, q⟩⟩
  by_cases e : C = D
  · subst e; rw [f0] at hd; cases hd
  · rw [upd_ne e]; exact f0
end
end DcT
end

section
set_option Elab.async false
set_option linter.all false
set_option maxRecDepth 100000
set_option maxHeartbeats 4000000
/-! an own exception over ValueError whose __init__ says super().__init__(f"..{name}") and self.name = name -/
namespace ExS
open PySem PySem.W PySem.Calls PyProof.Rows L2
/-- the two lines -/
structure NsF (prog : Program) (K : Frag) (C fI : Addr) (fd : FuncData) : Prop where
  body : ∃ (p0 p1 p2 p3 p4 p5 p6 p7 p8 p9 p10 p11 p12 : Pos) (m0 : Str) (j : Nat), m0.length ≤ 1000 ∧ (p2.endLine == p7.line) = true ∧ (p12.line == p12.line) = true ∧ fd.body = .stmts [.Expr (.Call (.Attribute (.Call (.Name "super" p0) [] [] p1) "__init__" p2) [.JoinedStr [.Constant (.str m0) j p3, .FormattedValue (.Name "name" p4) (-1) none p5] p6] [] p7) p8,
    .Assign [.Attribute (.Name "self" p9) "name" p10] (.Name "name" p11) p12]
  params : ∃ a0 a1 : Arg, a0.arg = "self" ∧ a1.arg = "name" ∧ fd.params = ⟨[], [a0, a1], none, [], [], none, []⟩
  kind : fd.scope.kind = .function
  gen : fd.scope.isGenerator = false
  co : fd.scope.isCoroutine = false
  cell : ∀ x ∈ fd.scope.names, x.2 ≠ .cell
  lself : fd.scope.names.lookup ("self" : Str) = some .local
  lname : fd.scope.names.lookup ("name" : Str) = some .local
  lcls : fd.scope.names.lookup ("__class__" : Str) = some .free
  lsup : fd.scope.names.lookup ("super" : Str) = some .globalImplicit
  defs : fd.defaults = .none
  glob : fd.globals = mainGlobals
  blt : fd.builtins = builtinsNs
  clo : ∃ cc : Addr, fd.closure.lookup ("__class__" : Str) = some cc ∧ ∃ cl cld csl, K.lookup cc = some ⟨cl, cld, .cell (some (.ref C)), csl⟩
  code : ∃ (cda : Addr) (ccl : Value) (cdd : Option Addr) (ccs : Array (Option Value)) (vs : Array Value) (file : Str) (tf : Tok), fd.code = .ref cda ∧ codeIn K fd.code fd.qualname = true ∧ K.lookup cda = some ⟨ccl, cdd, .fields vs, ccs⟩ ∧ vs[2]? = some (.str file tf) ∧ (prog.main.file == file) = true
structure NsC (prog : Program) (K : Frag) (C : Addr) : Prop where
  oex : OexC K C
  fnd : findIn K (.ref C) "name" = some none
  ho : nsIn K cStatics "thirdparty.any" = some none
  sup : ks_superIn K C C "__init__" = some (some (.builtin "ValueError.__init__"))
  subVE : subIn K (.ref C) (.type "ValueError") = some true
  self : mroIn K C (.ref C) = some true
  top : (prog.main.scope.names.lookup ("super" : Str)).isSome = false
  fn : ∃ (fI : Addr) (fd : FuncData) (od : Option Addr) (osl : Array (Option Value)), findIn K (.ref C) "__init__" = some (some (.ref fI)) ∧ K.lookup fI = some ⟨.type "function", od, .func fd, osl⟩ ∧ NsF prog K C fI fd
theorem boot_super : bootBuiltins "super" = some (.type "super") := by decide +kernel
section
variable {prog : Program} {w : World} {A : Around} {K : Frag} {C fI e t0 : Addr} {fd : FuncData} {hp : Heap} {g : Array GenState} {d : Drawn} {tk : Nat} {os : OsState} {R : Result → Shared → Prop} {m : Str} {tm : Tok} {mg mb : Str → Option Value} {od : Option Addr} {osl : Array (Option Value)}
theorem ns_bind (hp : ∃ a0 a1 : Arg, a0.arg = "self" ∧ a1.arg = "name" ∧ fd.params = ⟨[], [a0, a1], none, [], [], none, []⟩) (hd : fd.defaults = .none) (x y : Value) : bindArgs fd ⟨[x, y], []⟩ = pure [(("self" : Str), x), (("name" : Str), y)] := by
  obtain ⟨⟨s0, an0, ps0⟩, ⟨s1, an1, ps1⟩, e0, e1, ep⟩ := hp
  obtain ⟨f1, f2, f3, f4, f5, f6, f7, f8, f9, f10, f11, f12, f13, f14, f15⟩ := fd
  dsimp only at e0 e1 ep hd
  subst e0 e1 ep hd
  first | rfl | kernel_rfl
/-- ValueError.__init__ bound to the object, called -/
theorem ns_call (T : NsC prog K C) {u : Addr} {v : Value} {Q : Value → Shared → Prop} {E : Value → Shared → Prop} (X : K.In hp) (hu : hp.get? u = some (kxs_mw "ValueError.__init__" e)) (he : hp.get? e = some (PySem.HandSPX.excO C t0))
    (h : ∀ h' t1, (∀ b o, b ≠ e → hp.get? b = some o → h'.get? b = some o) → h'.get? e = some (PySem.HandSPX.excO C t1) → Q .none ⟨h', g, d, tk, os⟩) :
    wpAny (model prog w) A (call (.ref u) [v]) Q E ⟨hp, g, d, tk, os⟩ := by
  obtain ⟨nm, q, N, bs, bm, sn, sub, ab, col, dd, k0, k1, k2, k3, k5, hC, hbm⟩ := T.oex.cls
  refine wpAny_call (codeAny_of_tree ?_)
  show wpAny _ A.in1 (callAny (.ref u) ⟨[v], []⟩) _ _ _
  simp only [callAny]
  refine wpAny_bind (wpAny_load hu ?_)
  simp only [kxs_mw, show (Value.type "method-wrapper" == Value.type "method" || Value.type "method-wrapper" == Value.type "builtin_function_or_method" || Value.type "method-wrapper" == Value.type "method-wrapper") = true by decide, if_true]
  refine KFB.if_so (by decide) ?_
  refine wpAny_bind (check_bound_init F.excBase_ValueError.toExcCallFacts (X _ _ hC) he rfl ?_)
  refine wpAny_bind (wpAny_pure (wpAny_pure ?_))
  refine ⟨plainId_quiet F.excBase_ValueError.init.plain _, codeAny_builtin F.excBase_ValueError.initEntry ?_⟩
  exact exc_init_tree (cls := .ref C) (t0 := t0) (dv := none) (c2 := .none) (c3 := .none) (b4 := .bool false) he (by rw [sizeLine_eq]; simp) fun h' k e' t' => h h' _ k e'
/-- self.name = name -/
theorem ns_store (T : NsC prog K C) (F : NsF prog K C fI fd) {L : Addr} {c : Code} {p9 p10 p11 p12 : Pos} {Q : Flow → Shared → Prop} {E : Value → Shared → Prop} (X : K.In hp) (he : hp.get? e = some (PySem.HandSPX.excO C t0))
    (hns : hp.Ns L fun x => List.lookup x [(("self" : Str), Value.ref e), (("name" : Str), Value.str m tm)].reverse)
    (h : ∀ h' tk' dx, (∀ b o, b ≠ e → hp.get? b = some o → h'.get? b = some o) → hp.objs.size ≤ dx → dx ≠ e → h'.get? e = some ({ cls := .ref C, dict := some dx, data := .fields #[.ref t0, .none, .none, .none, .bool false, .none] } : Obj) →
      h'.Ns1 dx (fun y => if y = "name" then some (.str m tm) else none) → Q .next ⟨h', g, d, tk', os⟩) :
    _root_.PySem.wpAt (model prog w) A c (execs [.Assign [.Attribute (.Name "self" p9) "name" p10] (.Name "name" p11) p12] (callEnv fd L fI)) Q E ⟨hp, g, d, tk, os⟩ := by
  obtain ⟨nm, q, N, bs, bm, sn, sub, ab, col, dd, k0, k1, k2, k3, k5, hC, hbm⟩ := T.oex.cls
  have hcl : clsIn K C = some { name := nm, bases := bs, mro := .ref C :: bm, ns := N, qualname := q, hasDict := true, slotNames := sn, subclasses := sub, abstract := ab, collection := col, hasDel := false } := by unfold clsIn; rw [hC] <;> rfl
  have nself : ([(("self" : Str), Value.ref e), (("name" : Str), Value.str m tm)].reverse.lookup ("self" : Str)) = some (.ref e) := by rfl
  have nname : ([(("self" : Str), Value.ref e), (("name" : Str), Value.str m tm)].reverse.lookup ("name" : Str)) = some (.str m tm) := by rfl
  refine ks_wpAt_execs_cons (ks_wpAt_Assign_Attr (_root_.PySem.wpAt_of_wpAny (ldc F.kind F.lname hns nname (ldc F.kind F.lself hns nself ?_))) rfl)
  refine set_plain X (ox := PySem.HandSPX.excO C t0) (od := none) ⟨he, rfl, rfl, trivial⟩ T.oex.sa ?_
  refine PySem.HandSPX.exc_osa X he hcl (show PySem.HandSPX.refsVE (.ref C :: bm) = true from hbm) rfl T.fnd (fun h' tk' dx k dn dne hx hn => ?_)
  exact _root_.PySem.wpAt_of_wpAny (wpAny_pure (h h' tk' dx k dn dne hx hn))
/-- __init__ is run -/
theorem ns_run (T : NsC prog K C) (hl : K.lookup fI = some ⟨.type "function", od, .func fd, osl⟩) (F : NsF prog K C fI fd) (X : K.In hp) (hroom : A.depth < recursionLimit) (hlim : hp.NoLimit)
    (hg : hp.Ns mainGlobals mg) (hmg : mg ("super" : Str) = none) (hb : hp.Ns builtinsNs mb) (hmb : mb ("super" : Str) = bootBuiltins "super")
    (he : hp.get? e = some (PySem.HandSPX.excO C t0)) (heK : ∀ o, K.lookup e = some o → False) (hm : m.length ≤ 1000)
    (h : ∀ h' tk' dx t1, (∀ b o, b ≠ e → hp.get? b = some o → h'.get? b = some o) → hp.objs.size ≤ dx → dx ≠ e → h'.get? e = some ({ cls := .ref C, dict := some dx, data := .fields #[.ref t1, .none, .none, .none, .bool false, .none] } : Obj) →
      h'.Ns1 dx (fun y => if y = "name" then some (.str m tm) else none) → R (.ok (.ret .none)) ⟨h', g, d, tk', os⟩) :
    codeAny (model prog w) A (.call (.ref fI) ⟨[.ref e, .str m tm], []⟩) R ⟨hp, g, d, tk, os⟩ := by
  obtain ⟨p0, p1, p2, p3, p4, p5, p6, p7, p8, p9, p10, p11, p12, m0, j, hm0, hline, hsw, hbody⟩ := F.body
  refine ks_codeAny_call_defAt (o := ⟨.type "function", od, .func fd, osl⟩) hroom (X _ _ hl) rfl hlim ?_ hbody (BindsTo.of_eq (ns_bind F.params F.defs _ _)) F.cell ?_ (fun h₀ hns hk => ?_) F.co F.gen F.kind
  · obtain ⟨cda, ccl, cdd, ccs, vs, file, tf, e1, e2, e3, e4, e5⟩ := F.code
    exact codeRec_of X e2
  · intro x hx
    simp only [List.mem_cons, List.not_mem_nil, or_false] at hx
    rcases hx with rfl | rfl
    · exact F.lself
    · exact F.lname
  · obtain ⟨cda, ccl, cdd, ccs, vs, file, tf, c1, c2, c3, c4, c5⟩ := F.code
    obtain ⟨a0, a1, ea0, ea1, ep⟩ := F.params
    obtain ⟨cc, ecc, cl, cld, csl, hcell⟩ := F.clo
    obtain ⟨nm, q, N, bs, bm, sn, sub, ab, col, dd, k0, k1, k2, k3, k5, hC, hbm⟩ := T.oex.cls
    have X0 : K.In h₀ := X.keeps hk
    have hel : e ≠ hp.objs.size := Nat.ne_of_lt (Heap.lt_size he)
    have eC : e ≠ C := fun z => by
      have := X _ _ hC
      rw [← z, he] at this
      cases this
    have nself : ([(("self" : Str), Value.ref e), (("name" : Str), Value.str m tm)].reverse.lookup ("self" : Str)) = some (.ref e) := by rfl
    have nname : ([(("self" : Str), Value.ref e), (("name" : Str), Value.str m tm)].reverse.lookup ("name" : Str)) = some (.str m tm) := by rfl
    have hzl : 3000 ≤ sizeLine := by rw [sizeLine_eq]; omega
    have hint : interactive (callEnv fd hp.objs.size fI) = false := by
      unfold interactive
      rw [show (callEnv fd hp.objs.size fI).scope.kind = .function from F.kind]; rfl
    refine ks_wpAt_execs_cons (ks_wpAt_Expr_any (ks_wpAt_MethodCall (pl := plainOf (.Call (.Name "super" p0) [] [] p1) (callEnv fd hp.objs.size fI)) ?_ ?_) hint rfl)
    rotate_left
    · show (do
        let ov ← attributeBase (.Call (.Name "super" p0) [] [] p1) "__init__" (callEnv fd hp.objs.size fI) (eval (.Call (.Name "super" p0) [] [] p1) (callEnv fd hp.objs.size fI))
        standAt p2.atName
        methodCall (.Call (.Name "super" p0) [] [] p1) "__init__" p2 p7 (callEnv fd hp.objs.size fI) ov 1 (backTo p7 (starEach [.JoinedStr [.Constant (.str m0) j p3, .FormattedValue (.Name "name" p4) (-1) none p5] p6] (callEnv fd hp.objs.size fI))) []) = _
      congr 1
      funext ov
      congr 1
      funext u
      exact mcall_line rfl hline
    refine ks_wpAt_super_base (f := fI) (cc := cda) F.lsup F.lcls rfl rfl (X0 _ _ hl) rfl (by rw [ep]; rfl) c1 (X0 _ _ c3) rfl c4 c5 T.top ?_
    refine ks_loadName_global F.kind F.lsup (loadGlobal_builtin (mg := mg) (mb := mb) (by show Heap.Ns _ fd.globals _; rw [F.glob]; exact hg.keeps hk) hmg (by show Heap.Ns _ fd.builtins _; rw [F.blt]; exact hb.keeps hk) (hmb.trans boot_super) ⟨rfl, ?_⟩)
    refine wpAny_loadName_free F.kind F.lcls (c := cc) ecc ⟨_, X0 _ _ hcell, rfl⟩ ?_
    refine wpAny_loadName_local (v := .ref e) F.kind (by rw [ea0]; exact F.lself) hns (by rw [ea0]; exact nself) ?_
    refine ks_wpAny_isType_cls (X0 _ _ hC) rfl ⟨rfl, ?_⟩
    refine ks_wpAny_call_super (C := C) (X0 _ _ hC) rfl (hk _ _ he) rfl (fun c z => by cases z) (looks_mroIn X0 T.self) fun h1 e1 k1 => ?_
    have X1 : K.In h1 := X0.keeps k1
    have he1 := k1 _ _ (hk _ _ he)
    have hns1 := hns.keeps k1
    obtain ⟨cd, hcd, hal⟩ := Option.bind_eq_some_iff.mp (show (clsIn K C).bind _ = _ from T.sup)
    have I1 : PySem.W.InstAt h1 e (PySem.HandSPX.excO C t0) C none := ⟨he1, rfl, rfl, trivial⟩
    refine kxs_getMethod kxs_ValueError e1 (looks_opaque X1 T.ho) (l₀ := cd.mro) ((looks_clsIn X1 hcd).andThen .now) rfl X1 hal (I1.type.andThen (looks_subIn X1 T.subVE)) eC rfl ?_
    have hu : (h1.push (kxs_mw "ValueError.__init__" e)).get? h1.objs.size = some (kxs_mw "ValueError.__init__" e) := Heap.get?_push_at rfl rfl
    have k2 : ∀ b o, h1.get? b = some o → (h1.push (kxs_mw "ValueError.__init__" e)).get? b = some o := fun b o z => Heap.get?_push_of_some _ z
    have he2 := k2 _ _ he1
    have hns2 := hns1.keeps k2
    have X2 := X1.keeps k2
    generalize h1.push (kxs_mw "ValueError.__init__" e) = h2 at hu he2 hns2 X2 k2 ⊢
    have kk : ∀ b o, hp.get? b = some o → h2.get? b = some o := fun b o z => k2 _ _ (k1 _ _ (hk _ _ z))
    refine kxs_callWith (i := "ValueError.__init__") (x := e) rfl (evalArgs_plain (spliced_cons (wpAny_JoinedStr (pos := p6) ?_)))
    show Joins _ _ _ [eval (.Constant (.str m0) j p3) (callEnv fd hp.objs.size fI), eval (.FormattedValue (.Name "name" p4) (-1) none p5) (callEnv fd hp.objs.size fI)] Str.empty _ _
    have l0 : (Str.empty ++ m0).length ≤ 1000 := by rw [strLen_append]; show 0 + m0.length ≤ 1000; omega
    refine Constant_str ⟨m0, _, rfl, by omega, ?_⟩
    refine wpAny_FormattedValue_plain (ldc F.kind F.lname hns2 nname ?_)
    have l1 : (Str.empty ++ m0 ++ m).length ≤ sizeLine := by rw [strLen_append]; omega
    refine wpAny_formatField_str ⟨m, _, rfl, l1, l1, spliced_nil ⟨hu, ns_call T X2 hu he2 fun h3 t1 k3 e3 => ?_⟩⟩ ⟨m, _, rfl, l1, l1, spliced_nil ⟨hu, ns_call T X2 hu he2 fun h3 t1 k3 e3 => ?_⟩⟩ (by omega)
    all_goals
      have X3 : K.In h3 := fun b o z => k3 b o (fun y => heK o (y ▸ z)) (X2 b o z)
      refine ns_store T F X3 e3 (hns2.at fun o z => k3 _ _ hel.symm z) fun h4 tk' dx k4 dn dne hx hn => ?_
      have h3L := (hns2.at fun o z => k3 _ _ hel.symm z).lt
      exact h h4 tk' dx t1 (fun b o hb z => k4 b o hb (k3 b o hb (kk b o z))) (Nat.le_trans (Nat.le_of_lt h3L) dn) dne hx hn
end
section
variable {X : Cx} {p p2 pos : Pos} {x m : Str} {j : Nat} {C : Addr} {k : Nat}
/-- X('m'), X such a class -/
theorem pmk_ns (T : NsC X.prog X.K C) (hr : Room (k + 1) X.A) (hg : Gl X x) (hm : X.mg x = some (.ref C)) (hs : X.mg ("super" : Str) = none) (hml : m.length ≤ 1000)
    (hdb : (x == ("__debug__" : Str)) = false := by decide) : PMk X (.Call (.Name x p) [.Constant (.str m) j p2] [] pos) (fun _ H Q => ∀ d, H d = none → Q (.ref C) (some d) (upd H d (.xd [("name", .str m)]))) := by
  intro pins s σ H Q I h
  obtain ⟨nm, q, N, bs, bm, sn, sub, ab, col, dd, k0, k1, k2, k3, k5, hC, hbm⟩ := T.oex.cls
  obtain ⟨fI, fd, od, osl, iC, hl, Fn⟩ := T.fn
  have tI : typeIn X.K (.ref fI) = some (.type "function") := by
    show (X.K.lookup fI).map (·.cls) = _
    rw [hl]; rfl
  refine wpAny_Call_Name_kw (ld_glob I hg hm ?_ hdb)
  have ha : PA X [.Constant (.str m) j p2] (tCons (tC (.str m)) tNil) := pa_cons pe_str pa_nil
  refine callWith_K (h₀ := X.base) I.ok.mod.kin T.oex.kC (thn (ha.run pos pins s σ H (fun vs H1 => vs = [V.str m] ∧ H = H1) I ⟨rfl, rfl⟩) fun us s1 hh => ?_)
  obtain ⟨vs, H1, I1, r1, ev, eH⟩ := hh
  subst ev
  subst eH
  refine ⟨I1.kIn, ?_⟩
  cases r1 with
  | cons ru rn =>
    rename_i u us'
    cases rn
    obtain ⟨tm, rfl⟩ : ∃ tm, u = Value.str m tm := ru
    show wpAny _ _ (call (.ref C) [.str m tm]) _ _ _
    obtain ⟨hp, g, dr, tk, os⟩ := s1
    have hsz : hp.objs.size ≤ hp.objs.size + 1 := Nat.le_succ _
    have hn : H (hp.objs.size + 1) = none := I1.hok.fresh hsz
    have kk : ∀ b o, hp.get? b = some o → ((hp.push (kdv_tup [.str m tm])).push (PySem.HandSPX.excO C hp.objs.size)).get? b = some o := fun b o e => Heap.get?_push_of_some _ (Heap.get?_push_of_some _ e)
    have hget : ((hp.push (kdv_tup [.str m tm])).push (PySem.HandSPX.excO C hp.objs.size)).get? (hp.objs.size + 1) = some (PySem.HandSPX.excO C hp.objs.size) := by heap_get
    have I2 : Inv X pins σ (upd H (hp.objs.size + 1) (exo (hp.objs.size + 1) C none)) ⟨(hp.push (kdv_tup [.str m tm])).push (PySem.HandSPX.excO C hp.objs.size), g, dr, tk, os⟩ :=
      I1.laid (t' := tk) (a := hp.objs.size + 1) (o := exo (hp.objs.size + 1) C none) (h' := (hp.push (kdv_tup [.str m tm])).push (PySem.HandSPX.excO C hp.objs.size)) kk hsz (exo_ok hget)
    obtain ⟨mb, hb1, hb2⟩ := I.mod.blt
    refine wpAny_call (PySem.HandSPX.call_own F.excBase_ValueError (fun Y => PySem.HandSPX.refsVE_contains Y bm hbm) (I1.kIn _ _ hC) (looks_findIn I1.kIn iC) (fun self => bind_fn I1.kIn self tI) (by rw [sizeLine_eq]; simp) ?_)
    refine ns_run T hl Fn I2.kIn (hr.make C [.str m tm] []).depth I2.nolimit (I.mod.glob.keeps I2.bk) hs (hb1.keeps I2.bk) (hb2 _ (by decide)) hget (fun o e => ?_) hml fun h' tk' dx t1 kE dn dne hx hnn => ?_
    · have := I1.kIn _ _ e
      exact absurd (Heap.lt_size this) (by show ¬ hp.objs.size + 1 < hp.objs.size; omega)
    · generalize hp1 : (hp.push (kdv_tup [.str m tm])).push (PySem.HandSPX.excO C hp.objs.size) = hpp at I2 kE dn hget kk ⊢
      obtain ⟨a, ha1⟩ : ∃ a, a = hp.objs.size + 1 := ⟨_, rfl⟩
      rw [← ha1] at I2 kE dne hx hn hget hsz ⊢
      have e0 : upd H a (exo a C none) a = some (exo a C none) := upd_same
      have hnd : upd H a (exo a C none) dx = none := I2.hok.fresh dn
      have hnd1 : H dx = none := by rw [upd_ne dne] at hnd; exact hnd
      have nd : ∀ {b : Addr} {o : Obj}, hpp.get? b = some o → b ≠ dx := fun {b o} q => Nat.ne_of_lt (Nat.lt_of_lt_of_le (Heap.lt_size q) dn)
      have na : ∀ {b : Addr}, upd H a (exo a C none) b = none → b ≠ a := fun {b} n z => by
        rw [z, e0] at n
        cases n
      have ry : RelV (V.str m) (Value.str m tm) := ⟨tm, rfl⟩
      have un : ∀ fs : List Addr, Un fs [] (upd H a (exo a C none)) (upd (upd (upd H a (exo a C none)) dx (exd dx [("name", .str m)])) a (exo a C (some dx))) hpp h' := fun fs => {
        keep := fun b o q n _ _ => kE b o (na n) q
        slot := fun b o q n _ _ => ⟨o.slots, kE b o (na n) q⟩
        free := fun b o q n _ => by rw [upd_ne (na n), upd_ne (nd q)]; exact n
        there := fun b o q _ => by
          by_cases hb : b = a
          · exact ⟨_, by rw [hb]; exact hx⟩
          · exact ⟨o, kE b o hb q⟩
        tups := fun b xs q => by rw [upd_ne (at_ne e0 q exo_tup), upd_ne (ne_of_none q hnd)]; exact q
        frzs := fun b o v q => by rw [upd_ne (at_ne e0 q exo_frz), upd_ne (ne_of_none q hnd)]; exact q
        tbls := fun b ps q => ⟨#[], by rw [upd_ne (at_ne e0 q exo_tbl), upd_ne (ne_of_none q hnd), q]; simp⟩ }
      have hok2 : HOk X.prog X.w (upd (upd (upd H a (exo a C none)) dx (exd dx [("name", .str m)])) a (exo a C (some dx))) h' := fun b o q => by
        by_cases hb : b = a
        · subst hb
          rw [upd_same] at q
          cases q
          exact exo_ok hx
        · rw [upd_ne hb] at q
          by_cases hd : b = dx
          · subst hd
            rw [upd_same] at q
            cases q
            exact exd_ok hnn (relO_put (fs := []) ry fun g => True.intro)
          · rw [upd_ne hd] at q
            exact (I2.hok b o q).stay (fun c v hc z => kE c v (by
                rcases hc with hc | hc
                · rw [hc]
                  exact hb
                · exact at_ne e0 hc exo_own) z)
              (fun c hc => by rw [upd_ne (at_ne e0 hc exo_own), upd_ne (ne_of_none hc hnd)]; exact hc) (fun c xs hc => by rw [upd_ne (at_ne e0 hc exo_tup), upd_ne (ne_of_none hc hnd)]; exact hc)
      have ea : upd (upd (upd H a (exo a C none)) dx (exd dx [("name", .str m)])) a (exo a C (some dx)) a = some (exo a C (some dx)) := upd_same
      have ed : upd (upd (upd H a (exo a C none)) dx (exd dx [("name", .str m)])) a (exo a C (some dx)) dx = some (exd dx [("name", .str m)]) := by rw [upd_ne dne, upd_same]
      have eH : upd (del (upd (upd (upd H a (exo a C none)) dx (exd dx [("name", .str m)])) a (exo a C (some dx))) a) dx (.xd [("name", .str m)]) = upd H dx (.xd [("name", .str m)]) := by
        funext b
        by_cases hd : b = dx
        · rw [hd, upd_same, upd_same]
        · rw [upd_ne hd, upd_ne hd]
          by_cases hb : b = a
          · rw [hb, del_same]; exact hn.symm
          · rw [del_ne hb, upd_ne hb, upd_ne hd, upd_ne hb]
      refine ⟨rfl, mk_end (raises_own T.oex.exC T.oex.tyC) I1 hsz kk (un _) hok2 rfl I2.bare ea ed hnd1 ?_⟩
      rw [eH]
      exact h dx hnd1
end
end ExS
namespace L2
open PySem PySem.Spec PySem.Calls PyProof.Rows PySem.W
/-! isinstance of an exception that has its dict: type(e) is asked, then e.__class__, a data descriptor, so the dict does not count -/
section
variable {prog : Program} {w : World} {A : Around} {E : Value → Shared → Prop} {h : Heap} {g : Array GenState} {d : Drawn} {t : Nat} {os : OsState} {K : Frag} {x D : Addr} {ox : Obj} {od : Option Obj}
theorem exc_cls (C : ExcC K D) : ∃ c dd cd sl, K.lookup D = some ⟨c, dd, .cls cd, sl⟩ := by
  obtain ⟨cd, hc, _⟩ := any_some C.hd
  unfold clsIn at hc
  split at hc
  · exact ⟨_, _, _, _, by assumption⟩
  · cases hc
theorem exc_desc (C : ExcC K D) : findObj K D od "__class__" = some (.bind (.builtin "getset_descriptor.__get__") (.builtin "object.__class__")) := by
  obtain ⟨cd, hc, _⟩ := any_some C.hd
  unfold findObj
  rw [hc, Option.bind_some, C.ha, Option.bind_some]
  simp [C.hn, C.ht]
/-- the getter itself -/
theorem exc_getter {tk : Tok} (C : ExcC K D) (X : K.In h) (I : InstAt h x ox D od) {Q : Value → Shared → Prop} (hq : Q (.ref D) ⟨h, g, d, t, os⟩) :
    wpAny (model prog w) A (call (.builtin "BaseException.__getattribute__") [.ref x, .str "__class__" tk]) Q E ⟨h, g, d, t, os⟩ := by
  have isx : Looks (model prog w) h (isInstance (.ref x) (.type "BaseException")) true := I.type.andThen (looks_subIn X C.hs)
  refine wpAny_call (codeAny_call_builtin PySem.F.excAttr_ValueError.ga.plain PySem.F.entry_bexc_ga ?_)
  refine @check_slot (model prog w) _ _ ⟨h, g, d, t, os⟩ "BaseException.__getattribute__" "BaseException" "__getattribute__" (.ref x) [.str "__class__" tk] [] _ (by decide +kernel) (by decide +kernel) isx (PySem.F.args_bexc_ga (.ref x) (.str "__class__" tk)) ?_
  unfold Builtin.«object.__getattribute__»
  refine wpAny_bind (wpAny_of_eq (a := ((Value.ref x : Value), [Value.str "__class__" tk])) (by first | rfl | (simp only [slotArgs]; rfl)) (wpAny_bind (wpAny_pure (wpAny_bind (I.type.at (wpAny_bind ((looks_find X I (exc_desc C)).at ?_)))))))
  show wpAny _ _ (holding [Value.builtin "object.__class__"] (call (.builtin "getset_descriptor.__get__") [.builtin "object.__class__", .ref x, .ref D]) >>= ret) _ _ _
  exact wpAny_bind (wpAny_holding (wpAny_call (class_get (s := ⟨h, g, d, t, os⟩) (ox := ox) (od := od) X I C.hm (wpAny_pure hq))))
theorem exc_class (C : ExcC K D) (X : K.In h) (I : InstAt h x ox D od) {Q : Option Value → Shared → Prop} (hq : Q (some (.ref D)) ⟨h, g, d, t + 1, os⟩) :
    wpAny (model prog w) A (getAttr? (.ref x) "__class__") Q E ⟨h, g, d, t, os⟩ := by
  have ng : (Value.builtin "BaseException.__getattribute__" == Value.builtin "object.__getattribute__") = false := by decide +kernel
  have up : onTheHeap (Value.ref D) = true := rfl
  unfold getAttr? getAttrBy? getAttrBy
  refine wpAny_bind (wpAny_mkText (wpAny_bind (wpAny_attempt (wpAny_holding (wpAny_bind (I.type.at (wpAny_bind ((looks_findIn X C.hg).at ?_))))))))
  dsimp only
  rw [if_neg (by rw [ng, Bool.and_false]; exact Bool.false_ne_true)]
  unfold getAttrByItsOwn hookBefore
  refine wpAny_bind ?_
  rw [if_pos up]
  refine (looks_findIn X C.hk).at (wpAny_bind (wpAny_attempt (wpAny_holding ?_)))
  unfold callGetattribute
  rw [if_neg (show ¬ (false && onTheHeap (Value.builtin "BaseException.__getattribute__")) = true from Bool.false_ne_true)]
  unfold boundAndCalled
  rw [PySem.F.excAttr_ValueError.ga.bind (.ref x)]
  refine wpAny_bind (wpAny_pure ?_)
  refine wpAny_mono (exc_getter C X I (Q := fun v s' => v = .ref D ∧ s' = ⟨h, g, d, t + 1, os⟩) ⟨rfl, rfl⟩) (fun v s' hv => ?_) fun _ _ z => z
  obtain ⟨rfl, rfl⟩ := hv
  dsimp only
  rw [handedOut_of (v := .ref D) rfl]
  first
    | exact wpAny_pure (wpAny_pure hq)
    | exact wpAny_pure hq
    | exact wpAny_pure (wpAny_bind (wpAny_pure (wpAny_pure hq)))
theorem exc_kit (C : ExcC K D) : KitX K (.ref x) (.ref D) (fun h => InstAt h x ox D od) where
  ty := fun _ _ _ I => I.type
  it := fun _ _ X _ => by
    obtain ⟨c, dd, cd, sl, ho⟩ := exc_cls C
    intro A' Q' E' s' k q
    unfold isType loadHead
    exact wpAny_bind (wpAny_loadPart (k _ _ (X _ _ ho)) (wpAny_pure q))
  ne := fun h tp dd its n sl X htp => by
    obtain ⟨c, dd', cd, sl', ho⟩ := exc_cls C
    cases q : (Value.ref D == Value.ref tp) with
    | false => rfl
    | true =>
      obtain rfl : D = tp := Value.ref.inj (beq_iff_eq.mp q)
      cases (X _ _ ho).symm.trans htp
  ca := fun X I k => exc_class C X I k
end
end L2
namespace L2
open PySem PySem.Spec PyProof.Rows
/-- isinstance(e, c), e an exception with its dict, that the suite holds -/
def rIsD (K : PySem.W.Frag) (D a dd : Addr) : List V → Hp → VK → Prop := fun xs H Q => ∃ (c : V) (cv : Value) (b : Bool) (fs : List (Str × V)), xs = [.ref a, c] ∧ (∀ u, RelV c u → u = cv) ∧ PySem.W.kitOne K (.ref D) cv = some b ∧ H dd = some (.xd fs) ∧ Q (.bl b) H
theorem call_isD {X : Cx} {a D dd : Addr} {oe : Obj} {pn : List (Addr × Obj)} (C : ExcC X.K D) (hz : Zc (.ref D) (some dd) oe) (hf : ∃ vs, oe.data = .fields vs) : CallR (X.suite a ((a, oe) :: pn)) (.builtin "isinstance") (rIsD X.K D a dd) := by
  intro pins s σ H xs us Q I r h
  obtain ⟨c, cv, b, fs, rfl, hcv, e, ea, q⟩ := h
  cases r with
  | cons rx rr =>
    cases rr with
    | cons rt rr =>
      cases rr
      cases rx
      have ec := hcv _ rt
      subst ec
      obtain ⟨hget, _⟩ := I.pin (a, oe) (List.mem_append.mpr (.inl List.mem_cons_self))
      obtain ⟨vs, hv⟩ := hf
      have hx : ObjOk X.prog X.w H s.heap dd (.xd fs) := I.hok dd _ ea
      obtain ⟨mA, hns, hr⟩ := hx
      obtain ⟨od, ho, hl⟩ := lookIn_ns hns
      have J : PySem.W.InstAt s.heap a oe D (some od) := by
        obtain ⟨oc, od', oda, osl⟩ := oe
        obtain ⟨h1, h2⟩ := hz
        dsimp only at h1 h2 hv
        subst h1 h2 hv
        exact ⟨hget, rfl, rfl, ho⟩
      exact PySem.W.kia_one (exc_kit C) I.kIn J e (fun z => nomatch z) fun tk => ⟨.bl b, H, I.kept (t' := tk) fun _ _ z => z, rfl, q⟩
end L2
end

section
set_option Elab.async false
set_option linter.all false
set_option maxRecDepth 100000
set_option maxHeartbeats 4000000
namespace GX
open PySem PySem.Spec PyProof.Rows L2 GxR

theorem over_loop {A : Around} {elt : Expr} {gs : List Comprehension} {sc : Scope} {p : Pos} {it acc : Value} {env : Env} : (A.over (.compLoop (.GeneratorExp elt gs sc p) 0 it acc env) []) = A.deeper env := rfl
theorem over_start {A : Around} {elt : Expr} {gs : List Comprehension} {sc : Scope} {p : Pos} {it acc : Value} {env : Env} : (A.over (.compStart (.GeneratorExp elt gs sc p) 0 it acc env) []) = A.deeper env := rfl

/-- what the text of a generator expression must have: its own names with their places, those that it captures -/
structure GOk (N : List Str) (sc scope : Scope) (own : List (Str × Nat)) : Prop where
  blk : BlkOk N sc scope own
  co : scope.isCoroutine = false
  cell : ∀ y ∈ scope.names, y.2 ≠ .cell
  dot : scope.names.lookup (".0" : Str) = some NameKind.local

/-- the context of a generator expression's frame, made at s -/
abbrev gcx (X : Cx) (A : Around) (s : Shared) (H : Hp) (cenv : Env) (fp : List Addr) (pn : List (Addr × Obj)) : Cx :=
  { X with A := A, s_0 := s, H_0 := H, env := cenv, outer := X.stack, stack := cenv :: X.stack, ex := fp, fn := fun _ => false, calm := true, pn := pn, xe := fun _ _ => False }

section
variable {X : Cx} {pins : List (Addr × Obj)} {σ : L2.St} {H : Hp} {s : Shared}
theorem gen_start {A : Around} {scope : Scope} {own : List (Str × Nat)} {fp : List Addr} {code : Value} {a : Addr} {go : Obj} {itv : Value} {s5 : Shared}
    (hh : A.handled = none) (hA : A.frames = some X.stack) (I : Inv X pins σ H s) (ok : GOk X.N X.env.scope scope own) (hN : X.N.Nodup) (hfp : ∀ b ∈ fp, FpOk X pins H b ∧ b < s.heap.objs.size)
    (hos : s5.os = s.os) (hb : AllBare s5.gens) (kp : ∀ b o, s.heap.get? b = some o → s5.heap.get? b = some o)
    (hF : s5.heap.Ns s.heap.objs.size (fun y => if y = ".0" then some itv else none)) (ha : s.heap.objs.size < a) (hgo : s5.heap.get? a = some go) (hgd : ∀ v, go.data ≠ .cell v) :
    Inv (gcx X (A.deeper (genEnv scope (cloFrom X.env.cells scope.names []) s.heap.objs.size code builtinsNs X.env)) s H (genEnv scope (cloFrom X.env.cells scope.names []) s.heap.objs.size code builtinsNs X.env) fp [(a, go)]) [] (wipe σ (own.map (·.2))) H s5 := by
  have hfree : ∀ y ∈ scope.names, y.2 = .free → ∃ c, X.env.cells.lookup y.1 = some c := fun y hy e => by
    rcases ok.blk.free y hy e with k | k
    · exact I.ok.has _ (.inl k)
    · exact I.ok.has _ (.inr k)
  have cm : ∀ {y c}, (y, c) ∈ cloFrom X.env.cells scope.names [] → (y, NameKind.free) ∈ scope.names ∧ X.env.cells.lookup y = some c ∧ c < s.heap.objs.size := fun {y c} hm => by
    rcases cloFrom_mem hm with hm | ⟨h1, rfl⟩
    · cases hm
    · obtain ⟨c, hc⟩ := hfree _ h1 rfl
      rw [hc]
      obtain ⟨w, z⟩ := I.cell _ _ hc
      exact ⟨h1, rfl, z.lt⟩
  have cl : ∀ {y c}, (cloFrom X.env.cells scope.names []).lookup y = some c → (y, NameKind.free) ∈ scope.names ∧ X.env.cells.lookup y = some c ∧ c < s.heap.objs.size := fun {y c} e => cm (PySem.mem_of_lookup e)
  have look : ∀ {y}, scope.names.lookup y = some .free → ∃ c, (cloFrom X.env.cells scope.names []).lookup y = some c := fun {y} hl =>
    mem_lookup (cloFrom_has (cells := X.env.cells) (acc := []) (PySem.mem_of_lookup hl))
  have nocell : ∀ {y}, scope.names.lookup y ≠ some .cell := fun {y} e => ok.cell _ (PySem.mem_of_lookup e) rfl
  generalize hce : genEnv scope (cloFrom X.env.cells scope.names []) s.heap.objs.size code builtinsNs X.env = ce
  have eL : ce.locals = s.heap.objs.size := by rw [← hce]; rfl
  have eS : ce.scope = scope := by rw [← hce]; rfl
  have eC : ce.cells = cloFrom X.env.cells scope.names [] := by rw [← hce]; rfl
  have okB : (gcx X (A.deeper ce) s H ce fp [(a, go)]).Ok := by
    refine ⟨I.ok.mod, by show ce.scope.kind = _; rw [eS]; exact ok.blk.kind, by show ce.globals = _; rw [← hce]; exact I.ok.glob, by show ce.builtins = _; rw [← hce]; rfl, by show s.heap.objs.size ≤ ce.locals; rw [eL]; exact Nat.le_refl _,
      fun y z c e1 e2 => ?_, fun y hy => ?_, fun y c z e => ?_, fun _ => hh, Around.frames_deeper hA, .inr ⟨rfl, by show ce.frame = some ce.locals; rw [← hce]; rfl⟩, fun b hb => ⟨?_, fun y c e z => ?_⟩, I.bs, Nat.le_trans I.ok.bsz I.sz, fun b o e hb => ?_, fun b hb z => ?_, I.stack, I.stkFree⟩
    · have e1 : ce.cells.lookup y = some c := e1
      have e2 : ce.cells.lookup z = some c := e2
      rw [eC] at e1 e2
      exact I.ok.inj y z c (cl e1).2.1 (cl e2).2.1
    · show ∃ c, ce.cells.lookup y = some c
      rw [eC]
      have hy : ce.scope.names.lookup y = some .cell ∨ ce.scope.names.lookup y = some .free := hy
      rw [eS] at hy
      rcases hy with hy | hy
      · exact absurd hy nocell
      · exact look hy
    · cases z
    · show b ≠ ce.locals
      rw [eL]; exact Nat.ne_of_lt (hfp b hb).2
    · have e : ce.cells.lookup y = some c := e
      rw [eC] at e
      exact (hfp b hb).1.2.2.2.2.1 y c (cl e).2.1 z
    · rcases (hfp b hb).1.2.2.2.1 with z | z
      · exact I.ok.noex b o e z
      · exact absurd (Nat.lt_of_lt_of_le (Heap.lt_size e) (Nat.le_trans I.ok.bsz z)) (Nat.lt_irrefl _)
    · rcases List.mem_cons.mp (I.stkSub b z) with z | z
      · exact (hfp b hb).1.2.1 z
      · exact (hfp b hb).1.2.2.1 z
  have fr : ∀ b, s.heap.objs.size ≤ b → H b = none := fun b hb => I.hok.fresh hb
  refine ⟨okB, hos, hb, Un.kept kp, ⟨fun y => if y = ".0" then some itv else none, ?_, fun i y av e1 e2 e3 => ?_⟩, fun y c e => ?_, ?_, fun y c e => ?_, fun p hp => ?_, I.hok.kept kp, by rw [wipe_length]; exact I.len⟩
  · show Heap.Ns _ ce.locals _
    rw [eL]; exact hF
  · obtain ⟨e2, hne⟩ := wipe_some e2
    have e3 : Vis ce.scope y := e3
    rw [eS] at e3
    have hfr : scope.names.lookup y = some .free := by
      have no : ∀ k, scope.names.lookup y = some k → ¬ (k = .local ∨ k = .cell) := fun k e hh => by
        rcases ok.blk.own _ (PySem.mem_of_lookup e) hh with e' | e'
        · obtain ⟨p, hp, hpy⟩ := List.mem_map.mp e'
          have e3 := ok.blk.ix p hp
          have : p.1 = y := hpy
          rw [this] at e3
          exact hne (List.mem_map.mpr ⟨p, hp, nodup_ix hN e3 e1⟩)
        · exact e' (List.mem_of_getElem? e1)
      rcases e3 with e3 | e3 | e3
      · exact absurd (.inl rfl) (no _ e3)
      · exact absurd (.inr rfl) (no _ e3)
      · exact e3
    obtain ⟨m, hn, hl⟩ := I.loc
    have hvis : Vis X.env.scope y := (ok.blk.free _ (PySem.mem_of_lookup hfr) rfl).elim (fun k => .inr (.inl k)) (fun k => .inr (.inr k))
    obtain ⟨w, r, q⟩ := hl i y av e1 e2 hvis
    obtain ⟨c, h1⟩ := look hfr
    have h2 := (cl h1).2.1
    refine ⟨w, r, .inr ⟨.inr (by show ce.scope.names.lookup y = _; rw [eS]; exact hfr), c, by show ce.cells.lookup y = _; rw [eC]; exact h1, ?_⟩⟩
    rcases q with ⟨k, _⟩ | ⟨_, c', e', z⟩
    · have k : X.env.scope.names.lookup y = some .local := k
      rcases ok.blk.free _ (PySem.mem_of_lookup hfr) rfl with k' | k' <;> rw [show X.env.scope.names.lookup y = _ from k'] at k <;> cases k
    · rw [h2] at e'; cases e'
      exact z.keeps kp
  · have e : ce.cells.lookup y = some c := e
    rw [eC] at e
    obtain ⟨w, z⟩ := I.cell y c (cl e).2.1
    exact ⟨w, z.keeps kp⟩
  · show H ce.locals = none
    rw [eL]; exact fr _ (Nat.le_refl _)
  · have e : ce.cells.lookup y = some c := e
    rw [eC] at e
    exact I.freeC y c (cl e).2.1
  · have hp : p ∈ [(a, go)] ++ [] := hp
    rw [List.append_nil] at hp
    rw [List.mem_singleton.mp hp]
    refine ⟨hgo, fr _ (Nat.le_of_lt ha), ?_, fun z => ?_, hgd⟩
    · show a ≠ ce.locals
      rw [eL]; exact Nat.ne_of_gt ha
    · rcases List.mem_cons.mp (I.stkSub a z) with z | z
      · exact absurd (Nat.lt_trans I.lt (by rw [← z]; exact ha)) (Nat.lt_irrefl _)
      · exact absurd z (I.nofs (Nat.le_of_lt ha))
end
end GX
end

section
set_option Elab.async false
set_option linter.all false
set_option maxRecDepth 100000
set_option maxHeartbeats 4000000
namespace GX
open PySem PySem.Spec PyProof.Rows L2 GxR

/-- the consumer's own objects (at L) as they stand -/
def Cov (L : List Addr) (po : List (Addr × Obj)) : Prop := po.map (·.1) = L
/-- what a consumer may do while the generator sleeps -/
structure Rest (L : List Addr) (s s' : Shared) : Prop where
  os : s'.os = s.os
  bare : AllBare s'.gens
  keep : ∀ b o, b ∉ L → s.heap.get? b = some o → s'.heap.get? b = some o
  own : ∀ b ∈ L, ∃ o, s'.heap.get? b = some o ∧ ∀ v, o.data ≠ .cell v
/-- the consumer's objects are none of the generator's -/
structure Far (X : Cx) (fp L : List Addr) : Prop where
  young : ∀ b ∈ L, X.s_0.heap.objs.size ≤ b
  loc : ∀ b ∈ L, b ≠ X.env.locals
  cell : ∀ b ∈ L, ∀ x c, X.env.cells.lookup x = some c → c ≠ b
  pn : ∀ b ∈ L, ∀ p ∈ X.pn, p.1 ≠ b
  fp : ∀ b ∈ L, b ∉ fp
  fs : ∀ b ∈ L, b ∉ X.fs
section
variable {X : Cx} {po : List (Addr × Obj)} {σ : L2.St} {H : Hp} {s s' : Shared} {fp L : List Addr}
theorem Cov.at (I : Inv X po σ H s) (c : Cov L po) {b : Addr} (hb : b ∈ L) : H b = none := by
  unfold Cov at c
  rw [← c] at hb
  obtain ⟨p, hp, rfl⟩ := List.mem_map.mp hb
  exact (I.pin p (List.mem_append_right _ hp)).2.1
theorem woken (F : Far X fp L) (I : Inv X po σ H s) (c : Cov L po) (r : Rest L s s') : ∃ po', Cov L po' ∧ Inv X po' σ H s' := by
  have hn : ∀ b ∈ L, H b = none := fun b hb => c.at I hb
  have nL : ∀ b u, H b = some u → b ∉ L := fun b u e z => by rw [hn b z] at e; cases e
  have I0 : Inv X [] σ H s := I.pins_of fun p hp => by cases hp
  obtain ⟨hh, g, d, t, o⟩ := s'
  obtain ⟨r1, r2, r3, r4⟩ := r
  have ho : o = s.os := r1
  subst ho
  have J : Inv X [] σ H { s with heap := hh, gens := g, drawn := d, toks := t } := by
    refine I0.step (g' := g) (t' := t) (d' := d) (ch := L) (fun b hb => ⟨.inr (F.young b hb), F.loc b hb, F.cell b hb, fun p hp => F.pn b hb p (by simpa using hp)⟩)
      (fun b ob _ _ hc q _ => r3 b ob hc q) (fun b ob _ _ hc q _ => ⟨ob.slots, r3 b ob hc q⟩) (fun _ _ _ _ n => n) (fun b ob hc q => ⟨ob, r3 b ob hc q⟩)
      (fun _ _ q => q) (fun _ _ _ q => q) (fun b ps q => ⟨#[], by rw [q]; simp⟩) (fun m hm => ?_) (fun b u q => ?_) r2
    · obtain ⟨ob, es, ep, ho, r⟩ := hm
      exact ⟨ob, es, ep, r3 _ ob (fun z => F.loc _ z rfl) ho, r⟩
    · refine (I0.hok b u q).stay (fun c v hc y => r3 c v ?_ y) (fun _ y => y) fun _ _ y => y
      rcases hc with y | y
      · rw [y]; exact nL b u q
      · exact nL c _ y
  refine ⟨L.map fun b => (b, (hh.get? b).getD { cls := .none, data := .plain }), by unfold Cov; rw [List.map_map]; exact List.map_id' _, J.pins_of fun p hp => ?_⟩
  obtain ⟨b, hb, rfl⟩ := List.mem_map.mp hp
  obtain ⟨ob, e, d⟩ := r4 b hb
  have e : hh.get? b = some ob := e
  refine ⟨?_, hn b hb, F.loc b hb, F.fs b hb, ?_⟩
  · show hh.get? b = some ((hh.get? b).getD _)
    rw [e]; rfl
  · show ∀ v, ((hh.get? b).getD _).data ≠ .cell v
    rw [e]; exact d
end

/-- the protocol: ys is all that comes out; behind y with stop y nothing more is asked -/
def GYp (X : Cx) (L : List Addr) (ys : List V) (stop : V → Prop) (Qs : Hp → Prop) : Protocol := fun n s0 v s kap =>
  ∃ j y σ H po, n + 1 + j = ys.length ∧ ys[j]? = some y ∧ RelV y v ∧ Cov L po ∧ Inv X po σ H s ∧ (∀ b ∈ L, s.heap.get? b = s0.heap.get? b) ∧ (stop y → Qs H) ∧ (¬ stop y → ∀ s', Rest L s s' → kap (.send .none) s')
def GPe (X : Cx) (L : List Addr) (Qe : Hp → Prop) (n : Nat) (s0 : Shared) (s : Shared) : Prop := ∃ po σ H, n = 0 ∧ Cov L po ∧ Inv X po σ H s ∧ (∀ b ∈ L, s.heap.get? b = s0.heap.get? b) ∧ Qe H
abbrev GRe (X : Cx) (L : List Addr) (Qe : Hp → Prop) : GenEnd := fun n s₀ r s => r = .ok .next ∧ GPe X L Qe n s₀ s

/-- a turn of the generator, by readings -/
def GTurn (J : It) (g : TG) (tt : TT) (te : TE) (σ0 : L2.St) (vs : List Nat) (ys : List V) (stop : V → Prop) (Qs Qe : Hp → Prop) (W : Nat → Nat → Nat → Hp → Prop) : Prop :=
  ∀ i j m H, W i j m H → (J.stop i H ∧ j = ys.length ∧ Qe H) ∨ (J.go i H ∧ ∃ Nx : Nat → Hp → Prop, (∀ j' H', Nx j' H' → ∃ m', m' < m ∧ W (i + 1) j' m' H') ∧
    ∀ x H', J.yld i H x H' → g x σ0 H' fun σ2 H2 => wipe σ2 vs = σ0 ∧ tt σ2 H2 fun b H3 =>
      if b = true then te σ2 H3 fun y H4 => ys[j]? = some y ∧ (stop y → Qs H4) ∧ (¬ stop y → Nx (j + 1) H4) else Nx j H3)

section
variable {X : Cx} {A : Around} {fp L : List Addr}
theorem seg_gen {elt tg iter : Expr} {ifs : List Expr} {scope : Scope} {gpos : Pos} {it : Addr} {tn : Nat → Heap → Prop} {J : It} {g : TG} {tt : TT} {te : TE} {σ0 : L2.St} {vs : List Nat} {ys : List V} {stop : V → Prop} {Qs Qe : Hp → Prop} {W : Nat → Nat → Nat → Hp → Prop}
    (hXA : X.A = A.deeper X.env) (hex : X.ex = fp) (hc : X.calm = true) (hxe : X.xe = fun _ _ => False) (hco : X.env.scope.isCoroutine = false) (F : Far X fp L) (hpf : ∀ b ∈ fp, ∀ p ∈ X.pn, p.1 ≠ b) (T : Turn X.prog X.w X.K tg J fp it tn) (pg : PG X tg g) (pt : PTs X ifs tt) (pe : PE X elt te)
    (hT : GTurn J g tt te σ0 vs ys stop Qs Qe W) :
    ∀ (m i j : Nat) (H : Hp) (s₀ s : Shared) (po : List (Addr × Obj)), W i j m H → j ≤ ys.length → Inv X po σ0 H s → Cov L po → (∀ b ∈ L, s.heap.get? b = s₀.heap.get? b) → tn i s.heap → (∀ b ∈ fp, H b = none) →
      Seg (model X.prog X.w) A (GRe X L Qe) (GYp X L ys stop Qs) (ys.length - j) s₀ (.compLoop (.GeneratorExp elt [⟨tg, iter, ifs, 0⟩] scope gpos) 0 (.ref it) .none X.env)
        ((model X.prog X.w).den (.compLoop (.GeneratorExp elt [⟨tg, iter, ifs, 0⟩] scope gpos) 0 (.ref it) .none X.env)) [] s := by
  intro m
  induction m using Nat.strongRecOn with
  | ind m ih =>
    intro i j H s₀ s po w hj I cv h0 st nf
    have s0at : ∀ {pl : List (Addr × Obj)} {σ' : L2.St} {H' : Hp} {s' : Shared}, Inv X (po ++ pl) σ' H' s' → ∀ b ∈ L, s'.heap.get? b = s₀.heap.get? b := fun {pl σ' H' s'} I' b hb => by
      rw [← h0 b hb]
      have c'' := cv
      unfold Cov at c''
      rw [← c''] at hb
      obtain ⟨p, hp, rfl⟩ := List.mem_map.mp hb
      rw [(I.pin p (List.mem_append_right _ hp)).1, (I'.pin p (List.mem_append_right _ (List.mem_append_left _ hp))).1]
    have hov : A.over (.compLoop (.GeneratorExp elt [⟨tg, iter, ifs, 0⟩] scope gpos) 0 (.ref it) .none X.env) [] = X.A := by rw [hXA]; rfl
    have stat : ∀ {po : List (Addr × Obj)} {σ' : L2.St} {H' : Hp} {s' : Shared}, Inv X po σ' H' s' → Cov L po → (∀ b ∈ fp, H' b = none) → ∀ b ∈ fp, FpOk X po H' b := fun {po σ' H' s'} I' c' hn b hb => by
      have hb' : b ∈ X.ex := by rw [hex]; exact hb
      refine ⟨hn b hb, (I'.ok.exf b hb').1, I'.ok.exfs b hb', .inl hb', fun x c e => (I'.ok.exf b hb').2 x c e, fun p hp => ?_⟩
      rcases List.mem_append.mp hp with hp | hp
      · exact hpf b hb p hp
      · intro z
        have : p.1 ∈ L := by
          have c'' := c'
          unfold Cov at c''
          rw [← c'']
          exact List.mem_map.mpr ⟨p, hp, rfl⟩
        exact F.fp _ this (by rw [z]; exact hb)
    show Seg _ A _ _ _ s₀ _ ((compTurn (.GeneratorExp elt [⟨tg, iter, ifs, 0⟩] scope gpos) 0 (.ref it) .none X.env).onRaise (leaving X.env)) [] s
    rw [compTurn_gen, Sem.onRaise_eq_wrap]
    refine seg_bind_wrap (wpAny_standAt ?_)
    rcases hT i j m H w with ⟨stp, hje, qe⟩ | ⟨go, Nx, hNx, step⟩
    · have td := T.done X rfl rfl rfl hc i po s _ H (fun _ _ => False) I (stat I cv nf) st stp
      refine seg_bind_wrap ?_
      rw [hov]
      refine wpAny_mono td (fun r s1 h1 => ?_) fun _ _ z => z.elim
      obtain ⟨rfl, I1⟩ := h1
      exact seg_end (.ok .next) ⟨rfl, po, _, H, by omega, cv, I1, s0at (pl := []) (by rw [List.append_nil]; exact I1), qe⟩
    · have ti := T.item X rfl rfl rfl hc i po s _ H (fun _ _ => False) I (stat I cv nf) st go
      refine seg_bind_wrap ?_
      rw [hov]
      refine wpAny_mono ti (fun r s1 h1 => ?_) fun _ _ z => z.elim
      obtain ⟨u, rfl, h1⟩ := h1
      show Seg _ _ _ _ _ _ _ (Sem.wrap _ _ _ _ (letOwnedTupleGo tg (.ref it) u >>= _)) _ _
      refine seg_bind_wrap ?_
      rw [hov]
      refine wpAny_mono h1 (fun _ s2 h2 => ?_) fun _ _ z => z.elim
      obtain ⟨x, H2, I2, r2, y2, st2, n2⟩ := h2
      have I2' := I2.pinned (stat I2 cv n2) (T.obj _ _ st2)
      refine seg_bind_wrap ?_
      rw [hov]
      have pgr := pg.run _ s2 _ H2 x u _ I2' r2 (step x H2 y2)
      rw [hxe] at pgr
      refine wpAny_mono pgr (fun _ s3 h3 => ?_) fun _ _ z => z.elim
      obtain ⟨σ3, H3, I3, hw3, q3⟩ := h3
      refine seg_bind_wrap ?_
      rw [hov]
      have ptr := pt.run _ s3 σ3 H3 _ I3 q3
      rw [hxe] at ptr
      refine wpAny_mono ptr (fun b s4 h4 => ?_) fun _ _ z => z.elim
      obtain ⟨H4, I4, q4⟩ := h4
      have hl : ∀ {σ'' : L2.St}, σ'' = σ3 → σ0.length = σ''.length := fun e => by rw [e, ← hw3, wipe_length]
      -- back at the loop's head
      have back : ∀ {po' : List (Addr × Obj)} {s' : Shared} {H' : Hp} {j' : Nat} (s₀' : Shared), Inv X po' σ3 H' s' → Cov L po' → (∀ b ∈ L, s'.heap.get? b = s₀'.heap.get? b) → tn (i + 1) s'.heap → (∀ b ∈ fp, H' b = none) → Nx j' H' → j' ≤ ys.length →
          Seg (model X.prog X.w) A (GRe X L Qe) (GYp X L ys stop Qs) (ys.length - j') s₀' (.compLoop (.GeneratorExp elt [⟨tg, iter, ifs, 0⟩] scope gpos) 0 (.ref it) .none X.env)
            (.pure (.again (.compLoop (.GeneratorExp elt [⟨tg, iter, ifs, 0⟩] scope gpos) 0 (.ref it) .none X.env))) [] s' := fun {po' s' H' j'} s₀' I' cv' h0' st' n' nx hj' => by
        obtain ⟨m', hm, w'⟩ := hNx j' H' nx
        refine seg_again rfl (ih m' hm (i + 1) j' H' s₀' s' po' w' hj' (I'.weak (hl rfl) fun k v e => ?_) cv' h0' st' n')
        rw [← hw3] at e
        exact (wipe_some e).1
      have fpin : ∀ {s' : Shared} {H' : Hp}, Inv X (po ++ pinsAt fp s2.heap) σ3 H' s' → Inv X po σ3 H' s' ∧ tn (i + 1) s'.heap ∧ ∀ b ∈ fp, H' b = none := fun {s' H'} I' => by
        have pin' : ∀ b ∈ fp, ∀ o, s2.heap.get? b = some o → s'.heap.get? b = some o ∧ H' b = none := fun b hb o e =>
          let z := I'.pin (b, o) (List.mem_append_right _ (List.mem_append_right _ (mem_pinsAt hb e)))
          ⟨z.1, z.2.1⟩
        refine ⟨I'.unpinned, T.keep _ _ _ st2 fun b hb o e => (pin' b hb o e).1, fun b hb => ?_⟩
        obtain ⟨o, e, _⟩ := T.obj _ _ st2 b hb
        exact (pin' b hb o e).2
      cases b with
      | false =>
        rw [if_neg Bool.false_ne_true] at q4
        obtain ⟨I5, st5, n5⟩ := fpin I4
        simp only [Bool.false_eq_true, if_false]
        exact back s₀ I5 cv (s0at I4) st5 n5 q4 hj
      | true =>
        rw [if_pos rfl] at q4
        simp only [if_true]
        have hy : ∀ v, yieldOut X.env v = yieldValue v := fun v => by simp only [yieldOut, hco, Bool.false_eq_true, if_false]
        simp only [hy]
        rw [Sem.bind_eq_wrap', Sem.bind_eq_wrap', Sem.wrap_wrap, Sem.wrap_wrap]
        refine seg_wrap ?_
        rw [hov]
        have per := pe.run _ s4 σ3 H4 _ I4 q4
        rw [hxe] at per
        refine wpAny_mono per (fun v s5 h5 => ?_) fun _ _ z => z.elim
        obtain ⟨y, H5, I5, r5, hyj, hs5, hc5⟩ := h5
        obtain ⟨I6, st6, n6⟩ := fpin I5
        have hlt : j < ys.length := (List.getElem?_eq_some_iff.mp hyj).1
        obtain ⟨n', hn'⟩ : ∃ n', ys.length - j = n' + 1 := ⟨ys.length - j - 1, by omega⟩
        rw [hn']
        refine seg_at (seg_yield rfl rfl rfl ⟨j, y, σ3, H5, po, by omega, hyj, r5, cv, I6, s0at I5, hs5, fun hns s'' hR => ?_⟩)
        obtain ⟨po'', cv'', I7⟩ := woken F I6 cv hR
        have e' : n' = ys.length - (j + 1) := by omega
        rw [e']
        exact back s'' I7 cv'' (fun _ _ => rfl) (T.keep _ _ _ st6 fun b hb o e => hR.keep b o (fun z => F.fp b z hb) e) n6 (hc5 hns) hlt
end
end GX
end

section
set_option Elab.async false
set_option linter.all false
set_option maxRecDepth 100000
set_option maxHeartbeats 4000000
namespace GX
open PySem PySem.Spec PyProof.Rows L2 GxR GenW

section
variable {X : Cx} {A : Around} {fp L : List Addr}
theorem seg_genS {elt tg iter : Expr} {ifs : List Expr} {scope : Scope} {gpos : Pos} {it : Addr} {tn : Nat → Heap → Prop} {J : It} {g : TG} {tt : TT} {te : TE} {σ0 : L2.St} {vs : List Nat} {ys : List V} {stop : V → Prop} {Qs Qe : Hp → Prop} {W : Nat → Nat → Nat → Hp → Prop}
    (hXA : X.A = A.deeper X.env) (hex : X.ex = fp) (hc : X.calm = true) (hxe : X.xe = fun _ _ => False) (hco : X.env.scope.isCoroutine = false) (F : Far X fp L) (hpf : ∀ b ∈ fp, ∀ p ∈ X.pn, p.1 ≠ b) (T : Turn X.prog X.w X.K tg J fp it tn) (pg : PG X tg g) (pt : PTs X ifs tt) (pe : PE X elt te)
    (hT : GTurn J g tt te σ0 vs ys stop Qs Qe W) (m : Nat) (H : Hp) (s₀ s : Shared) (po : List (Addr × Obj)) (w : W 0 0 m H) (I : Inv X po σ0 H s) (cv : Cov L po) (h0 : ∀ b ∈ L, s.heap.get? b = s₀.heap.get? b) (st : tn 0 s.heap) (nf : ∀ b ∈ fp, H b = none) :
      Seg (model X.prog X.w) A (GRe X L Qe) (GYp X L ys stop Qs) ys.length s₀ (.compStart (.GeneratorExp elt [⟨tg, iter, ifs, 0⟩] scope gpos) 0 (.ref it) .none X.env)
        ((model X.prog X.w).den (.compStart (.GeneratorExp elt [⟨tg, iter, ifs, 0⟩] scope gpos) 0 (.ref it) .none X.env)) [] s := by
  have loop := seg_gen (elt := elt) (iter := iter) (scope := scope) (gpos := gpos) hXA hex hc hxe hco F hpf T pg pt pe hT m 0 0 H s₀ s po w (Nat.zero_le _) I cv h0 st nf
  rw [Nat.sub_zero] at loop
  show Seg _ A _ _ _ s₀ _ ((compStart (.GeneratorExp elt [⟨tg, iter, ifs, 0⟩] scope gpos) 0 (.ref it) .none X.env).onRaise (leaving X.env)) [] s
  unfold compStart
  rw [Sem.onRaise_eq_wrap]
  show Seg _ A _ _ _ s₀ _ ((ask >>= _).wrap _ _ _ _) [] s
  refine seg_bind_wrap (wpAny_askSetting ?_)
  split
  · exact seg_again rfl loop
  · first
      | exact seg_bind_wrap (wpAny_rule (seg_bind_wrap (wpAny_standAt (seg_bind_wrap (T.self _ 0 s _ _ st (seg_again rfl loop))))))
      | (refine seg_bind_wrap (wpAny_rule ?_); show Seg _ A _ _ _ s₀ _ ((standAt iter.pos >>= _).wrap _ _ _ _) [] s; exact seg_bind_wrap (wpAny_standAt (seg_bind_wrap (T.self _ 0 s _ _ st (seg_again rfl loop)))))
end

section
variable {X : Cx} {pins : List (Addr × Obj)} {σ : L2.St} {H : Hp} {s : Shared}
theorem gen_eval {c P : Addr} {elt tg iter : Expr} {ifs : List Expr} {gpos : Pos} {scope : Scope} {own : List (Str × Nat)} {wi : TI} {Q' : Value → Shared → Prop} {R : It → Hp → Prop}
    (hh : X.A.handled = none) (hdep : X.A.depth < recursionLimit) (TB : TabB X.base X.mg c P) (hcode : X.env.code = .ref c) (ok : GOk X.N X.env.scope scope own) (hi : PI X tg iter wi)
    (hs : ∀ v, genFold iter X.env v = pure v) (I : Inv X pins σ H s) (h : wi σ H fun J H1 => TabG H1 P ∧ R J H1)
    (hQ : ∀ (J : It) (H1 H2 : Hp) (it : Addr) (fp : List Addr) (tn : Nat → Heap → Prop) (s4 s5 : Shared) (code : Value) (a : Addr) (g : Nat) (go : Obj), R J H1 → Tabbed P H1 H2 → Inv X pins σ H2 s4 → Turn X.prog X.w X.K tg J fp it tn → tn 0 s4.heap →
      (∀ b ∈ fp, FpOk X pins H2 b ∧ b < s4.heap.objs.size) → s5.os = s4.os → AllBare s5.gens → s5.heap.NoLimit → (∀ b o, s4.heap.get? b = some o → s5.heap.get? b = some o) → s5.heap.Ns s4.heap.objs.size (fun y => if y = ".0" then some (.ref it) else none) →
      s4.heap.objs.size < a → s5.heap.objs.size = a + 1 → s5.heap.get? a = some go → (∀ v, go.data ≠ .cell v) → (∀ h : Heap, h.get? a = some go → h.IsGen a g) → s5.gens[g]? = some (.fresh (.compStart (.GeneratorExp elt [⟨tg, iter, ifs, 0⟩] scope gpos) 0 (.ref it) .none (genEnv scope (cloFrom X.env.cells scope.names []) s4.heap.objs.size code builtinsNs X.env))) → Q' (.ref a) s5) :
    wpAny (model X.prog X.w) X.A (eval (.GeneratorExp elt [⟨tg, iter, ifs, 0⟩] scope gpos) X.env) Q' X.xe s := by
  have hfree : ∀ y ∈ scope.names, y.2 = .free → ∃ c, X.env.cells.lookup y.1 = some c := fun y hy e => by
    rcases ok.blk.free y hy e with k | k
    · exact I.ok.has _ (.inl k)
    · exact I.ok.has _ (.inr k)
  refine wpAny_GeneratorExp_make ok.co (closure_ok hfree) ok.cell ok.dot ok.blk.kind hdep ?_ hs
  refine thn (hi.run pins s σ H _ I h) fun xv s1 hx => thn hx fun itv s2 h2 => ?_
  obtain ⟨it, fp, tn, J, H1, rfl, I2, T, st2, f2, ⟨ps, hP, ht⟩, hR⟩ := h2
  have lim2 := I2.nolimit
  have hPs : s2.heap.get? P = some { cls := .none, data := .fields ps } := I2.hok P _ hP
  have hPlt : P < s2.heap.objs.size := Heap.lt_size hPs
  have cd : PySem.W.CodeHd s2.heap c P := TB.code.keeps fun b u e => I2.bk b u e
  have nPfp : ∀ b ∈ fp, b ≠ P := fun b hb z => by
    have q := (f2 b hb).1
    rw [z, hP] at q; cases q
  have cont : ∀ (code : Value) (h3 : Heap) (tk : Nat) (more : Array Value), Heap.ExtBut P s2.heap h3 → s2.heap.objs.size ≤ h3.objs.size → h3.get? P = some { cls := .none, data := .fields (ps ++ more) } → TriplesOk (ps ++ more).toList →
      wpAny (model X.prog X.w) X.A (builtinsFor X.env.globals X.env.builtins) (fun bi s₄ =>
        ∀ h' : Heap, h'.Ns s₄.heap.objs.size (fun y => if y = ".0" then some (.ref it) else none) → Heap.SameBut s₄.heap.objs.size (s₄.heap.push { cls := .type "frame", data := .dict #[] }) h' →
          Q' (.ref h'.objs.size) { s₄ with
            gens := s₄.gens.push (.fresh (.compStart (.GeneratorExp elt [⟨tg, iter, ifs, 0⟩] scope gpos) 0 (.ref it) .none (genEnv scope (cloFrom X.env.cells scope.names []) s₄.heap.objs.size code bi X.env))),
            toks := s₄.toks + 1 + 1 + 1,
            heap := h'.push { cls := .type "generator", data := .fields #[.int s₄.gens.size 0, .str "<genexpr>" (s₄.toks + 1), .str (X.env.qual ++ "<genexpr>") (s₄.toks + 1 + 1)] } }) X.xe { s2 with heap := h3, toks := tk } := by
    intro code h3 tk more hx hsz hP3 ht3
    obtain ⟨bm, ob, e1, e2, e3, e4, e5, e6, e7, e8⟩ := TB.bm
    have keep3 : ∀ b u, b ≠ P → s2.heap.get? b = some u → h3.get? b = some u := fun b u hb e => hx b u hb e
    refine wpAny_builtinsFor (m := X.mg) (by rw [I2.ok.glob]; exact (I2.mod.glob.keeps I2.bk).extBut hx TB.gP) e1 e2 (keep3 _ _ e4 (I2.bk _ _ e5)) e6 e7 e8 ?_
    have J4 : Inv X pins σ (upd H1 P (.tbl (ps ++ more))) { s2 with heap := h3, toks := tk } := inv_tab (d' := s2.drawn) I2 hP keep3 hP3 I2.bare
    intro h' hn' hs'
    have hsz' : h'.objs.size = h3.objs.size + 1 := by
      have q : h'.objs.size = (h3.push { cls := .type "frame", data := .dict #[] }).objs.size := hs'.1
      rw [q, Heap.size_push]
    have keep' : ∀ b o, h3.get? b = some o → h'.get? b = some o := fun b o e => hs'.extBut b o (Nat.ne_of_lt (Heap.lt_size e)) (Heap.get?_push_of_some _ e)
    refine hQ J H1 (upd H1 P (.tbl (ps ++ more))) it fp tn { s2 with heap := h3, toks := tk } _ code h'.objs.size s2.gens.size _ hR ⟨⟨ps ++ more, upd_same, ht3⟩, fun b hb => upd_ne hb⟩ J4 T ?_ (fun b hb => ⟨⟨?_, (f2 b hb).2⟩, ?_⟩) rfl (AllBare.push I2.bare rfl) ?_ (fun b o e => Heap.get?_push_of_some _ (keep' b o e)) ?_ ?_ ?_ (Heap.get?_push_size _ rfl) ?_ ?_ ?_
    · exact T.keep _ _ _ st2 fun b hb o e => keep3 b o (nPfp b hb) e
    · rw [upd_ne (nPfp b hb)]; exact (f2 b hb).1
    · obtain ⟨o, e, _⟩ := T.obj _ _ st2 b hb
      exact Nat.lt_of_lt_of_le (Heap.lt_size e) hsz
    · exact J4.nolimit.keeps fun b o e => Heap.get?_push_of_some _ (keep' b o e)
    · exact hn'.push _
    · show h3.objs.size < h'.objs.size
      omega
    · show (h'.push _).objs.size = _
      rw [Heap.size_push]
    · intro v z; cases z
    · exact fun h e => ⟨_, _, _, e, rfl, rfl, rfl⟩
    · exact Array.getElem?_push_size ..
  refine ⟨lim2, ?_⟩
  cases hf : codeAmong gpos ps.toList with
  | none =>
    refine wpAny_genexprCodeX hcode (cd.code hPs ht) (cd.tab hPs) hf fun c' h' tk hx hge hlt hco' _ htab' _ => ?_
    obtain ⟨o1, vs, f1, tf, fl, tg, inF, tx, tt, op, _, _, _, _, _, _, _, _, _, htr, _⟩ := hco'
    exact cont _ h' tk _ hx (Nat.le_trans hge (Nat.le_of_lt hlt)) htab'.2 htr
  | some cv =>
    refine wpAny_genexprCode_hit hcode (cd.code hPs ht) hf ?_
    have e : ps ++ #[] = ps := by simp
    exact cont cv s2.heap s2.toks #[] (Heap.ExtBut.refl _ _) (Nat.le_refl _) (by rw [e]; exact hPs) (by rw [e]; exact ht)
end
end GX
end

section
set_option Elab.async false
set_option linter.all false
set_option maxRecDepth 100000
set_option maxHeartbeats 4000000
namespace GX
open PySem PySem.Spec PyProof.Rows L2 GxR GenW

/-- the generator at a (number g) is ready to be woken; at most n items are still to come -/
def GSt (X : Cx) (L : List Addr) (ys : List V) (stop : V → Prop) (Qs Qe : Hp → Prop) (A : Around) (a : Addr) (g : Nat) (n : Nat) (s : Shared) : Prop :=
  s.heap.IsGen a g ∧ s.heap.NoLimit ∧ ∃ gs, s.gens[g]? = some gs ∧ gs.Goes (model X.prog X.w) A (GRe X L Qe) (GYp X L ys stop Qs) n (.send .none) (s.setGen g .running)

section
variable {X : Cx} {fp L : List Addr} {ys : List V} {stop : V → Prop} {Qs Qe : Hp → Prop} {A : Around} {a : Addr} {g : Nat} {go : Obj}
theorem Cov.own {po : List (Addr × Obj)} {σ : L2.St} {H : Hp} {s : Shared} (I : Inv X po σ H s) (c : Cov L po) : ∀ b ∈ L, ∃ o, s.heap.get? b = some o ∧ ∀ v, o.data ≠ .cell v := fun b hb => by
  unfold Cov at c
  rw [← c] at hb
  obtain ⟨p, hp, rfl⟩ := List.mem_map.mp hb
  obtain ⟨h1, _, _, _, h5⟩ := I.pin p (List.mem_append_right _ hp)
  exact ⟨p.2, h1, h5⟩
theorem next_g {n : Nat} {s : Shared} {Q : Option Value → Shared → Prop} {E : Value → Shared → Prop} (hh : A.handled = none) (hroom : A.depth < recursionLimit) (FF : Far X fp L) (haL : a ∉ L) (hcL : cStatics ∉ L) (hpn : (a, go) ∈ X.pn) (hgen : ∀ h : Heap, h.get? a = some go → h.IsGen a g)
    (h : GSt X L ys stop Qs Qe A.in1 a g n s)
    (hY : ∀ j y v po σ H s1, RelV y v → ys[j]? = some y → n - 1 + 1 + j = ys.length → Cov L po → Inv X po σ H s1 → (∀ b ∈ L, s1.heap.get? b = s.heap.get? b) → (stop y → Qs H) → (¬ stop y → ∃ n', n = n' + 1 ∧ ∀ s2, Rest L s1 s2 → s2.gens = s1.gens → GSt X L ys stop Qs Qe A.in1 a g n' s2) → Q (some v) s1)
    (hP : ∀ po σ H s1, n = 0 → Cov L po → Inv X po σ H s1 → (∀ b ∈ L, s1.heap.get? b = s.heap.get? b) → Qe H → Q none s1) :
    wpAny (model X.prog X.w) A (pyNext (.ref a)) Q E s := by
  obtain ⟨hg, hl, gs, hgs, hgo⟩ := h
  have hgl : g < s.gens.size := (Array.getElem?_eq_some_iff.mp hgs).1
  refine wpAny_gsz (n := g + 1) hgl ?_
  refine wpAny_pyNext_genexpQ (P := GPe X L Qe) hh hl hroom hg hgs hgo (fun v s₁ gs' hbare hv => ?_) (fun s₁ hp h' hk => ?_)
  · intro hsz
    have hsz1 : g < s₁.gens.size := by
      have q : (s₁.setGen g gs').gens.size = s₁.gens.size := setGen_size _ _ _
      have hsz' : g + 1 ≤ (s₁.setGen g gs').gens.size := hsz
      omega
    obtain ⟨j, y, σ, H, po, hn, hyj, rv, cv, I, h0, h1, h2⟩ := hv
    have r1 : Rest L s₁ (s₁.setGen g gs') := ⟨rfl, allBare_setGen I.bare hbare, fun b o _ e => e, fun b hb => cv.own (s := s₁) I b hb⟩
    obtain ⟨po', cv', I'⟩ := woken FF I cv r1
    refine hY j y v po' σ H _ rv hyj hn cv' I' (fun b hb => h0 b hb) h1 fun hns => ?_
    cases n with
    | zero =>
      exact (h2 hns _ r1).elim
    | succ n' =>
      refine ⟨n', rfl, fun s2 hR hgg => ?_⟩
      have ea : s₁.heap.get? a = some go := (I.pin (a, go) (List.mem_append_left _ hpn)).1
      have ea2 : s2.heap.get? a = some go := hR.keep a go haL ea
      have hl2 : s2.heap.NoLimit := by
        obtain ⟨mc, hns', hnn⟩ := I.nolimit
        exact ⟨mc, hns'.at' fun o e => hR.keep _ o hcL e, hnn⟩
      refine ⟨hgen _ ea2, hl2, gs', by rw [hgg]; exact setGen_at hsz1, h2 hns _ ⟨hR.os, ?_, fun b o hb e => hR.keep b o hb e, hR.own⟩⟩
      exact allBare_setGen (s := s2) (x := .running) hR.bare rfl
  · intro _
    obtain ⟨po, σ, H, hn0, cv, I, h0, qe⟩ := hp
    have r1 : Rest L s₁ { s₁.setGen g .finished with heap := h' } := ⟨rfl, allBare_setGen I.bare rfl, fun b o _ e => hk b o e, fun b hb => by
      obtain ⟨o, e, d⟩ := cv.own I b hb
      exact ⟨o, hk b o e, d⟩⟩
    obtain ⟨po', cv', I'⟩ := woken FF I cv r1
    refine hP po' σ H _ hn0 cv' I' (fun b hb => ?_) qe
    obtain ⟨o, e, _⟩ := cv.own I b hb
    show h'.get? b = s.heap.get? b
    rw [hk b o e, ← e]
    exact h0 b hb

theorem all_loop {R : Result → Shared → Prop} (hh : A.handled = none) (hroom : A.depth < recursionLimit) (FF : Far X fp []) (hpn : (a, go) ∈ X.pn) (hgen : ∀ h : Heap, h.get? a = some go → h.IsGen a g) (hys : ∀ y ∈ ys, ∃ c, y = V.bl c)
    (hend : ∀ po σ H s1, Inv X po σ H s1 → Qe H → R (.ok (.ret (.bool true))) s1) (hstop : ∀ po σ H s1, Inv X po σ H s1 → Qs H → R (.ok (.ret (.bool false))) s1) :
    ∀ (n : Nat) (s : Shared), GSt X [] ys (fun y => y = .bl false) Qs Qe A.in1.in1 a g n s → codeAny (model X.prog X.w) A (.builtin "all.loop" ⟨[.ref a], []⟩) R s := by
  intro n
  induction n with
  | zero =>
    intro s h
    refine codeAny_builtin F.entry_all_loop ?_
    rw [Around.under_plainId F.plain_all_loop _]
    show wpAny _ A.in1 (pyNext (.ref a) >>= _) _ _ s
    refine wpAny_bind (next_g (A := A.in1) hh hroom FF (by simp) (by simp) hpn hgen h (fun j y v po σ H s1 rv hy hnj cv I h0 hs hn => ?_) fun po σ H s1 hn0 cv I h0 qe => ?_)
    · obtain ⟨c, rfl⟩ := hys y (List.mem_of_getElem? hy)
      cases rv
      refine wpAny_bind (wpAny_holding (wpAny_truthy_bool ?_))
      refine wpAny_bind (wpAny_letGo ?_)
      cases c with
      | true =>
        obtain ⟨n', e, hG⟩ := hn (by simp)
        cases e
      | false =>
        simp only [Bool.false_eq_true, if_false, if_true]
        exact wpAny_bind (wpAny_rule (wpAny_pure (hstop po σ H s1 I (hs rfl))))
    · exact wpAny_bind (wpAny_rule (wpAny_pure (hend po σ H s1 I qe)))
  | succ n ih =>
    intro s h
    refine codeAny_builtin F.entry_all_loop ?_
    rw [Around.under_plainId F.plain_all_loop _]
    show wpAny _ A.in1 (pyNext (.ref a) >>= _) _ _ s
    refine wpAny_bind (next_g (A := A.in1) hh hroom FF (by simp) (by simp) hpn hgen h (fun j y v po σ H s1 rv hy hnj cv I h0 hs hn => ?_) fun po σ H s1 hn0 cv I h0 qe => ?_)
    · obtain ⟨c, rfl⟩ := hys y (List.mem_of_getElem? hy)
      cases rv
      refine wpAny_bind (wpAny_holding (wpAny_truthy_bool ?_))
      refine wpAny_bind (wpAny_letGo ?_)
      cases c with
      | true =>
        obtain ⟨n', e, hG⟩ := hn (by simp)
        cases e
        simp only [Bool.false_eq_true, if_false, if_true]
        exact wpAny_pure ⟨plainId_quiet F.plain_all_loop _, ih s1 (hG s1 ⟨rfl, I.bare, fun b o _ e => e, cv.own I⟩ rfl)⟩
      | false =>
        simp only [Bool.false_eq_true, if_false, if_true]
        exact wpAny_bind (wpAny_rule (wpAny_pure (hstop po σ H s1 I (hs rfl))))
    · exact wpAny_bind (wpAny_rule (wpAny_pure (hend po σ H s1 I qe)))

theorem any_loop {R : Result → Shared → Prop} (hh : A.handled = none) (hroom : A.depth < recursionLimit) (FF : Far X fp []) (hpn : (a, go) ∈ X.pn) (hgen : ∀ h : Heap, h.get? a = some go → h.IsGen a g) (hys : ∀ y ∈ ys, ∃ c, y = V.bl c)
    (hend : ∀ po σ H s1, Inv X po σ H s1 → Qe H → R (.ok (.ret (.bool false))) s1) (hstop : ∀ po σ H s1, Inv X po σ H s1 → Qs H → R (.ok (.ret (.bool true))) s1) :
    ∀ (n : Nat) (s : Shared), GSt X [] ys (fun y => y = .bl true) Qs Qe A.in1.in1 a g n s → codeAny (model X.prog X.w) A (.builtin "any.loop" ⟨[.ref a], []⟩) R s := by
  intro n
  induction n with
  | zero =>
    intro s h
    refine codeAny_builtin F.entry_any_loop ?_
    rw [Around.under_plainId F.plain_any_loop _]
    show wpAny _ A.in1 (pyNext (.ref a) >>= _) _ _ s
    refine wpAny_bind (next_g (A := A.in1) hh hroom FF (by simp) (by simp) hpn hgen h (fun j y v po σ H s1 rv hy hnj cv I h0 hs hn => ?_) fun po σ H s1 hn0 cv I h0 qe => ?_)
    · obtain ⟨c, rfl⟩ := hys y (List.mem_of_getElem? hy)
      cases rv
      refine wpAny_bind (wpAny_holding (wpAny_truthy_bool ?_))
      refine wpAny_bind (wpAny_letGo ?_)
      cases c with
      | false =>
        obtain ⟨n', e, hG⟩ := hn (by simp)
        cases e
      | true =>
        simp only [Bool.false_eq_true, if_false, if_true]
        exact wpAny_bind (wpAny_rule (wpAny_pure (hstop po σ H s1 I (hs rfl))))
    · exact wpAny_bind (wpAny_rule (wpAny_pure (hend po σ H s1 I qe)))
  | succ n ih =>
    intro s h
    refine codeAny_builtin F.entry_any_loop ?_
    rw [Around.under_plainId F.plain_any_loop _]
    show wpAny _ A.in1 (pyNext (.ref a) >>= _) _ _ s
    refine wpAny_bind (next_g (A := A.in1) hh hroom FF (by simp) (by simp) hpn hgen h (fun j y v po σ H s1 rv hy hnj cv I h0 hs hn => ?_) fun po σ H s1 hn0 cv I h0 qe => ?_)
    · obtain ⟨c, rfl⟩ := hys y (List.mem_of_getElem? hy)
      cases rv
      refine wpAny_bind (wpAny_holding (wpAny_truthy_bool ?_))
      refine wpAny_bind (wpAny_letGo ?_)
      cases c with
      | false =>
        obtain ⟨n', e, hG⟩ := hn (by simp)
        cases e
        simp only [Bool.false_eq_true, if_false, if_true]
        exact wpAny_pure ⟨plainId_quiet F.plain_any_loop _, ih s1 (hG s1 ⟨rfl, I.bare, fun b o _ e => e, cv.own I⟩ rfl)⟩
      | true =>
        simp only [Bool.false_eq_true, if_false, if_true]
        exact wpAny_bind (wpAny_rule (wpAny_pure (hstop po σ H s1 I (hs rfl))))
    · exact wpAny_bind (wpAny_rule (wpAny_pure (hend po σ H s1 I qe)))

/-- sum(..) of ints: S holds the sum so far -/
theorem sum_loop {R : Result → Shared → Prop} {S : Addr} {zs : List Int} (hh : A.handled = none) (hroom : A.depth < recursionLimit) (FF : Far X fp [S]) (haS : a ≠ S) (hcS : cStatics ≠ S) (hpn : (a, go) ∈ X.pn) (hgen : ∀ h : Heap, h.get? a = some go → h.IsGen a g) (hys : ys = zs.map V.int)
    (hfit : ∀ j z, zs[j]? = some z → InLong z ∧ InLong ((zs.take (j + 1)).sum))
    (hend : ∀ po σ H s1 t, Inv X po σ H s1 → Qe H → R (.ok (.ret (.int zs.sum t))) s1) :
    ∀ (n : Nat) (s : Shared) (t : Tok) (c : Nat), n ≤ zs.length → s.heap.get? S = some { cls := .type "list", dict := none, data := .seq #[.int ((zs.take (zs.length - n)).sum) t] c, slots := #[] } → GSt X [S] ys (fun _ => False) Qs Qe A.in1.in1 a g n s →
      codeAny (model X.prog X.w) A (.builtin "sum.loop" ⟨[.ref a, .ref S, rawInt 0, rawInt 0], []⟩) R s := by
  have hlen : ys.length = zs.length := by rw [hys, List.length_map]
  intro n
  induction n with
  | zero =>
    intro s t c hn hS h
    refine codeAny_builtin F.entry_sum_loop ?_
    rw [Around.under_plainId F.plain_sum_loop _]
    show wpAny _ A.in1 (seqItems? (.ref S) >>= _) _ _ s
    refine wpAny_bind (wpAny_seqItems hS rfl ?_)
    show wpAny _ A.in1 (tryCatch (pyNext (.ref a)) _ >>= _) _ _ s
    refine wpAny_bind (wpAny_tryCatch (next_g (A := A.in1) hh hroom FF (by simp [haS]) (by simp [hcS]) hpn hgen h (fun j y v po σ H s1 rv hy hnj cv I h0 hs hn => ?_) fun po σ H s1 hn0 cv I h0 qe => ?_))
    · obtain ⟨n', e, _⟩ := hn (fun z => z); cases e
    · rw [Nat.sub_zero, List.take_length]
      exact wpAny_pure (hend po σ H s1 _ I qe)
  | succ n ih =>
    intro s t c hn hS h
    refine codeAny_builtin F.entry_sum_loop ?_
    rw [Around.under_plainId F.plain_sum_loop _]
    show wpAny _ A.in1 (seqItems? (.ref S) >>= _) _ _ s
    refine wpAny_bind (wpAny_seqItems hS rfl ?_)
    show wpAny _ A.in1 (tryCatch (pyNext (.ref a)) _ >>= _) _ _ s
    refine wpAny_bind (wpAny_tryCatch (next_g (A := A.in1) hh hroom FF (by simp [haS]) (by simp [hcS]) hpn hgen h (fun j y v po σ H s1 rv hy hnj cv I h0 hs hn' => ?_) fun po σ H s1 hn0 cv I h0 qe => ?_))
    · obtain ⟨n', e, hG⟩ := hn' (fun z => z)
      cases e
      have hj : j = zs.length - (n + 1) := by omega
      have hz : ∃ z, zs[j]? = some z ∧ y = V.int z := by
        rw [hys, List.getElem?_map] at hy
        cases e : zs[j]? with
        | none => rw [e] at hy; cases hy
        | some z => rw [e] at hy; exact ⟨z, rfl, (Option.some.inj hy).symm⟩
      obtain ⟨z, hz, rfl⟩ := hz
      obtain ⟨t2, rfl⟩ := rv
      rw [← hj] at hS
      have hS' : s1.heap.get? S = some { cls := .type "list", dict := none, data := .seq #[.int ((zs.take j).sum) t] c, slots := #[] } := (h0 S (by simp)).trans hS
      obtain ⟨⟨f1, f2⟩, f3, f4⟩ := hfit j z hz
      have hsum : (zs.take (j + 1)).sum = (zs.take j).sum + z := by rw [List.take_add_one, hz]; simp
      rw [hsum] at f3 f4
      have hc : ((decide (-(2 ^ 63) ≤ z) && decide (z < 2 ^ 63)) && (decide (-(2 ^ 63) ≤ (zs.take j).sum + z) && decide ((zs.take j).sum + z < 2 ^ 63))) = true := by
        simp only [Bool.and_eq_true, decide_eq_true_eq]
        exact ⟨⟨f1, f2⟩, f3, f4⟩
      rw [← hj]
      show wpAny _ A.in1 (if (_ : Bool) = true then (mkInt ((zs.take j).sum + z) >>= _) else _) _ _ _
      split
      · refine wpAny_bind (wpAny_mkInt ?_)
        show wpAny _ A.in1 (updateSeq S (fun _ => #[.int ((zs.take j).sum + z) s1.toks]) >>= _) _ _ _
        refine wpAny_bind ?_
        rw [← hsum, show j + 1 = zs.length - n by omega]
        refine wpAny_updateSeq hS' rfl (wpAny_pure ⟨plainId_quiet F.plain_sum_loop _, ih _ s1.toks _ (by omega) (Heap.get?_update_self _ hS' rfl) (hG _ ⟨rfl, I.bare, fun b o hb e => ?_, fun b hb => ?_⟩ rfl)⟩)
        · exact (Heap.get?_update_other _ _ (fun h : S = b => hb (by rw [h]; exact List.mem_singleton.mpr rfl))).trans e
        · rw [List.mem_singleton.mp hb]
          exact ⟨_, Heap.get?_update_self _ hS' rfl, fun v z => by cases z⟩
      · rename_i hneg
        exact absurd hc hneg
    · omega
end
end GX
end

section
set_option Elab.async false
set_option linter.all false
set_option maxRecDepth 100000
set_option maxHeartbeats 4000000
namespace GX
open PySem PySem.Spec PyProof.Rows L2 GxR GenW

/-- a generator expression's reading: what it walks, then by an invariant over (turn, how many are out, measure, heap) -/
def tGen (P : Addr) (stop : V → Prop) (wi : TI) (g : TG) (tt : TT) (te : TE) (vs : List Nat) (ok : List V → Prop) (Qs : Hp → Prop) (Qe : List V → Hp → Prop) : L2.St → Hp → Prop := fun σ H =>
  wi σ H fun J H1 => TabG H1 P ∧ ∀ H2, Tabbed P H1 H2 → ∃ (ys : List V) (W : Nat → Nat → Nat → Hp → Prop), ok ys ∧ (∃ m, W 0 0 m H2) ∧ GTurn J g tt te (wipe σ vs) vs ys stop Qs (Qe ys) W
abbrev bools (ys : List V) : Prop := ∀ y ∈ ys, ∃ c, y = V.bl c
def tAllG (P : Addr) (wi : TI) (g : TG) (tt : TT) (te : TE) (vs : List Nat) : TE := fun σ H Q => tGen P (fun y => y = .bl false) wi g tt te vs bools (fun H => Q (.bl false) H) (fun _ H => Q (.bl true) H) σ H
def tAnyG (P : Addr) (wi : TI) (g : TG) (tt : TT) (te : TE) (vs : List Nat) : TE := fun σ H Q => tGen P (fun y => y = .bl true) wi g tt te vs bools (fun H => Q (.bl true) H) (fun _ H => Q (.bl false) H) σ H
def sumOk (ys : List V) : Prop := ∃ zs : List Int, ys = zs.map V.int ∧ ∀ j z, zs[j]? = some z → InLong z ∧ InLong ((zs.take (j + 1)).sum)
def tSumG (P : Addr) (wi : TI) (g : TG) (tt : TT) (te : TE) (vs : List Nat) : TE := fun σ H Q => tGen P (fun _ => False) wi g tt te vs sumOk (fun _ => True) (fun ys H => ∀ zs : List Int, ys = zs.map V.int → Q (.int zs.sum) H) σ H

section
variable {X : Cx} {pins : List (Addr × Obj)} {σ : L2.St} {H : Hp} {s : Shared}
theorem Room.gen {k : Nat} {A : Around} (r : Room (k + 1) A) (env : Env) : Room k (A.in1.in1.deeper env) :=
  ⟨r.hd, by have := r.dp; show A.depth + 1 + 3 * k + 5 < _; omega, by have := r.un; show A.units + 1 + 1 + 3 + 16 * k + 200 < _; omega⟩

/-- the generator comes, ready for a consumer whose loop stands in X.A.in1 -/
theorem gen_ready {c P : Addr} {elt tg iter : Expr} {ifs : List Expr} {gpos : Pos} {scope : Scope} {own : List (Str × Nat)} {wi : TI} {g : TG} {tt : TT} {te : TE} {stop : V → Prop} {okY : List V → Prop} {Qs : Hp → Prop} {Qe : List V → Hp → Prop} {k : Nat} {Q' : Value → Shared → Prop}
    (hr : Room (k + 1) X.A) (hN : X.N.Nodup) (TB : TabB X.base X.mg c P) (hcode : X.env.code = .ref c) (ok : GOk X.N X.env.scope scope own) (hi : PI X tg iter wi)
    (hg : ∀ (A : Around) (s : Shared) (H : Hp) (C : Addr) (code : Value) (fp : List Addr) (pn : List (Addr × Obj)), Room k A → PG (gcx X A s H (genEnv scope (cloFrom X.env.cells scope.names []) C code builtinsNs X.env) fp pn) tg g)
    (ht : ∀ (A : Around) (s : Shared) (H : Hp) (C : Addr) (code : Value) (fp : List Addr) (pn : List (Addr × Obj)), Room k A → PTs (gcx X A s H (genEnv scope (cloFrom X.env.cells scope.names []) C code builtinsNs X.env) fp pn) ifs tt)
    (he : ∀ (A : Around) (s : Shared) (H : Hp) (C : Addr) (code : Value) (fp : List Addr) (pn : List (Addr × Obj)), Room k A → PE (gcx X A s H (genEnv scope (cloFrom X.env.cells scope.names []) C code builtinsNs X.env) fp pn) elt te)
    (hs : ∀ v, genFold iter X.env v = pure v) (I : Inv X pins σ H s) (h : tGen P stop wi g tt te (own.map (·.2)) okY Qs Qe σ H)
    (hQ : ∀ (Xi : Cx) (fp : List Addr) (ys : List V) (a : Addr) (gn : Nat) (go : Obj) (s5 : Shared), okY ys → Xi.prog = X.prog → Xi.w = X.w → (a, go) ∈ Xi.pn → (∀ h : Heap, h.get? a = some go → h.IsGen a gn) → s5.heap.get? a = some go → s5.heap.objs.size = a + 1 → s5.heap.NoLimit → AllBare s5.gens →
      (∀ (L : List Addr) s6, (∀ b o, s5.heap.get? b = some o → s6.heap.get? b = some o) → s6.gens = s5.gens → s6.os = s5.os → (∀ b ∈ L, s5.heap.objs.size ≤ b ∧ ∃ o, s6.heap.get? b = some o ∧ ∀ v, o.data ≠ .cell v) → Far Xi fp L ∧ GSt Xi L ys stop Qs (Qe ys) X.A.in1.in1 a gn ys.length s6) →
      (∀ po σ' H' s1, Inv Xi po σ' H' s1 → Inv X pins σ H' s1) → Q' (.ref a) s5) :
    wpAny (model X.prog X.w) X.A (eval (.GeneratorExp elt [⟨tg, iter, ifs, 0⟩] scope gpos) X.env) Q' X.xe s := by
  have hh : X.A.handled = none := hr.hd
  refine gen_eval hh hr.depth TB hcode ok hi hs I h fun J H1 H2 it fp tn s4 s5 code a gn go hR htb I4 T st4 f4 hos hb5 hl5 kp hF ha hsz hgo hgd hgen hgs => ?_
  obtain ⟨ys, W, hok, ⟨m, w0⟩, hT⟩ := hR H2 htb
  have I5 := gen_start (A := X.A.in1.in1) (own := own) (code := code) hh I4.ok.frames I4 ok hN f4 hos hb5 kp hF ha hgo hgd
  generalize hce : genEnv scope (cloFrom X.env.cells scope.names []) s4.heap.objs.size code builtinsNs X.env = ce at I5 hgs
  have hra : Room k (X.A.in1.in1.deeper ce) := Room.gen hr ce
  have pg : PG (gcx X (X.A.in1.in1.deeper ce) s4 H2 ce fp [(a, go)]) tg g := by rw [← hce] at hra ⊢; exact hg _ s4 H2 _ code fp _ hra
  have pt : PTs (gcx X (X.A.in1.in1.deeper ce) s4 H2 ce fp [(a, go)]) ifs tt := by rw [← hce] at hra ⊢; exact ht _ s4 H2 _ code fp _ hra
  have pe : PE (gcx X (X.A.in1.in1.deeper ce) s4 H2 ce fp [(a, go)]) elt te := by rw [← hce] at hra ⊢; exact he _ s4 H2 _ code fp _ hra
  have cL : ce.locals = s4.heap.objs.size := by rw [← hce]; rfl
  have cS : ce.scope = scope := by rw [← hce]; rfl
  refine hQ (gcx X (X.A.in1.in1.deeper ce) s4 H2 ce fp [(a, go)]) fp ys a gn go s5 hok rfl rfl (List.mem_singleton.mpr rfl) hgen hgo hsz hl5 hb5 (fun L s6 k6 g6 o6 hL => ?_) fun po σ' H' s1 I1 => ?_
  · have hyoung : ∀ b ∈ L, s4.heap.objs.size < b ∧ a < b := fun b hb => by
      have h1 : s5.heap.objs.size ≤ b := (hL b hb).1
      rw [hsz] at h1
      exact ⟨Nat.lt_of_lt_of_le (Nat.lt_succ_of_lt ha) h1, h1⟩
    have FF : Far (gcx X (X.A.in1.in1.deeper ce) s4 H2 ce fp [(a, go)]) fp L := by
      refine ⟨fun b hb => Nat.le_of_lt (hyoung b hb).1, fun b hb => ?_, fun b hb x c e z => ?_, fun b hb p hp => ?_, fun b hb z => ?_, fun b hb z => ?_⟩
      · show b ≠ ce.locals
        rw [cL]; exact Nat.ne_of_gt (hyoung b hb).1
      · obtain ⟨v, q⟩ := I5.cell x c e
        exact absurd (Nat.lt_of_lt_of_le q.lt (hL b hb).1) (by rw [z]; exact Nat.lt_irrefl _)
      · have hp : p ∈ [(a, go)] := hp
        rw [List.mem_singleton.mp hp]
        exact Nat.ne_of_lt (hyoung b hb).2
      · exact absurd (Nat.lt_trans (f4 b z).2 (hyoung b hb).1) (Nat.lt_irrefl _)
      · rcases List.mem_cons.mp (I4.stkSub b z) with z | z
        · exact absurd (Nat.lt_trans I4.lt (by rw [← z]; exact (hyoung b hb).1)) (Nat.lt_irrefl _)
        · exact absurd z (I4.nofs (Nat.le_of_lt (hyoung b hb).1))
    refine ⟨FF, hgen _ (k6 a go hgo), hl5.keeps k6, .fresh (.compStart (.GeneratorExp elt [⟨tg, iter, ifs, 0⟩] scope gpos) 0 (.ref it) .none ce), by rw [g6]; exact hgs, ⟨rfl, ?_⟩⟩
    have hsz6 : ∀ b ∈ L, H2 b = none ∧ b ≠ ce.locals := fun b hb => ⟨I4.hok.fresh (Nat.le_of_lt (hyoung b hb).1), FF.loc b hb⟩
    -- the inner invariant at s6, the generator marked as running
    have I6 : Inv (gcx X (X.A.in1.in1.deeper ce) s4 H2 ce fp [(a, go)]) [] (wipe σ (own.map (·.2))) H2 (s6.setGen gn .running) :=
      I5.call' (ch := []) o6 (Un.kept k6) (I5.hok.kept k6) (allBare_setGen (s := s6) (by rw [g6]; exact hb5) rfl) fun b z => by simp at z
    have I7 : ∃ po, Cov L po ∧ Inv (gcx X (X.A.in1.in1.deeper ce) s4 H2 ce fp [(a, go)]) po (wipe σ (own.map (·.2))) H2 (s6.setGen gn .running) := by
      refine ⟨L.map fun b => (b, (s6.heap.get? b).getD { cls := .none, data := .plain }), by unfold Cov; rw [List.map_map]; exact List.map_id' _, I6.pins_of fun p hp => ?_⟩
      obtain ⟨b, hb, rfl⟩ := List.mem_map.mp hp
      obtain ⟨_, ob, e, d⟩ := hL b hb
      refine ⟨?_, (hsz6 b hb).1, (hsz6 b hb).2, FF.fs b hb, ?_⟩
      · show s6.heap.get? b = some ((s6.heap.get? b).getD _)
        rw [e]; rfl
      · show ∀ v, ((s6.heap.get? b).getD _).data ≠ .cell v
        rw [e]; exact d
    obtain ⟨po, cv, I7⟩ := I7
    have hT' : GTurn J g tt te (wipe σ (own.map (·.2))) (own.map (·.2)) ys stop Qs (Qe ys) W := hT
    exact seg_genS (X := gcx X (X.A.in1.in1.deeper ce) s4 H2 ce fp [(a, go)]) (A := X.A.in1.in1) rfl rfl rfl rfl (by show ce.scope.isCoroutine = false; rw [cS]; exact ok.co) FF
      (fun b hb p hp => by
        have hp : p ∈ [(a, go)] := hp
        rw [List.mem_singleton.mp hp]
        exact Nat.ne_of_gt (Nat.lt_trans (f4 b hb).2 ha)) T pg pt pe hT' m H2 _ _ po w0 I7 cv (fun _ _ => rfl) (T.keep _ _ _ st4 fun b hb o e => k6 b o (kp b o e)) fun b hb => (f4 b hb).1.1
  · exact I4.call' (ch := fp) I1.os I1.base I1.hok I1.bare fun b hb => ⟨(f4 b hb).1.2.2.2.1, (f4 b hb).1.2.1, (f4 b hb).1.2.2.2.2.1, (f4 b hb).1.2.2.2.2.2⟩
end
end GX
end

section
set_option Elab.async false
set_option linter.all false
set_option maxRecDepth 100000
set_option maxHeartbeats 4000000
namespace GX
open PySem PySem.Spec PyProof.Rows L2 GxR GenW

section
variable {X : Cx} {pins : List (Addr × Obj)} {σ : L2.St} {H : Hp} {s : Shared}
theorem pe_allG {c P : Addr} {elt tg iter : Expr} {ifs : List Expr} {gpos p pos : Pos} {scope : Scope} {own : List (Str × Nat)} {wi : TI} {g : TG} {tt : TT} {te : TE} {k : Nat}
    (hr : Room (k + 1) X.A) (hN : X.N.Nodup) (hgl : Gl X "all") (hm : X.mg "all" = none) (hb : bootBuiltins "all" = some (.builtin "all")) (TB : TabB X.base X.mg c P) (hcode : X.env.code = .ref c) (ok : GOk X.N X.env.scope scope own) (hi : PI X tg iter wi)
    (hg : ∀ (A : Around) (s : Shared) (H : Hp) (C : Addr) (code : Value) (fp : List Addr) (pn : List (Addr × Obj)), Room k A → PG (gcx X A s H (genEnv scope (cloFrom X.env.cells scope.names []) C code builtinsNs X.env) fp pn) tg g)
    (ht : ∀ (A : Around) (s : Shared) (H : Hp) (C : Addr) (code : Value) (fp : List Addr) (pn : List (Addr × Obj)), Room k A → PTs (gcx X A s H (genEnv scope (cloFrom X.env.cells scope.names []) C code builtinsNs X.env) fp pn) ifs tt)
    (he : ∀ (A : Around) (s : Shared) (H : Hp) (C : Addr) (code : Value) (fp : List Addr) (pn : List (Addr × Obj)), Room k A → PE (gcx X A s H (genEnv scope (cloFrom X.env.cells scope.names []) C code builtinsNs X.env) fp pn) elt te)
    (hs : ∀ v, genFold iter X.env v = pure v := by intro _; rfl)
    (hst : starEach [.GeneratorExp elt [⟨tg, iter, ifs, 0⟩] scope gpos] X.env = (false, eval (.GeneratorExp elt [⟨tg, iter, ifs, 0⟩] scope gpos) X.env) :: starEach [] X.env := by rfl) :
    PE X (.Call (.Name "all" p) [.GeneratorExp elt [⟨tg, iter, ifs, 0⟩] scope gpos] [] pos) (tAllG P wi g tt te (own.map (·.2))) := by
  refine ⟨fun pins s σ H Q I h => ?_⟩
  refine wpAny_Call_Name_kw (ld_blt I hgl hm hb ?_)
  refine PyProof.Rows.callWith_builtin1 ?_ hst (by rfl)
  rw [hst]
  show wpAny _ _ (spliced ((false, eval (.GeneratorExp elt [⟨tg, iter, ifs, 0⟩] scope gpos) X.env) :: backTo pos (starEach [] X.env))) _ _ s
  refine Calls.spliced_cons (gen_ready hr hN TB hcode ok hi hg ht he hs I h (fun Xi fp ys a gn go s5 hok hp hw hpn hgen hgo hsz hl5 hb5 hst hback => ?_))
  refine Calls.spliced_nil ?_
  refine call_function_tree F.kind_all F.plain_all F.entry_all (F.args_all1 _) ?_
  unfold Builtin.«all»
  refine wpAny_bind (m := oneArg "all" _) (wpAny_pure ?_)
  refine wpAny_bind (wpAny_pyIter_gen (hgen _ hgo) ?_)
  obtain ⟨FF, hG⟩ := hst [] s5 (fun _ _ e => e) rfl rfl (fun b hb => by cases hb)
  rw [← hp, ← hw]
  refine wpAny_pure ⟨plainId_quiet F.plain_all_loop _, all_loop (A := X.A) hr.hd hr.depth FF hpn hgen hok (fun po σ' H' s1 I1 q => ?_) (fun po σ' H' s1 I1 q => ?_) ys.length s5 hG⟩
  · exact ⟨.bl true, H', hback po σ' H' s1 I1, rfl, q⟩
  · exact ⟨.bl false, H', hback po σ' H' s1 I1, rfl, q⟩
theorem pe_anyG {c P : Addr} {elt tg iter : Expr} {ifs : List Expr} {gpos p pos : Pos} {scope : Scope} {own : List (Str × Nat)} {wi : TI} {g : TG} {tt : TT} {te : TE} {k : Nat}
    (hr : Room (k + 1) X.A) (hN : X.N.Nodup) (hgl : Gl X "any") (hm : X.mg "any" = none) (hb : bootBuiltins "any" = some (.builtin "any")) (TB : TabB X.base X.mg c P) (hcode : X.env.code = .ref c) (ok : GOk X.N X.env.scope scope own) (hi : PI X tg iter wi)
    (hg : ∀ (A : Around) (s : Shared) (H : Hp) (C : Addr) (code : Value) (fp : List Addr) (pn : List (Addr × Obj)), Room k A → PG (gcx X A s H (genEnv scope (cloFrom X.env.cells scope.names []) C code builtinsNs X.env) fp pn) tg g)
    (ht : ∀ (A : Around) (s : Shared) (H : Hp) (C : Addr) (code : Value) (fp : List Addr) (pn : List (Addr × Obj)), Room k A → PTs (gcx X A s H (genEnv scope (cloFrom X.env.cells scope.names []) C code builtinsNs X.env) fp pn) ifs tt)
    (he : ∀ (A : Around) (s : Shared) (H : Hp) (C : Addr) (code : Value) (fp : List Addr) (pn : List (Addr × Obj)), Room k A → PE (gcx X A s H (genEnv scope (cloFrom X.env.cells scope.names []) C code builtinsNs X.env) fp pn) elt te)
    (hs : ∀ v, genFold iter X.env v = pure v := by intro _; rfl)
    (hst : starEach [.GeneratorExp elt [⟨tg, iter, ifs, 0⟩] scope gpos] X.env = (false, eval (.GeneratorExp elt [⟨tg, iter, ifs, 0⟩] scope gpos) X.env) :: starEach [] X.env := by rfl) :
    PE X (.Call (.Name "any" p) [.GeneratorExp elt [⟨tg, iter, ifs, 0⟩] scope gpos] [] pos) (tAnyG P wi g tt te (own.map (·.2))) := by
  refine ⟨fun pins s σ H Q I h => ?_⟩
  refine wpAny_Call_Name_kw (ld_blt I hgl hm hb ?_)
  refine PyProof.Rows.callWith_builtin1 ?_ hst (by rfl)
  rw [hst]
  show wpAny _ _ (spliced ((false, eval (.GeneratorExp elt [⟨tg, iter, ifs, 0⟩] scope gpos) X.env) :: backTo pos (starEach [] X.env))) _ _ s
  refine Calls.spliced_cons (gen_ready hr hN TB hcode ok hi hg ht he hs I h (fun Xi fp ys a gn go s5 hok hp hw hpn hgen hgo hsz hl5 hb5 hst hback => ?_))
  refine Calls.spliced_nil ?_
  refine call_function_tree F.kind_any F.plain_any F.entry_any (F.args_any1 _) ?_
  unfold Builtin.«any»
  refine wpAny_bind (m := oneArg "any" _) (wpAny_pure ?_)
  refine wpAny_bind (wpAny_pyIter_gen (hgen _ hgo) ?_)
  obtain ⟨FF, hG⟩ := hst [] s5 (fun _ _ e => e) rfl rfl (fun b hb => by cases hb)
  rw [← hp, ← hw]
  refine wpAny_pure ⟨plainId_quiet F.plain_any_loop _, any_loop (A := X.A) hr.hd hr.depth FF hpn hgen hok (fun po σ' H' s1 I1 q => ?_) (fun po σ' H' s1 I1 q => ?_) ys.length s5 hG⟩
  · exact ⟨.bl false, H', hback po σ' H' s1 I1, rfl, q⟩
  · exact ⟨.bl true, H', hback po σ' H' s1 I1, rfl, q⟩
theorem pe_sumG {c P : Addr} {elt tg iter : Expr} {ifs : List Expr} {gpos p pos : Pos} {scope : Scope} {own : List (Str × Nat)} {wi : TI} {g : TG} {tt : TT} {te : TE} {k : Nat}
    (hr : Room (k + 1) X.A) (hN : X.N.Nodup) (hgl : Gl X "sum") (hm : X.mg "sum" = none) (hb : bootBuiltins "sum" = some (.builtin "sum")) (TB : TabB X.base X.mg c P) (hcode : X.env.code = .ref c) (ok : GOk X.N X.env.scope scope own) (hi : PI X tg iter wi)
    (hg : ∀ (A : Around) (s : Shared) (H : Hp) (C : Addr) (code : Value) (fp : List Addr) (pn : List (Addr × Obj)), Room k A → PG (gcx X A s H (genEnv scope (cloFrom X.env.cells scope.names []) C code builtinsNs X.env) fp pn) tg g)
    (ht : ∀ (A : Around) (s : Shared) (H : Hp) (C : Addr) (code : Value) (fp : List Addr) (pn : List (Addr × Obj)), Room k A → PTs (gcx X A s H (genEnv scope (cloFrom X.env.cells scope.names []) C code builtinsNs X.env) fp pn) ifs tt)
    (he : ∀ (A : Around) (s : Shared) (H : Hp) (C : Addr) (code : Value) (fp : List Addr) (pn : List (Addr × Obj)), Room k A → PE (gcx X A s H (genEnv scope (cloFrom X.env.cells scope.names []) C code builtinsNs X.env) fp pn) elt te)
    (hs : ∀ v, genFold iter X.env v = pure v := by intro _; rfl)
    (hst : starEach [.GeneratorExp elt [⟨tg, iter, ifs, 0⟩] scope gpos] X.env = (false, eval (.GeneratorExp elt [⟨tg, iter, ifs, 0⟩] scope gpos) X.env) :: starEach [] X.env := by rfl) :
    PE X (.Call (.Name "sum" p) [.GeneratorExp elt [⟨tg, iter, ifs, 0⟩] scope gpos] [] pos) (tSumG P wi g tt te (own.map (·.2))) := by
  refine ⟨fun pins s σ H Q I h => ?_⟩
  refine wpAny_Call_Name_kw (ld_blt I hgl hm hb ?_)
  refine PyProof.Rows.callWith_builtin1 ?_ hst (by rfl)
  rw [hst]
  show wpAny _ _ (spliced ((false, eval (.GeneratorExp elt [⟨tg, iter, ifs, 0⟩] scope gpos) X.env) :: backTo pos (starEach [] X.env))) _ _ s
  refine Calls.spliced_cons (gen_ready hr hN TB hcode ok hi hg ht he hs I h (fun Xi fp ys a gn go s5 hok hp hw hpn hgen hgo hsz hl5 hb5 hst hback => ?_))
  refine Calls.spliced_nil ?_
  refine call_function_tree F.kind_sum F.plain_sum F.entry_sum (F.args_sum1 _) ?_
  unfold Builtin.«sum»
  simp only [List.length_cons, List.length_nil]
  rw [if_neg (by decide)]
  refine wpAny_bind (wpAny_of_eq (show Builtin.Builtins.bindParams "sum" ["start"] 0 { } = pure [none] from rfl) ?_)
  refine wpAny_bind (wpAny_pyIter_gen (hgen _ hgo) ?_)
  obtain ⟨zs, hys, hfit⟩ := hok
  refine wpAny_bind (wpAny_mkInt ?_)
  refine wpAny_bind (wpAny_pure ?_)
  simp only [List.forIn_cons, List.forIn_nil]
  refine wpAny_bind (wpAny_bind (wpAny_bind (wpAny_isInstance (T := "int") (b := false) (typeIs_int _ _ _) PySem.sub_int_str ?_)))
  simp only [Bool.false_eq_true, if_false]
  refine wpAny_pure (wpAny_bind (wpAny_bind (wpAny_isInstance (T := "int") (b := false) (typeIs_int _ _ _) PySem.sub_int_bytes ?_)))
  simp only [Bool.false_eq_true, if_false]
  refine wpAny_pure (wpAny_bind (wpAny_bind (wpAny_isInstance (T := "int") (b := false) (typeIs_int _ _ _) PySem.sub_int_bytearray ?_)))
  simp only [Bool.false_eq_true, if_false]
  refine wpAny_pure (wpAny_pure ?_)
  refine wpAny_bind (wpAny_newObj_type ?_)
  have hlen : ys.length = zs.length := by rw [hys, List.length_map]
  have hcl : cStatics < s5.heap.objs.size := let ⟨_, hn, _⟩ := hl5; hn.lt
  have ha : a < s5.heap.objs.size := by rw [hsz]; exact Nat.lt_succ_self a
  have hS := Heap.get?_push_size (h := s5.heap) (o := { cls := .type "list", dict := none, data := .seq #[.int 0 s5.toks] 0, slots := #[] }) rfl
  obtain ⟨FF, hG⟩ := hst [s5.heap.objs.size] { s5 with heap := s5.heap.push { cls := .type "list", dict := none, data := .seq #[.int 0 s5.toks] 0, slots := #[] }, toks := s5.toks + 1 } (fun b o e => Heap.get?_push_of_some _ e) rfl rfl
    (fun b hb => by rw [List.mem_singleton.mp hb]; exact ⟨Nat.le_refl _, _, hS, fun v z => by cases z⟩)
  rw [← hp, ← hw]
  refine wpAny_pure ⟨plainId_quiet F.plain_sum_loop _, ?_⟩
  refine sum_loop (A := X.A) (zs := zs) hr.hd hr.depth FF (Nat.ne_of_lt ha) (Nat.ne_of_lt hcl) hpn hgen hys hfit (fun po σ' H' s1 t I1 q => ?_) ys.length _ s5.toks 0 (Nat.le_of_eq hlen) ?_ hG
  · exact ⟨.int zs.sum, H', hback po σ' H' s1 I1, ⟨t, rfl⟩, q zs hys⟩
  · rw [hlen, Nat.sub_self, List.take_zero]
    exact hS
end
end GX
end

section
set_option Elab.async false
set_option linter.all false
set_option maxRecDepth 100000
set_option maxHeartbeats 4000000
namespace GX
open PySem PySem.Spec PyProof.Rows L2 GxR GenW
/-! ### generator expressions of two clauses -/
theorem compTurnG_out (elt t0 i0 t1 i1 : Expr) (ifs0 ifs1 : List Expr) (scope : Scope) (pos : Pos) (it acc : Value) (env : Env) :
    compTurn (.GeneratorExp elt [⟨t0, i0, ifs0, 0⟩, ⟨t1, i1, ifs1, 0⟩] scope pos) 0 it acc env = (do
      standAt i0.pos
      match ← pyNext it with
      | none => pure (.done .next)
      | some v =>
        letOwnedTupleGo t0 it v
        assign t0 env v
        let mut ok := true
        for c in ifs0 do
          if ok then ok ← isTrue c env (eval c env)
        if ok then
          let x ← eval i1 env
          standAt i1.pos
          let x ← foldedSetIterable i1 env x
          let _ ← runOwn (.compStart (.GeneratorExp elt [⟨t0, i0, ifs0, 0⟩, ⟨t1, i1, ifs1, 0⟩] scope pos) 1 (← holding [x] (pyIter x)) acc env) env
        again (.compLoop (.GeneratorExp elt [⟨t0, i0, ifs0, 0⟩, ⟨t1, i1, ifs1, 0⟩] scope pos) 0 it acc env)) := by rfl
theorem compTurnG_in (elt t0 i0 t1 i1 : Expr) (ifs0 ifs1 : List Expr) (scope : Scope) (pos : Pos) (it acc : Value) (env : Env) :
    compTurn (.GeneratorExp elt [⟨t0, i0, ifs0, 0⟩, ⟨t1, i1, ifs1, 0⟩] scope pos) 1 it acc env = (do
      standAt i1.pos
      match ← pyNext it with
      | none => pure (.done .next)
      | some v =>
        letOwnedTupleGo t1 it v
        assign t1 env v
        let mut ok := true
        for c in ifs1 do
          if ok then ok ← isTrue c env (eval c env)
        if ok then
          (do let v ← eval elt env; standAt elt.pos; let _ ← yieldOut env v)
        again (.compLoop (.GeneratorExp elt [⟨t0, i0, ifs0, 0⟩, ⟨t1, i1, ifs1, 0⟩] scope pos) 1 it acc env)) := by rfl
/-- what stands behind a loop of its own -/
def ownK (env : Env) (K : Flow → Sem PySem.Fin) (K' : PySem.Fin → Sem PySem.Fin) (H : Value → Sem PySem.Fin) (gd : Bool → Bool) (lv : List Value → List Value) : Result → Sem PySem.Fin := fun r =>
  (((match r with | .ok f => (.pure f : Sem Flow) | .error e => .raise e).onRaise fun (x : Value) => do
    if (← field x 1) == Value.none then unsupported "frame.own-activation:exception-without-traceback"
    setFlight x env.frame) >>= K).wrap K' H gd lv
theorem seg_own {M : Model} {A : Around} {R : GenEnd} {Y : Protocol} {n : Nat} {s₀ : Shared} {c c' : Code} {fs : List Frame} {s : Shared} {env : Env} {K : Flow → Sem PySem.Fin} {K' : PySem.Fin → Sem PySem.Fin} {H : Value → Sem PySem.Fin} {gd : Bool → Bool} {lv : List Value → List Value}
    (h : ∀ p, Seg M A R Y n s₀ c' (M.den c') (.ret (ownK env K K' H gd lv) none (gd false) (lv []) c p [] :: fs) s) :
    Seg M A R Y n s₀ c ((runOwn c' env >>= K).wrap K' H gd lv) fs s := by
  show Seg M A R Y n s₀ c (.call c' none (gd false) (lv []) (ownK env K K' H gd lv)) fs s
  exact seg_call h
theorem seg_startIn {prog : Program} {w : World} {A : Around} {R : GenEnd} {Y : Protocol} {n : Nat} {s₀ : Shared} {fs : List Frame} {s : Shared} {elt t0 i0 t1 i1 : Expr} {c0 c1 : List Expr} {sc : Scope} {gp : Pos} {it : Addr} {env : Env}
    (self : ∀ (A' : Around) (Q : Value → Shared → Prop) (E : Value → Shared → Prop), Q (.ref it) s → wpAny (model prog w) A' (pyIter (.ref it)) Q E s)
    (loop : Seg (model prog w) A R Y n s₀ (.compLoop (.GeneratorExp elt [⟨t0, i0, c0, 0⟩, ⟨t1, i1, c1, 0⟩] sc gp) 1 (.ref it) .none env) ((model prog w).den (.compLoop (.GeneratorExp elt [⟨t0, i0, c0, 0⟩, ⟨t1, i1, c1, 0⟩] sc gp) 1 (.ref it) .none env)) fs s) :
    Seg (model prog w) A R Y n s₀ (.compStart (.GeneratorExp elt [⟨t0, i0, c0, 0⟩, ⟨t1, i1, c1, 0⟩] sc gp) 1 (.ref it) .none env) ((model prog w).den (.compStart (.GeneratorExp elt [⟨t0, i0, c0, 0⟩, ⟨t1, i1, c1, 0⟩] sc gp) 1 (.ref it) .none env)) fs s := by
  show Seg _ A _ _ _ s₀ _ ((compStart (.GeneratorExp elt [⟨t0, i0, c0, 0⟩, ⟨t1, i1, c1, 0⟩] sc gp) 1 (.ref it) .none env).onRaise (fun x => do noteFrame x env; standAt theWindowsPlace)) fs s
  unfold compStart
  rw [Sem.onRaise_eq_wrap]
  show Seg _ A _ _ _ s₀ _ ((ask >>= _).wrap _ _ _ _) fs s
  refine seg_bind_wrap (wpAny_askSetting ?_)
  split
  · exact seg_again rfl loop
  · first
      | exact seg_bind_wrap (wpAny_rule (seg_bind_wrap (wpAny_standAt (seg_bind_wrap (self _ _ _ (seg_again rfl loop))))))
      | (refine seg_bind_wrap (wpAny_rule ?_); show Seg _ A _ _ _ s₀ _ ((standAt i1.pos >>= _).wrap _ _ _ _) fs s; exact seg_bind_wrap (wpAny_standAt (seg_bind_wrap (self _ _ _ (seg_again rfl loop)))))
/-- two clauses, by readings -/
def GTurn2 (J : It) (g : TG) (tt : TT) (wi1 : TI) (g1 : TG) (tt1 : TT) (te : TE) (σ0 : L2.St) (vs vs1 : List Nat) (ys : List V) (stop : V → Prop) (Qs Qe : Hp → Prop) (W : Nat → Nat → Nat → Hp → Prop) : Prop :=
  ∀ i j m H, W i j m H → (J.stop i H ∧ j = ys.length ∧ Qe H) ∨ (J.go i H ∧ ∃ Nx : Nat → Hp → Prop, (∀ j' H', Nx j' H' → ∃ m', m' < m ∧ W (i + 1) j' m' H') ∧
    ∀ x H', J.yld i H x H' → g x σ0 H' fun σ2 H2 => wipe σ2 vs = σ0 ∧ tt σ2 H2 fun b H3 =>
      if b = true then wi1 σ2 H3 fun J1 H4 => ∃ W1 : Nat → Nat → Nat → Hp → Prop, (∃ m1, W1 0 j m1 H4) ∧ ∀ k j1 m1 H, W1 k j1 m1 H →
        (J1.stop k H ∧ Nx j1 H ∧ j1 ≤ ys.length) ∨ (J1.go k H ∧ ∃ Nx1 : Nat → Hp → Prop, (∀ j' H', Nx1 j' H' → ∃ m', m' < m1 ∧ W1 (k + 1) j' m' H') ∧
          ∀ x H', J1.yld k H x H' → g1 x (wipe σ2 vs1) H' fun σ3 H5 => wipe σ3 vs1 = wipe σ2 vs1 ∧ tt1 σ3 H5 fun b H6 =>
            if b = true then te σ3 H6 fun y H7 => ys[j1]? = some y ∧ (stop y → Qs H7) ∧ (¬ stop y → Nx1 (j1 + 1) H7) else Nx1 j1 H6)
      else Nx j H3)
section
variable {X : Cx} {A : Around} {fp : List Addr}
theorem cov_nil {po : List (Addr × Obj)} (h : Cov [] po) : po = [] := List.map_eq_nil_iff.mp h
theorem seg_in {elt tg iter tg1 iter1 : Expr} {ifs ifs1 : List Expr} {scope : Scope} {gpos : Pos} {it1 : Addr} {fp1 : List Addr} {tnO : Heap → Prop} {tn1 : Nat → Heap → Prop} {J1 : It} {g1 : TG} {tt1 : TT} {te : TE} {σ2 : L2.St} {vs1 : List Nat} {ys : List V} {stop : V → Prop} {Qs Qe : Hp → Prop} {Nx : Nat → Hp → Prop} {W1 : Nat → Nat → Nat → Hp → Prop}
    {c : Code} {p : Pos} {kk : Result → Sem PySem.Fin} {gg : Bool} {ll : List Value}
    (hgg : gg = false) (hov : A.over (.compLoop (.GeneratorExp elt [⟨tg, iter, ifs, 0⟩, ⟨tg1, iter1, ifs1, 0⟩] scope gpos) 1 (.ref it1) .none X.env) [.ret kk none gg ll c p []] = X.A)
    (hex : X.ex = fp) (hc : X.calm = true) (hxe : X.xe = fun _ _ => False) (hco : X.env.scope.isCoroutine = false) (F : Far X fp []) (hpf : ∀ b ∈ fp, ∀ p ∈ X.pn, p.1 ≠ b)
    (hkeep : ∀ h h', tnO h → (∀ b ∈ fp, ∀ o, h.get? b = some o → h'.get? b = some o) → tnO h') (hobj : ∀ h, tnO h → ∀ b ∈ fp, ∃ o, h.get? b = some o ∧ ∀ v, o.data ≠ .cell v)
    (hfp1 : ∀ b ∈ fp1, b ≠ X.env.locals ∧ b ∉ X.fs ∧ (b ∈ X.ex ∨ X.s_0.heap.objs.size ≤ b) ∧ (∀ x c, X.env.cells.lookup x = some c → c ≠ b) ∧ (∀ p ∈ X.pn, p.1 ≠ b) ∧ b ∉ fp)
    (T1 : Turn X.prog X.w X.K tg1 J1 fp1 it1 tn1) (pg1 : PG X tg1 g1) (pt1 : PTs X ifs1 tt1) (pe : PE X elt te)
    (turn1 : ∀ k j1 m1 H, W1 k j1 m1 H →
        (J1.stop k H ∧ Nx j1 H ∧ j1 ≤ ys.length) ∨ (J1.go k H ∧ ∃ Nx1 : Nat → Hp → Prop, (∀ j' H', Nx1 j' H' → ∃ m', m' < m1 ∧ W1 (k + 1) j' m' H') ∧
          ∀ x H', J1.yld k H x H' → g1 x (wipe σ2 vs1) H' fun σ3 H5 => wipe σ3 vs1 = wipe σ2 vs1 ∧ tt1 σ3 H5 fun b H6 =>
            if b = true then te σ3 H6 fun y H7 => ys[j1]? = some y ∧ (stop y → Qs H7) ∧ (¬ stop y → Nx1 (j1 + 1) H7) else Nx1 j1 H6))
    (back : ∀ {s' : Shared} {H' : Hp} {j' : Nat} (s₀' : Shared), Inv X [] (wipe σ2 vs1) H' s' → tnO s'.heap → (∀ b ∈ fp, H' b = none) → Nx j' H' → j' ≤ ys.length →
      Seg (model X.prog X.w) A (GRe X [] Qe) (GYp X [] ys stop Qs) (ys.length - j') s₀' c (kk (.ok .next)) [] s') :
    ∀ (m1 k j1 : Nat) (H : Hp) (s₀ s : Shared), W1 k j1 m1 H → j1 ≤ ys.length → Inv X [] (wipe σ2 vs1) H s → tnO s.heap → (∀ b ∈ fp, H b = none) → tn1 k s.heap → (∀ b ∈ fp1, H b = none) →
      Seg (model X.prog X.w) A (GRe X [] Qe) (GYp X [] ys stop Qs) (ys.length - j1) s₀ (.compLoop (.GeneratorExp elt [⟨tg, iter, ifs, 0⟩, ⟨tg1, iter1, ifs1, 0⟩] scope gpos) 1 (.ref it1) .none X.env)
        ((model X.prog X.w).den (.compLoop (.GeneratorExp elt [⟨tg, iter, ifs, 0⟩, ⟨tg1, iter1, ifs1, 0⟩] scope gpos) 1 (.ref it1) .none X.env)) [.ret kk none gg ll c p []] s := by
  subst hgg
  intro m1
  induction m1 using Nat.strongRecOn with
  | ind m1 ih =>
    intro k j1 H s₀ s w hj I st nf st1 nf1
    have stat : ∀ {σ' : L2.St} {H' : Hp} {s' : Shared}, Inv X [] σ' H' s' → (∀ b ∈ fp, H' b = none) → ∀ b ∈ fp, FpOk X [] H' b := fun {σ' H' s'} I' hn b hb => by
      have hb' : b ∈ X.ex := by rw [hex]; exact hb
      refine ⟨hn b hb, (I'.ok.exf b hb').1, I'.ok.exfs b hb', .inl hb', fun x c e => (I'.ok.exf b hb').2 x c e, fun p hp => ?_⟩
      rw [List.append_nil] at hp
      exact hpf b hb p hp
    have Ip := I.pinned (stat I nf) (hobj _ st)
    have stat1 : ∀ {H' : Hp} {h : Heap}, (∀ b ∈ fp1, H' b = none) → ∀ b ∈ fp1, FpOk X ([] ++ pinsAt fp h) H' b := fun {H' h} hn b hb => by
      obtain ⟨q1, q2, q3, q4, q5, q6⟩ := hfp1 b hb
      refine ⟨hn b hb, q1, q2, q3, q4, fun p hp => ?_⟩
      rcases List.mem_append.mp hp with hp | hp
      · exact q5 p hp
      · rw [List.nil_append] at hp
        exact fun z => q6 (z ▸ (of_pinsAt hp).1)
    show Seg _ A _ _ _ s₀ _ ((compTurn (.GeneratorExp elt [⟨tg, iter, ifs, 0⟩, ⟨tg1, iter1, ifs1, 0⟩] scope gpos) 1 (.ref it1) .none X.env).onRaise (fun x => do noteFrame x X.env; theTreesLotGoes x)) _ s
    rw [compTurnG_in, Sem.onRaise_eq_wrap]
    refine seg_bind_wrap (wpAny_standAt ?_)
    -- from pins to none, the outer iterator as it stood
    have unp : ∀ {h0 : Heap} {pl : List (Addr × Obj)} {σ' : L2.St} {H' : Hp} {s' : Shared}, tnO h0 → Inv X (([] ++ pinsAt fp h0) ++ pl) σ' H' s' → tnO s'.heap ∧ (∀ b ∈ fp, H' b = none) := fun {h0 pl σ' H' s'} t0 I' => by
      have pin' : ∀ b ∈ fp, ∀ o, h0.get? b = some o → s'.heap.get? b = some o ∧ H' b = none := fun b hb o e =>
        let z := I'.pin (b, o) (List.mem_append_right _ (List.mem_append_left _ (List.mem_append_right _ (mem_pinsAt hb e))))
        ⟨z.1, z.2.1⟩
      refine ⟨hkeep _ _ t0 fun b hb o e => (pin' b hb o e).1, fun b hb => ?_⟩
      obtain ⟨o, e, _⟩ := hobj _ t0 b hb
      exact (pin' b hb o e).2
    rcases turn1 k j1 m1 H w with ⟨stp, nx, hj1⟩ | ⟨go, Nx1, hNx1, step⟩
    · have td := T1.done X rfl rfl rfl hc k _ s _ H (fun _ _ => False) Ip (stat1 nf1) st1 stp
      refine seg_bind_wrap ?_
      rw [hov]
      refine wpAny_mono td (fun r s1 h1 => ?_) fun _ _ z => z.elim
      obtain ⟨rfl, I1⟩ := h1
      obtain ⟨t1, n1⟩ := unp (pl := []) st (by rw [List.append_nil]; exact I1)
      exact seg_leaf (.ok .next) (back s₀ I1.unpinned t1 n1 nx hj1)
    · have ti := T1.item X rfl rfl rfl hc k _ s _ H (fun _ _ => False) Ip (stat1 nf1) st1 go
      refine seg_bind_wrap ?_
      rw [hov]
      refine wpAny_mono ti (fun r s1 h1 => ?_) fun _ _ z => z.elim
      obtain ⟨u, rfl, h1⟩ := h1
      show Seg _ _ _ _ _ _ _ (Sem.wrap _ _ _ _ (letOwnedTupleGo tg1 (.ref it1) u >>= _)) _ _
      refine seg_bind_wrap ?_
      rw [hov]
      refine wpAny_mono h1 (fun _ s2 h2 => ?_) fun _ _ z => z.elim
      obtain ⟨x, H2, I2, r2, y2, st2, n2⟩ := h2
      have I2' := I2.pinned (stat1 n2) (T1.obj _ _ st2)
      refine seg_bind_wrap ?_
      rw [hov]
      have pgr := pg1.run _ s2 _ H2 x u _ I2' r2 (step x H2 y2)
      rw [hxe] at pgr
      refine wpAny_mono pgr (fun _ s3 h3 => ?_) fun _ _ z => z.elim
      obtain ⟨σ3, H3, I3, hw3, q3⟩ := h3
      refine seg_bind_wrap ?_
      rw [hov]
      have ptr := pt1.run _ s3 σ3 H3 _ I3 q3
      rw [hxe] at ptr
      refine wpAny_mono ptr (fun b s4 h4 => ?_) fun _ _ z => z.elim
      obtain ⟨H4, I4, q4⟩ := h4
      -- back at the loop's head
      have back1 : ∀ {s' : Shared} {H' : Hp} {j' : Nat} (s₀' : Shared), Inv X [] σ3 H' s' → tnO s'.heap → (∀ b ∈ fp, H' b = none) → tn1 (k + 1) s'.heap → (∀ b ∈ fp1, H' b = none) → Nx1 j' H' → j' ≤ ys.length →
          Seg (model X.prog X.w) A (GRe X [] Qe) (GYp X [] ys stop Qs) (ys.length - j') s₀' (.compLoop (.GeneratorExp elt [⟨tg, iter, ifs, 0⟩, ⟨tg1, iter1, ifs1, 0⟩] scope gpos) 1 (.ref it1) .none X.env)
            (.pure (.again (.compLoop (.GeneratorExp elt [⟨tg, iter, ifs, 0⟩, ⟨tg1, iter1, ifs1, 0⟩] scope gpos) 1 (.ref it1) .none X.env))) [.ret kk none false ll c p []] s' := fun {s' H' j'} s₀' I' t' n' t1' n1' nx hj' => by
        obtain ⟨m', hm, w'⟩ := hNx1 j' H' nx
        refine seg_again rfl (ih m' hm (k + 1) j' H' s₀' s' w' hj' (I'.weak (by rw [← hw3, wipe_length]) fun k v e => ?_) t' n' t1' n1')
        rw [← hw3] at e
        exact (wipe_some e).1
      have fpin : ∀ {s' : Shared} {H' : Hp}, Inv X (([] ++ pinsAt fp s.heap) ++ pinsAt fp1 s2.heap) σ3 H' s' → Inv X [] σ3 H' s' ∧ tnO s'.heap ∧ (∀ b ∈ fp, H' b = none) ∧ tn1 (k + 1) s'.heap ∧ ∀ b ∈ fp1, H' b = none := fun {s' H'} I' => by
        have pin' : ∀ b ∈ fp1, ∀ o, s2.heap.get? b = some o → s'.heap.get? b = some o ∧ H' b = none := fun b hb o e =>
          let z := I'.pin (b, o) (List.mem_append_right _ (List.mem_append_right _ (mem_pinsAt hb e)))
          ⟨z.1, z.2.1⟩
        obtain ⟨t1, n1⟩ := unp st I'
        refine ⟨I'.unpinned.unpinned, t1, n1, T1.keep _ _ _ st2 fun b hb o e => (pin' b hb o e).1, fun b hb => ?_⟩
        obtain ⟨o, e, _⟩ := T1.obj _ _ st2 b hb
        exact (pin' b hb o e).2
      cases b with
      | false =>
        rw [if_neg Bool.false_ne_true] at q4
        obtain ⟨I5, t5, n5, st5, nn5⟩ := fpin I4
        simp only [Bool.false_eq_true, if_false]
        exact back1 s₀ I5 t5 n5 st5 nn5 q4 hj
      | true =>
        rw [if_pos rfl] at q4
        simp only [if_true]
        have hy : ∀ v, yieldOut X.env v = yieldValue v := fun v => by simp only [yieldOut, hco, Bool.false_eq_true, if_false]
        simp only [hy]
        rw [Sem.bind_eq_wrap', Sem.bind_eq_wrap', Sem.wrap_wrap, Sem.wrap_wrap]
        refine seg_wrap ?_
        rw [hov]
        have per := pe.run _ s4 σ3 H4 _ I4 q4
        rw [hxe] at per
        refine wpAny_mono per (fun v s5 h5 => ?_) fun _ _ z => z.elim
        obtain ⟨y, H5, I5, r5, hyj, hs5, hc5⟩ := h5
        obtain ⟨I6, t6, n6, st6, nn6⟩ := fpin I5
        have hlt : j1 < ys.length := (List.getElem?_eq_some_iff.mp hyj).1
        obtain ⟨n', hn'⟩ : ∃ n', ys.length - j1 = n' + 1 := ⟨ys.length - j1 - 1, by omega⟩
        rw [hn']
        refine seg_at (seg_yield rfl rfl rfl ⟨j1, y, σ3, H5, [], by omega, hyj, r5, rfl, I6, (fun b hb => by cases hb), hs5, fun hns s'' hR => ?_⟩)
        obtain ⟨po'', cv'', I7⟩ := woken F I6 rfl hR
        cases cov_nil cv''
        have e' : n' = ys.length - (j1 + 1) := by omega
        rw [e']
        have kp : ∀ b o, s5.heap.get? b = some o → s''.heap.get? b = some o := fun b o e => hR.keep b o (by simp) e
        exact back1 s'' I7 (hkeep _ _ t6 fun b _ o e => kp b o e) n6 (T1.keep _ _ _ st6 fun b _ o e => kp b o e) nn6 (hc5 hns) hlt
end
end GX
end

section
set_option Elab.async false
set_option linter.all false
set_option maxRecDepth 100000
set_option maxHeartbeats 4000000
namespace GX
open PySem PySem.Spec PyProof.Rows L2 GxR GenW
theorem genexp_eval2 (el t0 i0 t1 i1 : Expr) (c0 c1 : List Expr) (sc : Scope) (p : Pos) (env : Env) (hco : sc.isCoroutine = false) :
    eval (.GeneratorExp el [⟨t0, i0, c0, 0⟩, ⟨t1, i1, c1, 0⟩] sc p) env = (do
      let xv ← eval i0 env
      standAt i0.pos
      let xv ← genFold i0 env xv
      let itv ← holding [xv] (pyIter xv)
      enterFrame
      let clo ← closureFor sc env
      let cdv ← genexprCode env p (env.qual ++ "<genexpr>") sc
      let bns ← builtinsFor env.globals env.builtins
      let ce ← newFunctionEnv sc env.globals clo [(".0", itv)] (env.qual ++ "<genexpr>.") none cdv none bns
      newGenerator (.compStart (.GeneratorExp el [⟨t0, i0, c0, 0⟩, ⟨t1, i1, c1, 0⟩] sc p) 0 itv .none ce) "<genexpr>" (env.qual ++ "<genexpr>")) := by
  rw [arm_eval_GeneratorExp]
  simp only [hco, Bool.false_eq_true, if_false]
  cases i0 <;> rfl
section
variable {M : Model} {A : Around} {E : Value → Shared → Prop} {s : Shared}
theorem genexp_make2 {env : Env} {elt tg iter tg1 iter1 : Expr} {ifs ifs1 : List Expr} {scope : Scope} {cl : List (Str × Addr)} {pos : Pos} {Q : Value → Shared → Prop}
    (hco : scope.isCoroutine = false) (hcl : closureFor scope env = pure cl) (hce : ∀ y ∈ scope.names, y.2 ≠ .cell) (hd0 : scope.names.lookup (".0" : Str) = some NameKind.local) (hk : scope.kind = .function)
    (hrm : A.depth < recursionLimit)
    (h : wpAny M A (eval iter env) (fun xv t1 => wpAny M A (pyIter xv) (fun it t2 => t2.heap.NoLimit ∧
      wpAny M A (genexprCode env pos (env.qual ++ "<genexpr>") scope) (fun code t3 => wpAny M A (builtinsFor env.globals env.builtins) (fun bi t4 =>
        ∀ h', h'.Ns t4.heap.objs.size (fun y => if y = ".0" then some it else none) → Heap.SameBut t4.heap.objs.size (t4.heap.push { cls := .type "frame", data := .dict #[] }) h' →
          Q (.ref h'.objs.size) { t4 with
            gens := t4.gens.push (.fresh (.compStart (.GeneratorExp elt [⟨tg, iter, ifs, 0⟩, ⟨tg1, iter1, ifs1, 0⟩] scope pos) 0 it .none (genEnv scope cl t4.heap.objs.size code bi env))),
            toks := t4.toks + 1 + 1 + 1,
            heap := h'.push { cls := .type "generator", data := .fields #[.int t4.gens.size 0, .str "<genexpr>" (t4.toks + 1), .str (env.qual ++ "<genexpr>") (t4.toks + 1 + 1)] } }) E t3) E t2) E t1) E s)
    (hs : ∀ x, genFold iter env x = pure x) :
    wpAny M A (eval (.GeneratorExp elt [⟨tg, iter, ifs, 0⟩, ⟨tg1, iter1, ifs1, 0⟩] scope pos) env) Q E s := by
  rw [genexp_eval2 _ _ _ _ _ _ _ _ _ _ hco, hcl]
  refine wpAny_bind (wpAny_mono h (fun xv t1 k1 => wpAny_bind (wpAny_standAt (wpAny_bind (wpAny_of_eq (hs xv) (wpAny_bind (wpAny_holding (wpAny_mono k1 (fun it t2 k2 => ?_) fun _ _ e => e)))))))  fun _ _ e => e)
  refine wpAny_bind (wpAny_enterFrame k2.1 hrm (wpAny_bind (wpAny_pure (wpAny_bind (wpAny_mono k2.2 (fun cdv t3 k3 => wpAny_bind (wpAny_mono k3 (fun bns t4 k4 => ?_) fun _ _ e => e)) fun _ _ e => e)))))
  have hbs : ∀ z ∈ ([((".0" : Str), it)] : List (Str × Value)), scope.names.lookup z.1 = some NameKind.local := fun z hz => by
    rw [List.mem_singleton.mp hz]; exact hd0
  refine wpAny_bind (wpAny_newFunctionEnv hce hbs (fun h' hn hs' => ?_) hk)
  have el : (fun z : Str => ([((".0" : Str), it)] : List (Str × Value)).reverse.lookup z) = fun z : Str => if z = (".0" : Str) then some it else none := by
    funext z
    by_cases hz : z = ".0"
    · subst hz; simp
    · have hz' : (z == (".0" : Str)) = false := by simpa using hz
      simp [List.lookup, hz', hz]
  rw [el] at hn
  unfold newGenerator
  simp only [newFields]
  exact wpAny_bind (wpAny_newGen (wpAny_bind (wpAny_mkText (wpAny_bind (wpAny_mkText (wpAny_newObj_type (k4 h' hn hs') (by size_fits)))))))
end

section
variable {X : Cx} {A : Around} {fp : List Addr}
theorem wipe_keep {σ0 σ2 : L2.St} {vs vs1 : List Nat} (hw : wipe σ2 vs = σ0) (hv : ∀ i ∈ vs1, i ∈ vs) (j : Nat) (v : V) (e : σ0[j]? = some (some v)) : (wipe σ2 vs1)[j]? = some (some v) := by
  rw [← hw] at e
  obtain ⟨e1, e2⟩ := wipe_some e
  rw [wipe_out fun z => e2 (hv j z)]
  exact e1
theorem seg_gen2 {elt tg iter tg1 iter1 : Expr} {ifs ifs1 : List Expr} {scope : Scope} {gpos : Pos} {it : Addr} {tn : Nat → Heap → Prop} {J : It} {g g1 : TG} {tt tt1 : TT} {wi1 : TI} {te : TE} {σ0 : L2.St} {vs vs1 : List Nat} {ys : List V} {stop : V → Prop} {Qs Qe : Hp → Prop} {W : Nat → Nat → Nat → Hp → Prop}
    (hXA : X.A = A.deeper X.env) (hex : X.ex = fp) (hc : X.calm = true) (hxe : X.xe = fun _ _ => False) (hco : X.env.scope.isCoroutine = false) (F : Far X fp []) (hpf : ∀ b ∈ fp, ∀ p ∈ X.pn, p.1 ≠ b) (T : Turn X.prog X.w X.K tg J fp it tn) (pg : PG X tg g) (pt : PTs X ifs tt) (pi1 : PI X tg1 iter1 wi1) (pg1 : PG X tg1 g1) (pt1 : PTs X ifs1 tt1) (pe : PE X elt te)
    (hs1 : ∀ x, foldedSetIterable iter1 X.env x = pure x) (hv : ∀ i ∈ vs1, i ∈ vs) (hT : GTurn2 J g tt wi1 g1 tt1 te σ0 vs vs1 ys stop Qs Qe W) :
    ∀ (m i j : Nat) (H : Hp) (s₀ s : Shared), W i j m H → j ≤ ys.length → Inv X [] σ0 H s → tn i s.heap → (∀ b ∈ fp, H b = none) →
      Seg (model X.prog X.w) A (GRe X [] Qe) (GYp X [] ys stop Qs) (ys.length - j) s₀ (.compLoop (.GeneratorExp elt [⟨tg, iter, ifs, 0⟩, ⟨tg1, iter1, ifs1, 0⟩] scope gpos) 0 (.ref it) .none X.env)
        ((model X.prog X.w).den (.compLoop (.GeneratorExp elt [⟨tg, iter, ifs, 0⟩, ⟨tg1, iter1, ifs1, 0⟩] scope gpos) 0 (.ref it) .none X.env)) [] s := by
  intro m
  induction m using Nat.strongRecOn with
  | ind m ih =>
    intro i j H s₀ s w hj I st nf
    have hov : A.over (.compLoop (.GeneratorExp elt [⟨tg, iter, ifs, 0⟩, ⟨tg1, iter1, ifs1, 0⟩] scope gpos) 0 (.ref it) .none X.env) [] = X.A := by rw [hXA]; rfl
    have stat : ∀ {σ' : L2.St} {H' : Hp} {s' : Shared}, Inv X [] σ' H' s' → (∀ b ∈ fp, H' b = none) → ∀ b ∈ fp, FpOk X [] H' b := fun {σ' H' s'} I' hn b hb => by
      have hb' : b ∈ X.ex := by rw [hex]; exact hb
      refine ⟨hn b hb, (I'.ok.exf b hb').1, I'.ok.exfs b hb', .inl hb', fun x c e => (I'.ok.exf b hb').2 x c e, fun p hp => ?_⟩
      rw [List.append_nil] at hp
      exact hpf b hb p hp
    show Seg _ A _ _ _ s₀ _ ((compTurn (.GeneratorExp elt [⟨tg, iter, ifs, 0⟩, ⟨tg1, iter1, ifs1, 0⟩] scope gpos) 0 (.ref it) .none X.env).onRaise (leaving X.env)) [] s
    rw [compTurnG_out, Sem.onRaise_eq_wrap]
    refine seg_bind_wrap (wpAny_standAt ?_)
    rcases hT i j m H w with ⟨stp, hje, qe⟩ | ⟨go, Nx, hNx, step⟩
    · have td := T.done X rfl rfl rfl hc i [] s _ H (fun _ _ => False) I (stat I nf) st stp
      refine seg_bind_wrap ?_
      rw [hov]
      refine wpAny_mono td (fun r s1 h1 => ?_) fun _ _ z => z.elim
      obtain ⟨rfl, I1⟩ := h1
      exact seg_end (.ok .next) ⟨rfl, [], _, H, by omega, rfl, I1, (fun b hb => by cases hb), qe⟩
    · have ti := T.item X rfl rfl rfl hc i [] s _ H (fun _ _ => False) I (stat I nf) st go
      refine seg_bind_wrap ?_
      rw [hov]
      refine wpAny_mono ti (fun r s1 h1 => ?_) fun _ _ z => z.elim
      obtain ⟨u, rfl, h1⟩ := h1
      show Seg _ _ _ _ _ _ _ (Sem.wrap _ _ _ _ (letOwnedTupleGo tg (.ref it) u >>= _)) _ _
      refine seg_bind_wrap ?_
      rw [hov]
      refine wpAny_mono h1 (fun _ s2 h2 => ?_) fun _ _ z => z.elim
      obtain ⟨x, H2, I2, r2, y2, st2, n2⟩ := h2
      have I2' := I2.pinned (stat I2 n2) (T.obj _ _ st2)
      refine seg_bind_wrap ?_
      rw [hov]
      have pgr := pg.run _ s2 _ H2 x u _ I2' r2 (step x H2 y2)
      rw [hxe] at pgr
      refine wpAny_mono pgr (fun _ s3 h3 => ?_) fun _ _ z => z.elim
      obtain ⟨σ3, H3, I3, hw3, q3⟩ := h3
      refine seg_bind_wrap ?_
      rw [hov]
      have ptr := pt.run _ s3 σ3 H3 _ I3 q3
      rw [hxe] at ptr
      refine wpAny_mono ptr (fun b s4 h4 => ?_) fun _ _ z => z.elim
      obtain ⟨H4, I4, q4⟩ := h4
      -- back at the loop's head, from any slots that know what stood at its start
      have back : ∀ {σ9 : L2.St} {s' : Shared} {H' : Hp} {j' : Nat} (s₀' : Shared), Inv X [] σ9 H' s' → σ0.length = σ9.length → (∀ (k : Nat) v, σ0[k]? = some (some v) → σ9[k]? = some (some v)) → tn (i + 1) s'.heap → (∀ b ∈ fp, H' b = none) → Nx j' H' → j' ≤ ys.length →
          Seg (model X.prog X.w) A (GRe X [] Qe) (GYp X [] ys stop Qs) (ys.length - j') s₀' (.compLoop (.GeneratorExp elt [⟨tg, iter, ifs, 0⟩, ⟨tg1, iter1, ifs1, 0⟩] scope gpos) 0 (.ref it) .none X.env)
            (.pure (.again (.compLoop (.GeneratorExp elt [⟨tg, iter, ifs, 0⟩, ⟨tg1, iter1, ifs1, 0⟩] scope gpos) 0 (.ref it) .none X.env))) [] s' := fun {σ9 s' H' j'} s₀' I' hl hk st' n' nx hj' => by
        obtain ⟨m', hm, w'⟩ := hNx j' H' nx
        exact seg_again rfl (ih m' hm (i + 1) j' H' s₀' s' w' hj' (I'.weak hl hk) st' n')
      have hl3 : σ0.length = σ3.length := by rw [← hw3, wipe_length]
      have fpin : ∀ {σ9 : L2.St} {pl : List (Addr × Obj)} {s' : Shared} {H' : Hp}, Inv X (([] ++ pinsAt fp s2.heap) ++ pl) σ9 H' s' → tn (i + 1) s'.heap ∧ ∀ b ∈ fp, H' b = none := fun {σ9 pl s' H'} I' => by
        have pin' : ∀ b ∈ fp, ∀ o, s2.heap.get? b = some o → s'.heap.get? b = some o ∧ H' b = none := fun b hb o e =>
          let z := I'.pin (b, o) (List.mem_append_right _ (List.mem_append_left _ (List.mem_append_right _ (mem_pinsAt hb e))))
          ⟨z.1, z.2.1⟩
        refine ⟨T.keep _ _ _ st2 fun b hb o e => (pin' b hb o e).1, fun b hb => ?_⟩
        obtain ⟨o, e, _⟩ := T.obj _ _ st2 b hb
        exact (pin' b hb o e).2
      cases b with
      | false =>
        rw [if_neg Bool.false_ne_true] at q4
        obtain ⟨st5, n5⟩ := fpin (pl := []) (by rw [List.append_nil]; exact I4)
        simp only [Bool.false_eq_true, if_false]
        exact back s₀ I4.unpinned hl3 (fun k v e => by rw [← hw3] at e; exact (wipe_some e).1) st5 n5 q4 hj
      | true =>
        rw [if_pos rfl] at q4
        simp only [if_true]
        have pir := pi1.run _ s4 σ3 H4 _ I4 q4
        rw [hxe] at pir
        refine seg_bind_wrap ?_
        rw [hov]
        refine wpAny_mono pir (fun xv s5 h5 => ?_) fun _ _ z => z.elim
        refine seg_bind_wrap (wpAny_standAt (seg_bind_wrap (wpAny_of_eq (hs1 xv) (seg_bind_wrap ?_))))
        rw [hov]
        refine wpAny_holding (wpAny_mono h5 (fun itv s6 h6 => ?_) fun _ _ z => z.elim)
        obtain ⟨it1, fp1, tn1, J1, H6, rfl, I6, T1, st6, f6, W1, ⟨m1, w1⟩, turn1⟩ := h6
        obtain ⟨t6, n6⟩ := fpin (pl := []) (by rw [List.append_nil]; exact I6)
        have hfp1 : ∀ b ∈ fp1, b ≠ X.env.locals ∧ b ∉ X.fs ∧ (b ∈ X.ex ∨ X.s_0.heap.objs.size ≤ b) ∧ (∀ x c, X.env.cells.lookup x = some c → c ≠ b) ∧ (∀ p ∈ X.pn, p.1 ≠ b) ∧ b ∉ fp := fun b hb => by
          obtain ⟨_, q1, q2, q3, q4, q5⟩ := f6 b hb
          refine ⟨q1, q2, q3, q4, fun p hp => q5 p (List.mem_append_left _ hp), fun z => ?_⟩
          obtain ⟨o, e, _⟩ := T.obj _ _ st2 b z
          exact q5 (b, o) (List.mem_append_right _ (List.mem_append_right _ (mem_pinsAt z e))) rfl
        refine seg_own fun p => seg_startIn (fun A' Q E q => T1.self A' 0 s6 Q E st6 q) ?_
        exact seg_in (Qs := Qs) (Qe := Qe) (tnO := tn (i + 1)) (Nx := Nx) rfl (by rw [hXA]; rfl) hex hc hxe hco F hpf (fun h h' t k => T.keep (i + 1) h h' t k) (fun h t => T.obj (i + 1) h t) hfp1 T1 pg1 pt1 pe turn1
          (fun {s' H' j'} s₀' I' t' n' nx hj' => back s₀' I' (hl3.trans (wipe_length σ3 vs1).symm) (fun k v e => wipe_keep hw3 hv k v e) t' n' nx hj')
          m1 0 j H6 s₀ s6 w1 hj (I6.unpinned.weak (wipe_length _ _) fun k v e => (wipe_some e).1) t6 n6 st6 fun b hb => (f6 b hb).1
end

section
variable {X : Cx} {A : Around} {fp : List Addr}
theorem seg_genS2 {elt tg iter tg1 iter1 : Expr} {ifs ifs1 : List Expr} {scope : Scope} {gpos : Pos} {it : Addr} {tn : Nat → Heap → Prop} {J : It} {g g1 : TG} {tt tt1 : TT} {wi1 : TI} {te : TE} {σ0 : L2.St} {vs vs1 : List Nat} {ys : List V} {stop : V → Prop} {Qs Qe : Hp → Prop} {W : Nat → Nat → Nat → Hp → Prop}
    (hXA : X.A = A.deeper X.env) (hex : X.ex = fp) (hc : X.calm = true) (hxe : X.xe = fun _ _ => False) (hco : X.env.scope.isCoroutine = false) (F : Far X fp []) (hpf : ∀ b ∈ fp, ∀ p ∈ X.pn, p.1 ≠ b) (T : Turn X.prog X.w X.K tg J fp it tn) (pg : PG X tg g) (pt : PTs X ifs tt) (pi1 : PI X tg1 iter1 wi1) (pg1 : PG X tg1 g1) (pt1 : PTs X ifs1 tt1) (pe : PE X elt te)
    (hs1 : ∀ x, foldedSetIterable iter1 X.env x = pure x) (hv : ∀ i ∈ vs1, i ∈ vs) (hT : GTurn2 J g tt wi1 g1 tt1 te σ0 vs vs1 ys stop Qs Qe W) (m : Nat) (H : Hp) (s₀ s : Shared) (w : W 0 0 m H) (I : Inv X [] σ0 H s) (st : tn 0 s.heap) (nf : ∀ b ∈ fp, H b = none) :
      Seg (model X.prog X.w) A (GRe X [] Qe) (GYp X [] ys stop Qs) ys.length s₀ (.compStart (.GeneratorExp elt [⟨tg, iter, ifs, 0⟩, ⟨tg1, iter1, ifs1, 0⟩] scope gpos) 0 (.ref it) .none X.env)
        ((model X.prog X.w).den (.compStart (.GeneratorExp elt [⟨tg, iter, ifs, 0⟩, ⟨tg1, iter1, ifs1, 0⟩] scope gpos) 0 (.ref it) .none X.env)) [] s := by
  have loop := seg_gen2 (elt := elt) (iter := iter) (scope := scope) (gpos := gpos) hXA hex hc hxe hco F hpf T pg pt pi1 pg1 pt1 pe hs1 hv hT m 0 0 H s₀ s w (Nat.zero_le _) I st nf
  rw [Nat.sub_zero] at loop
  show Seg _ A _ _ _ s₀ _ ((compStart (.GeneratorExp elt [⟨tg, iter, ifs, 0⟩, ⟨tg1, iter1, ifs1, 0⟩] scope gpos) 0 (.ref it) .none X.env).onRaise (leaving X.env)) [] s
  unfold compStart
  rw [Sem.onRaise_eq_wrap]
  show Seg _ A _ _ _ s₀ _ ((ask >>= _).wrap _ _ _ _) [] s
  refine seg_bind_wrap (wpAny_askSetting ?_)
  split
  · exact seg_again rfl loop
  · first
      | exact seg_bind_wrap (wpAny_rule (seg_bind_wrap (wpAny_standAt (seg_bind_wrap (T.self _ 0 s _ _ st (seg_again rfl loop))))))
      | (refine seg_bind_wrap (wpAny_rule ?_); show Seg _ A _ _ _ s₀ _ ((standAt iter.pos >>= _).wrap _ _ _ _) [] s; exact seg_bind_wrap (wpAny_standAt (seg_bind_wrap (T.self _ 0 s _ _ st (seg_again rfl loop)))))
end

/-- a generator expression of two clauses: what it walks, then by an invariant -/
def tGen2 (P : Addr) (stop : V → Prop) (wi : TI) (g : TG) (tt : TT) (wi1 : TI) (g1 : TG) (tt1 : TT) (te : TE) (vs vs1 : List Nat) (ok : List V → Prop) (Qs : Hp → Prop) (Qe : List V → Hp → Prop) : L2.St → Hp → Prop := fun σ H =>
  wi σ H fun J H1 => TabG H1 P ∧ ∀ H2, Tabbed P H1 H2 → ∃ (ys : List V) (W : Nat → Nat → Nat → Hp → Prop), ok ys ∧ (∃ m, W 0 0 m H2) ∧ GTurn2 J g tt wi1 g1 tt1 te (wipe σ vs) vs vs1 ys stop Qs (Qe ys) W
def tAnyG2 (P : Addr) (wi : TI) (g : TG) (tt : TT) (wi1 : TI) (g1 : TG) (tt1 : TT) (te : TE) (vs vs1 : List Nat) : TE := fun σ H Q => tGen2 P (fun y => y = .bl true) wi g tt wi1 g1 tt1 te vs vs1 bools (fun H => Q (.bl true) H) (fun _ H => Q (.bl false) H) σ H
section
variable {X : Cx} {pins : List (Addr × Obj)} {σ : L2.St} {H : Hp} {s : Shared}
theorem gen_eval2 {c P : Addr} {elt tg iter tg1 iter1 : Expr} {ifs ifs1 : List Expr} {gpos : Pos} {scope : Scope} {own : List (Str × Nat)} {wi : TI} {Q' : Value → Shared → Prop} {R : It → Hp → Prop}
    (hh : X.A.handled = none) (hdep : X.A.depth < recursionLimit) (TB : TabB X.base X.mg c P) (hcode : X.env.code = .ref c) (ok : GOk X.N X.env.scope scope own) (hi : PI X tg iter wi)
    (hs : ∀ v, genFold iter X.env v = pure v) (I : Inv X pins σ H s) (h : wi σ H fun J H1 => TabG H1 P ∧ R J H1)
    (hQ : ∀ (J : It) (H1 H2 : Hp) (it : Addr) (fp : List Addr) (tn : Nat → Heap → Prop) (s4 s5 : Shared) (code : Value) (a : Addr) (g : Nat) (go : Obj), R J H1 → Tabbed P H1 H2 → Inv X pins σ H2 s4 → Turn X.prog X.w X.K tg J fp it tn → tn 0 s4.heap →
      (∀ b ∈ fp, FpOk X pins H2 b ∧ b < s4.heap.objs.size) → s5.os = s4.os → AllBare s5.gens → s5.heap.NoLimit → (∀ b o, s4.heap.get? b = some o → s5.heap.get? b = some o) → s5.heap.Ns s4.heap.objs.size (fun y => if y = ".0" then some (.ref it) else none) →
      s4.heap.objs.size < a → s5.heap.objs.size = a + 1 → s5.heap.get? a = some go → (∀ v, go.data ≠ .cell v) → (∀ h : Heap, h.get? a = some go → h.IsGen a g) → s5.gens[g]? = some (.fresh (.compStart (.GeneratorExp elt [⟨tg, iter, ifs, 0⟩, ⟨tg1, iter1, ifs1, 0⟩] scope gpos) 0 (.ref it) .none (genEnv scope (cloFrom X.env.cells scope.names []) s4.heap.objs.size code builtinsNs X.env))) → Q' (.ref a) s5) :
    wpAny (model X.prog X.w) X.A (eval (.GeneratorExp elt [⟨tg, iter, ifs, 0⟩, ⟨tg1, iter1, ifs1, 0⟩] scope gpos) X.env) Q' X.xe s := by
  have hfree : ∀ y ∈ scope.names, y.2 = .free → ∃ c, X.env.cells.lookup y.1 = some c := fun y hy e => by
    rcases ok.blk.free y hy e with k | k
    · exact I.ok.has _ (.inl k)
    · exact I.ok.has _ (.inr k)
  refine genexp_make2 ok.co (closure_ok hfree) ok.cell ok.dot ok.blk.kind hdep ?_ hs
  refine thn (hi.run pins s σ H _ I h) fun xv s1 hx => thn hx fun itv s2 h2 => ?_
  obtain ⟨it, fp, tn, J, H1, rfl, I2, T, st2, f2, ⟨ps, hP, ht⟩, hR⟩ := h2
  have lim2 := I2.nolimit
  have hPs : s2.heap.get? P = some { cls := .none, data := .fields ps } := I2.hok P _ hP
  have hPlt : P < s2.heap.objs.size := Heap.lt_size hPs
  have cd : PySem.W.CodeHd s2.heap c P := TB.code.keeps fun b u e => I2.bk b u e
  have nPfp : ∀ b ∈ fp, b ≠ P := fun b hb z => by
    have q := (f2 b hb).1
    rw [z, hP] at q; cases q
  have cont : ∀ (code : Value) (h3 : Heap) (tk : Nat) (more : Array Value), Heap.ExtBut P s2.heap h3 → s2.heap.objs.size ≤ h3.objs.size → h3.get? P = some { cls := .none, data := .fields (ps ++ more) } → TriplesOk (ps ++ more).toList →
      wpAny (model X.prog X.w) X.A (builtinsFor X.env.globals X.env.builtins) (fun bi s₄ =>
        ∀ h' : Heap, h'.Ns s₄.heap.objs.size (fun y => if y = ".0" then some (.ref it) else none) → Heap.SameBut s₄.heap.objs.size (s₄.heap.push { cls := .type "frame", data := .dict #[] }) h' →
          Q' (.ref h'.objs.size) { s₄ with
            gens := s₄.gens.push (.fresh (.compStart (.GeneratorExp elt [⟨tg, iter, ifs, 0⟩, ⟨tg1, iter1, ifs1, 0⟩] scope gpos) 0 (.ref it) .none (genEnv scope (cloFrom X.env.cells scope.names []) s₄.heap.objs.size code bi X.env))),
            toks := s₄.toks + 1 + 1 + 1,
            heap := h'.push { cls := .type "generator", data := .fields #[.int s₄.gens.size 0, .str "<genexpr>" (s₄.toks + 1), .str (X.env.qual ++ "<genexpr>") (s₄.toks + 1 + 1)] } }) X.xe { s2 with heap := h3, toks := tk } := by
    intro code h3 tk more hx hsz hP3 ht3
    obtain ⟨bm, ob, e1, e2, e3, e4, e5, e6, e7, e8⟩ := TB.bm
    have keep3 : ∀ b u, b ≠ P → s2.heap.get? b = some u → h3.get? b = some u := fun b u hb e => hx b u hb e
    refine wpAny_builtinsFor (m := X.mg) (by rw [I2.ok.glob]; exact (I2.mod.glob.keeps I2.bk).extBut hx TB.gP) e1 e2 (keep3 _ _ e4 (I2.bk _ _ e5)) e6 e7 e8 ?_
    have J4 : Inv X pins σ (upd H1 P (.tbl (ps ++ more))) { s2 with heap := h3, toks := tk } := inv_tab (d' := s2.drawn) I2 hP keep3 hP3 I2.bare
    intro h' hn' hs'
    have hsz' : h'.objs.size = h3.objs.size + 1 := by
      have q : h'.objs.size = (h3.push { cls := .type "frame", data := .dict #[] }).objs.size := hs'.1
      rw [q, Heap.size_push]
    have keep' : ∀ b o, h3.get? b = some o → h'.get? b = some o := fun b o e => hs'.extBut b o (Nat.ne_of_lt (Heap.lt_size e)) (Heap.get?_push_of_some _ e)
    refine hQ J H1 (upd H1 P (.tbl (ps ++ more))) it fp tn { s2 with heap := h3, toks := tk } _ code h'.objs.size s2.gens.size _ hR ⟨⟨ps ++ more, upd_same, ht3⟩, fun b hb => upd_ne hb⟩ J4 T ?_ (fun b hb => ⟨⟨?_, (f2 b hb).2⟩, ?_⟩) rfl (AllBare.push I2.bare rfl) ?_ (fun b o e => Heap.get?_push_of_some _ (keep' b o e)) ?_ ?_ ?_ (Heap.get?_push_size _ rfl) ?_ ?_ ?_
    · exact T.keep _ _ _ st2 fun b hb o e => keep3 b o (nPfp b hb) e
    · rw [upd_ne (nPfp b hb)]; exact (f2 b hb).1
    · obtain ⟨o, e, _⟩ := T.obj _ _ st2 b hb
      exact Nat.lt_of_lt_of_le (Heap.lt_size e) hsz
    · exact J4.nolimit.keeps fun b o e => Heap.get?_push_of_some _ (keep' b o e)
    · exact hn'.push _
    · show h3.objs.size < h'.objs.size
      omega
    · show (h'.push _).objs.size = _
      rw [Heap.size_push]
    · intro v z; cases z
    · exact fun h e => ⟨_, _, _, e, rfl, rfl, rfl⟩
    · exact Array.getElem?_push_size ..
  refine ⟨lim2, ?_⟩
  cases hf : codeAmong gpos ps.toList with
  | none =>
    refine wpAny_genexprCodeX hcode (cd.code hPs ht) (cd.tab hPs) hf fun c' h' tk hx hge hlt hco' _ htab' _ => ?_
    obtain ⟨o1, vs, f1, tf, fl, tg, inF, tx, tt, op, _, _, _, _, _, _, _, _, _, htr, _⟩ := hco'
    exact cont _ h' tk _ hx (Nat.le_trans hge (Nat.le_of_lt hlt)) htab'.2 htr
  | some cv =>
    refine wpAny_genexprCode_hit hcode (cd.code hPs ht) hf ?_
    have e : ps ++ #[] = ps := by simp
    exact cont cv s2.heap s2.toks #[] (Heap.ExtBut.refl _ _) (Nat.le_refl _) (by rw [e]; exact hPs) (by rw [e]; exact ht)
/-- the generator comes, ready for a consumer whose loop stands in X.A.in1 -/
theorem gen_ready2 {c P : Addr} {elt tg iter tg1 iter1 : Expr} {ifs ifs1 : List Expr} {gpos : Pos} {scope : Scope} {own : List (Str × Nat)} {wi wi1 : TI} {g g1 : TG} {tt tt1 : TT} {te : TE} {vs1 : List Nat} {stop : V → Prop} {okY : List V → Prop} {Qs : Hp → Prop} {Qe : List V → Hp → Prop} {k : Nat} {Q' : Value → Shared → Prop}
    (hr : Room (k + 1) X.A) (hN : X.N.Nodup) (TB : TabB X.base X.mg c P) (hcode : X.env.code = .ref c) (ok : GOk X.N X.env.scope scope own) (hi : PI X tg iter wi)
    (hg : ∀ (A : Around) (s : Shared) (H : Hp) (C : Addr) (code : Value) (fp : List Addr) (pn : List (Addr × Obj)), Room k A → PG (gcx X A s H (genEnv scope (cloFrom X.env.cells scope.names []) C code builtinsNs X.env) fp pn) tg g)
    (ht : ∀ (A : Around) (s : Shared) (H : Hp) (C : Addr) (code : Value) (fp : List Addr) (pn : List (Addr × Obj)), Room k A → PTs (gcx X A s H (genEnv scope (cloFrom X.env.cells scope.names []) C code builtinsNs X.env) fp pn) ifs tt)
    (hi1 : ∀ (A : Around) (s : Shared) (H : Hp) (C : Addr) (code : Value) (fp : List Addr) (pn : List (Addr × Obj)), Room k A → PI (gcx X A s H (genEnv scope (cloFrom X.env.cells scope.names []) C code builtinsNs X.env) fp pn) tg1 iter1 wi1)
    (hg1 : ∀ (A : Around) (s : Shared) (H : Hp) (C : Addr) (code : Value) (fp : List Addr) (pn : List (Addr × Obj)), Room k A → PG (gcx X A s H (genEnv scope (cloFrom X.env.cells scope.names []) C code builtinsNs X.env) fp pn) tg1 g1)
    (ht1 : ∀ (A : Around) (s : Shared) (H : Hp) (C : Addr) (code : Value) (fp : List Addr) (pn : List (Addr × Obj)), Room k A → PTs (gcx X A s H (genEnv scope (cloFrom X.env.cells scope.names []) C code builtinsNs X.env) fp pn) ifs1 tt1)
    (hs1 : ∀ env x, foldedSetIterable iter1 env x = pure x) (hv : ∀ i ∈ vs1, i ∈ own.map (·.2))
    (he : ∀ (A : Around) (s : Shared) (H : Hp) (C : Addr) (code : Value) (fp : List Addr) (pn : List (Addr × Obj)), Room k A → PE (gcx X A s H (genEnv scope (cloFrom X.env.cells scope.names []) C code builtinsNs X.env) fp pn) elt te)
    (hs : ∀ v, genFold iter X.env v = pure v) (I : Inv X pins σ H s) (h : tGen2 P stop wi g tt wi1 g1 tt1 te (own.map (·.2)) vs1 okY Qs Qe σ H)
    (hQ : ∀ (Xi : Cx) (fp : List Addr) (ys : List V) (a : Addr) (gn : Nat) (go : Obj) (s5 : Shared), okY ys → Xi.prog = X.prog → Xi.w = X.w → (a, go) ∈ Xi.pn → (∀ h : Heap, h.get? a = some go → h.IsGen a gn) → s5.heap.get? a = some go → s5.heap.objs.size = a + 1 → s5.heap.NoLimit → AllBare s5.gens →
      (∀ s6, (∀ b o, s5.heap.get? b = some o → s6.heap.get? b = some o) → s6.gens = s5.gens → s6.os = s5.os → Far Xi fp [] ∧ GSt Xi [] ys stop Qs (Qe ys) X.A.in1.in1 a gn ys.length s6) →
      (∀ po σ' H' s1, Inv Xi po σ' H' s1 → Inv X pins σ H' s1) → Q' (.ref a) s5) :
    wpAny (model X.prog X.w) X.A (eval (.GeneratorExp elt [⟨tg, iter, ifs, 0⟩, ⟨tg1, iter1, ifs1, 0⟩] scope gpos) X.env) Q' X.xe s := by
  have hh : X.A.handled = none := hr.hd
  refine gen_eval2 (tg1 := tg1) (iter1 := iter1) (ifs1 := ifs1) hh hr.depth TB hcode ok hi hs I h fun J H1 H2 it fp tn s4 s5 code a gn go hR htb I4 T st4 f4 hos hb5 hl5 kp hF ha hsz hgo hgd hgen hgs => ?_
  obtain ⟨ys, W, hok, ⟨m, w0⟩, hT⟩ := hR H2 htb
  have I5 := gen_start (A := X.A.in1.in1) (own := own) (code := code) hh I4.ok.frames I4 ok hN f4 hos hb5 kp hF ha hgo hgd
  generalize hce : genEnv scope (cloFrom X.env.cells scope.names []) s4.heap.objs.size code builtinsNs X.env = ce at I5 hgs
  have hra : Room k (X.A.in1.in1.deeper ce) := Room.gen hr ce
  have pg : PG (gcx X (X.A.in1.in1.deeper ce) s4 H2 ce fp [(a, go)]) tg g := by rw [← hce] at hra ⊢; exact hg _ s4 H2 _ code fp _ hra
  have pt : PTs (gcx X (X.A.in1.in1.deeper ce) s4 H2 ce fp [(a, go)]) ifs tt := by rw [← hce] at hra ⊢; exact ht _ s4 H2 _ code fp _ hra
  have pi1 : PI (gcx X (X.A.in1.in1.deeper ce) s4 H2 ce fp [(a, go)]) tg1 iter1 wi1 := by rw [← hce] at hra ⊢; exact hi1 _ s4 H2 _ code fp _ hra
  have pg1 : PG (gcx X (X.A.in1.in1.deeper ce) s4 H2 ce fp [(a, go)]) tg1 g1 := by rw [← hce] at hra ⊢; exact hg1 _ s4 H2 _ code fp _ hra
  have pt1 : PTs (gcx X (X.A.in1.in1.deeper ce) s4 H2 ce fp [(a, go)]) ifs1 tt1 := by rw [← hce] at hra ⊢; exact ht1 _ s4 H2 _ code fp _ hra
  have pe : PE (gcx X (X.A.in1.in1.deeper ce) s4 H2 ce fp [(a, go)]) elt te := by rw [← hce] at hra ⊢; exact he _ s4 H2 _ code fp _ hra
  have cL : ce.locals = s4.heap.objs.size := by rw [← hce]; rfl
  have cS : ce.scope = scope := by rw [← hce]; rfl
  refine hQ (gcx X (X.A.in1.in1.deeper ce) s4 H2 ce fp [(a, go)]) fp ys a gn go s5 hok rfl rfl (List.mem_singleton.mpr rfl) hgen hgo hsz hl5 hb5 (fun s6 k6 g6 o6 => ?_) fun po σ' H' s1 I1 => ?_
  · have FF : Far (gcx X (X.A.in1.in1.deeper ce) s4 H2 ce fp [(a, go)]) fp [] := ⟨fun b hb => absurd hb (by simp), fun b hb => absurd hb (by simp), fun b hb => absurd hb (by simp), fun b hb => absurd hb (by simp), fun b hb => absurd hb (by simp), fun b hb => absurd hb (by simp)⟩
    refine ⟨FF, hgen _ (k6 a go hgo), hl5.keeps k6, .fresh (.compStart (.GeneratorExp elt [⟨tg, iter, ifs, 0⟩, ⟨tg1, iter1, ifs1, 0⟩] scope gpos) 0 (.ref it) .none ce), by rw [g6]; exact hgs, ⟨rfl, ?_⟩⟩
    -- the inner invariant at s6, the generator marked as running
    have I6 : Inv (gcx X (X.A.in1.in1.deeper ce) s4 H2 ce fp [(a, go)]) [] (wipe σ (own.map (·.2))) H2 (s6.setGen gn .running) :=
      I5.call' (ch := []) o6 (Un.kept k6) (I5.hok.kept k6) (allBare_setGen (s := s6) (by rw [g6]; exact hb5) rfl) fun b z => by simp at z
    have hT' : GTurn2 J g tt wi1 g1 tt1 te (wipe σ (own.map (·.2))) (own.map (·.2)) vs1 ys stop Qs (Qe ys) W := hT
    exact seg_genS2 (X := gcx X (X.A.in1.in1.deeper ce) s4 H2 ce fp [(a, go)]) (A := X.A.in1.in1) rfl rfl rfl rfl (by show ce.scope.isCoroutine = false; rw [cS]; exact ok.co) FF
      (fun b hb p hp => by
        have hp : p ∈ [(a, go)] := hp
        rw [List.mem_singleton.mp hp]
        exact Nat.ne_of_gt (Nat.lt_trans (f4 b hb).2 ha)) T pg pt pi1 pg1 pt1 pe (hs1 ce) hv hT' m H2 _ _ w0 I6 (T.keep _ _ _ st4 fun b hb o e => k6 b o (kp b o e)) fun b hb => (f4 b hb).1.1
  · exact I4.call' (ch := fp) I1.os I1.base I1.hok I1.bare fun b hb => ⟨(f4 b hb).1.2.2.2.1, (f4 b hb).1.2.1, (f4 b hb).1.2.2.2.2.1, (f4 b hb).1.2.2.2.2.2⟩
theorem pe_anyG2 {c P : Addr} {elt tg iter tg1 iter1 : Expr} {ifs ifs1 : List Expr} {gpos p pos : Pos} {scope : Scope} {own : List (Str × Nat)} {wi wi1 : TI} {g g1 : TG} {tt tt1 : TT} {te : TE} {vs1 : List Nat} {k : Nat}
    (hr : Room (k + 1) X.A) (hN : X.N.Nodup) (hgl : Gl X "any") (hm : X.mg "any" = none) (hb : bootBuiltins "any" = some (.builtin "any")) (TB : TabB X.base X.mg c P) (hcode : X.env.code = .ref c) (ok : GOk X.N X.env.scope scope own) (hi : PI X tg iter wi)
    (hg : ∀ (A : Around) (s : Shared) (H : Hp) (C : Addr) (code : Value) (fp : List Addr) (pn : List (Addr × Obj)), Room k A → PG (gcx X A s H (genEnv scope (cloFrom X.env.cells scope.names []) C code builtinsNs X.env) fp pn) tg g)
    (ht : ∀ (A : Around) (s : Shared) (H : Hp) (C : Addr) (code : Value) (fp : List Addr) (pn : List (Addr × Obj)), Room k A → PTs (gcx X A s H (genEnv scope (cloFrom X.env.cells scope.names []) C code builtinsNs X.env) fp pn) ifs tt)
    (hi1 : ∀ (A : Around) (s : Shared) (H : Hp) (C : Addr) (code : Value) (fp : List Addr) (pn : List (Addr × Obj)), Room k A → PI (gcx X A s H (genEnv scope (cloFrom X.env.cells scope.names []) C code builtinsNs X.env) fp pn) tg1 iter1 wi1)
    (hg1 : ∀ (A : Around) (s : Shared) (H : Hp) (C : Addr) (code : Value) (fp : List Addr) (pn : List (Addr × Obj)), Room k A → PG (gcx X A s H (genEnv scope (cloFrom X.env.cells scope.names []) C code builtinsNs X.env) fp pn) tg1 g1)
    (ht1 : ∀ (A : Around) (s : Shared) (H : Hp) (C : Addr) (code : Value) (fp : List Addr) (pn : List (Addr × Obj)), Room k A → PTs (gcx X A s H (genEnv scope (cloFrom X.env.cells scope.names []) C code builtinsNs X.env) fp pn) ifs1 tt1)
    (hs1 : ∀ env x, foldedSetIterable iter1 env x = pure x) (hv : ∀ i ∈ vs1, i ∈ own.map (·.2))
    (he : ∀ (A : Around) (s : Shared) (H : Hp) (C : Addr) (code : Value) (fp : List Addr) (pn : List (Addr × Obj)), Room k A → PE (gcx X A s H (genEnv scope (cloFrom X.env.cells scope.names []) C code builtinsNs X.env) fp pn) elt te)
    (hs : ∀ v, genFold iter X.env v = pure v := by intro _; rfl)
    (hst : starEach [.GeneratorExp elt [⟨tg, iter, ifs, 0⟩, ⟨tg1, iter1, ifs1, 0⟩] scope gpos] X.env = (false, eval (.GeneratorExp elt [⟨tg, iter, ifs, 0⟩, ⟨tg1, iter1, ifs1, 0⟩] scope gpos) X.env) :: starEach [] X.env := by rfl) :
    PE X (.Call (.Name "any" p) [.GeneratorExp elt [⟨tg, iter, ifs, 0⟩, ⟨tg1, iter1, ifs1, 0⟩] scope gpos] [] pos) (tAnyG2 P wi g tt wi1 g1 tt1 te (own.map (·.2)) vs1) := by
  refine ⟨fun pins s σ H Q I h => ?_⟩
  refine wpAny_Call_Name_kw (ld_blt I hgl hm hb ?_)
  refine PyProof.Rows.callWith_builtin1 ?_ hst (by rfl)
  rw [hst]
  show wpAny _ _ (spliced ((false, eval (.GeneratorExp elt [⟨tg, iter, ifs, 0⟩, ⟨tg1, iter1, ifs1, 0⟩] scope gpos) X.env) :: backTo pos (starEach [] X.env))) _ _ s
  refine Calls.spliced_cons (gen_ready2 hr hN TB hcode ok hi hg ht hi1 hg1 ht1 hs1 hv he hs I h (fun Xi fp ys a gn go s5 hok hp hw hpn hgen hgo hsz hl5 hb5 hst hback => ?_))
  refine Calls.spliced_nil ?_
  refine call_function_tree F.kind_any F.plain_any F.entry_any (F.args_any1 _) ?_
  unfold Builtin.«any»
  refine wpAny_bind (m := oneArg "any" _) (wpAny_pure ?_)
  refine wpAny_bind (wpAny_pyIter_gen (hgen _ hgo) ?_)
  obtain ⟨FF, hG⟩ := hst s5 (fun _ _ e => e) rfl rfl
  rw [← hp, ← hw]
  refine wpAny_pure ⟨plainId_quiet F.plain_any_loop _, any_loop (A := X.A) hr.hd hr.depth FF hpn hgen hok (fun po σ' H' s1 I1 q => ?_) (fun po σ' H' s1 I1 q => ?_) ys.length s5 hG⟩
  · exact ⟨.bl false, H', hback po σ' H' s1 I1, rfl, q⟩
  · exact ⟨.bl true, H', hback po σ' H' s1 I1, rfl, q⟩
end
end GX
end

section
set_option Elab.async false
set_option linter.all false
set_option maxRecDepth 100000
set_option maxHeartbeats 4000000
/-! any over ints, by their truth -/
namespace GX
open PySem PySem.Spec PyProof.Rows L2 GxR GenW
def istop (y : V) : Prop := ∃ z : Int, y = .int z ∧ z ≠ 0
abbrev intsV (ys : List V) : Prop := ∀ y ∈ ys, ∃ c : Int, y = V.int c
def tAnyI (P : Addr) (wi : TI) (g : TG) (tt : TT) (te : TE) (vs : List Nat) : TE := fun σ H Q => tGen P istop wi g tt te vs intsV (fun H => Q (.bl true) H) (fun _ H => Q (.bl false) H) σ H
section
variable {X : Cx} {fp L : List Addr} {ys : List V} {stop : V → Prop} {Qs Qe : Hp → Prop} {A : Around} {a : Addr} {g : Nat} {go : Obj}
theorem any_loopI {R : Result → Shared → Prop} (hh : A.handled = none) (hroom : A.depth < recursionLimit) (FF : Far X fp []) (hpn : (a, go) ∈ X.pn) (hgen : ∀ h : Heap, h.get? a = some go → h.IsGen a g) (hys : ∀ y ∈ ys, ∃ c : Int, y = V.int c)
    (hend : ∀ po σ H s1, Inv X po σ H s1 → Qe H → R (.ok (.ret (.bool false))) s1) (hstop : ∀ po σ H s1, Inv X po σ H s1 → Qs H → R (.ok (.ret (.bool true))) s1) :
    ∀ (n : Nat) (s : Shared), GSt X [] ys (istop) Qs Qe A.in1.in1 a g n s → codeAny (model X.prog X.w) A (.builtin "any.loop" ⟨[.ref a], []⟩) R s := by
  intro n
  induction n with
  | zero =>
    intro s h
    refine codeAny_builtin F.entry_any_loop ?_
    rw [Around.under_plainId F.plain_any_loop _]
    show wpAny _ A.in1 (pyNext (.ref a) >>= _) _ _ s
    refine wpAny_bind (next_g (A := A.in1) hh hroom FF (by simp) (by simp) hpn hgen h (fun j y v po σ H s1 rv hy hnj cv I h0 hs hn => ?_) fun po σ H s1 hn0 cv I h0 qe => ?_)
    · obtain ⟨c, rfl⟩ := hys y (List.mem_of_getElem? hy)
      obtain ⟨t, rfl⟩ := rv
      refine wpAny_bind (wpAny_holding (PySem.P.truthy_int ?_))
      refine wpAny_bind (wpAny_letGo ?_)
      by_cases hc : c = 0
      · obtain ⟨n', e, hG⟩ := hn fun ⟨z, e1, e2⟩ => by cases e1; exact e2 hc
        cases e
      · rw [show (c != 0) = true by simpa using hc]
        simp only [Bool.false_eq_true, if_false, if_true]
        have hs := fun _ : True => hs ⟨c, rfl, hc⟩
        exact wpAny_bind (wpAny_rule (wpAny_pure (hstop po σ H s1 I (hs trivial))))
    · exact wpAny_bind (wpAny_rule (wpAny_pure (hend po σ H s1 I qe)))
  | succ n ih =>
    intro s h
    refine codeAny_builtin F.entry_any_loop ?_
    rw [Around.under_plainId F.plain_any_loop _]
    show wpAny _ A.in1 (pyNext (.ref a) >>= _) _ _ s
    refine wpAny_bind (next_g (A := A.in1) hh hroom FF (by simp) (by simp) hpn hgen h (fun j y v po σ H s1 rv hy hnj cv I h0 hs hn => ?_) fun po σ H s1 hn0 cv I h0 qe => ?_)
    · obtain ⟨c, rfl⟩ := hys y (List.mem_of_getElem? hy)
      obtain ⟨t, rfl⟩ := rv
      refine wpAny_bind (wpAny_holding (PySem.P.truthy_int ?_))
      refine wpAny_bind (wpAny_letGo ?_)
      by_cases hc : c = 0
      · obtain ⟨n', e, hG⟩ := hn fun ⟨z, e1, e2⟩ => by cases e1; exact e2 hc
        cases e
        rw [show (c != 0) = false by simpa using hc]
        simp only [Bool.false_eq_true, if_false, if_true]
        exact wpAny_pure ⟨plainId_quiet F.plain_any_loop _, ih s1 (hG s1 ⟨rfl, I.bare, fun b o _ e => e, cv.own I⟩ rfl)⟩
      · rw [show (c != 0) = true by simpa using hc]
        simp only [Bool.false_eq_true, if_false, if_true]
        have hs := fun _ : True => hs ⟨c, rfl, hc⟩
        exact wpAny_bind (wpAny_rule (wpAny_pure (hstop po σ H s1 I (hs trivial))))
    · exact wpAny_bind (wpAny_rule (wpAny_pure (hend po σ H s1 I qe)))

end
section
variable {X : Cx} {pins : List (Addr × Obj)} {σ : L2.St} {H : Hp} {s : Shared}
theorem pe_anyI {c P : Addr} {elt tg iter : Expr} {ifs : List Expr} {gpos p pos : Pos} {scope : Scope} {own : List (Str × Nat)} {wi : TI} {g : TG} {tt : TT} {te : TE} {k : Nat}
    (hr : Room (k + 1) X.A) (hN : X.N.Nodup) (hgl : Gl X "any") (hm : X.mg "any" = none) (hb : bootBuiltins "any" = some (.builtin "any")) (TB : TabB X.base X.mg c P) (hcode : X.env.code = .ref c) (ok : GOk X.N X.env.scope scope own) (hi : PI X tg iter wi)
    (hg : ∀ (A : Around) (s : Shared) (H : Hp) (C : Addr) (code : Value) (fp : List Addr) (pn : List (Addr × Obj)), Room k A → PG (gcx X A s H (genEnv scope (cloFrom X.env.cells scope.names []) C code builtinsNs X.env) fp pn) tg g)
    (ht : ∀ (A : Around) (s : Shared) (H : Hp) (C : Addr) (code : Value) (fp : List Addr) (pn : List (Addr × Obj)), Room k A → PTs (gcx X A s H (genEnv scope (cloFrom X.env.cells scope.names []) C code builtinsNs X.env) fp pn) ifs tt)
    (he : ∀ (A : Around) (s : Shared) (H : Hp) (C : Addr) (code : Value) (fp : List Addr) (pn : List (Addr × Obj)), Room k A → PE (gcx X A s H (genEnv scope (cloFrom X.env.cells scope.names []) C code builtinsNs X.env) fp pn) elt te)
    (hs : ∀ v, genFold iter X.env v = pure v := by intro _; rfl)
    (hst : starEach [.GeneratorExp elt [⟨tg, iter, ifs, 0⟩] scope gpos] X.env = (false, eval (.GeneratorExp elt [⟨tg, iter, ifs, 0⟩] scope gpos) X.env) :: starEach [] X.env := by rfl) :
    PE X (.Call (.Name "any" p) [.GeneratorExp elt [⟨tg, iter, ifs, 0⟩] scope gpos] [] pos) (tAnyI P wi g tt te (own.map (·.2))) := by
  refine ⟨fun pins s σ H Q I h => ?_⟩
  refine wpAny_Call_Name_kw (ld_blt I hgl hm hb ?_)
  refine PyProof.Rows.callWith_builtin1 ?_ hst (by rfl)
  rw [hst]
  show wpAny _ _ (spliced ((false, eval (.GeneratorExp elt [⟨tg, iter, ifs, 0⟩] scope gpos) X.env) :: backTo pos (starEach [] X.env))) _ _ s
  refine Calls.spliced_cons (gen_ready hr hN TB hcode ok hi hg ht he hs I h (fun Xi fp ys a gn go s5 hok hp hw hpn hgen hgo hsz hl5 hb5 hst hback => ?_))
  refine Calls.spliced_nil ?_
  refine call_function_tree F.kind_any F.plain_any F.entry_any (F.args_any1 _) ?_
  unfold Builtin.«any»
  refine wpAny_bind (m := oneArg "any" _) (wpAny_pure ?_)
  refine wpAny_bind (wpAny_pyIter_gen (hgen _ hgo) ?_)
  obtain ⟨FF, hG⟩ := hst [] s5 (fun _ _ e => e) rfl rfl (fun b hb => by cases hb)
  rw [← hp, ← hw]
  refine wpAny_pure ⟨plainId_quiet F.plain_any_loop _, any_loopI (A := X.A) hr.hd hr.depth FF hpn hgen hok (fun po σ' H' s1 I1 q => ?_) (fun po σ' H' s1 I1 q => ?_) ys.length s5 hG⟩
  · exact ⟨.bl false, H', hback po σ' H' s1 I1, rfl, q⟩
  · exact ⟨.bl true, H', hback po σ' H' s1 I1, rfl, q⟩
end
/-! any of a list or a tuple of ints -/
section
open PySem.W Li
theorem ints_get : ∀ {its : List Value} {ns : List Int}, PyProof.Rows.IntsAre its ns → ∀ {i : Nat} {v : Value}, its[i]? = some v → ∃ n t, ns[i]? = some n ∧ v = .int n t
  | _, _, .nil, i, v, h => by cases h
  | _, _, .cons n t h, 0, v, e => by cases e; exact ⟨n, t, rfl, rfl⟩
  | _, _, .cons n t h, i + 1, v, e => ints_get h (i := i) e
theorem ints_lenV : ∀ {its : List Value} {ns : List Int}, PyProof.Rows.IntsAre its ns → its.length = ns.length
  | _, _, .nil => rfl
  | _, _, .cons n t h => congrArg (· + 1) (ints_lenV h)
theorem truth_ints {prog : Program} {w : World} {A : Around} {ns : List Int} {its : List Value} (h : PyProof.Rows.IntsAre its ns) :
    TruthOf prog w A (fun i v => its.toArray[i]? = some v) (fun i => ns.getD i 0 != 0) := fun i v s Q E hv hq => by
  have hv' : its[i]? = some v := by simpa using hv
  obtain ⟨n, t, hn, rfl⟩ := ints_get h hv'
  have hg : ns.getD i 0 = n := by rw [List.getD_eq_getElem?_getD, hn] <;> rfl
  have hq' : Q (ns.getD i 0 != 0) s := hq
  rw [hg] at hq'
  exact PySem.P.truthy_int hq'
theorem any_rangeI : ∀ ns : List Int, (List.range ns.length).any (fun i => ns.getD i 0 != 0) = ns.any fun n => n != 0
  | [] => rfl
  | b :: bs => by
    rw [List.length_cons, List.range_succ_eq_map, List.any_cons, List.any_map, List.any_cons, ← any_rangeI bs]
    all_goals rfl
variable {X : Cx}
def rAnyI (K : PySem.W.Frag) : List V → Hp → VK → Prop := fun vs H Q => ∃ (a : Addr) (ns : List Int), vs = [V.ref a] ∧ SqA K H a (ns.map V.int) ∧ Q (.bl (ns.any fun n => n != 0)) H
theorem cr_anyI (hc : X.calm = true) : CallR X (.builtin "any") (rAnyI X.K) := by
  intro pins s σ H vs us Q I r h
  obtain ⟨a, ns, rfl, hs, q⟩ := h
  rw [Vals.ref1 r]
  rcases hs with hs | hs
  · obtain ⟨its, rv, hl, _⟩ := I.list hs
    refine call_any_walk (iter_any hl.isList fun s₂ e2 st hne => ?_)
    subst e2
    refine ⟨_, _, _, _, _, _, _, rfl, Walks.list (A := X.A.in1) (I.ok.hd hc) _ a hne its.toArray, st, truth_ints rv.ints, fun h' tk hk => ?_⟩
    refine ⟨.bl _, H, I.kept fun b o eo => hk b o (fun hmem => ?_) (Heap.get?_push_of_some _ eo), ?_, q⟩
    · rcases List.mem_cons.mp hmem with e1 | hmem
      · exact absurd (e1 ▸ Heap.lt_size eo) (Nat.lt_irrefl _)
      · cases hmem
    · show Value.bool _ = Value.bool _
      rw [← any_rangeI, ← ints_lenV rv.ints, List.size_toArray]
  · obtain ⟨its, rv, hl, _⟩ := I.tuple hs
    obtain ⟨xs, e⟩ := rv.ints.allInts.items
    have hi := rv.ints
    have hsz : its.length = ns.length := ints_lenV hi
    rw [e] at hl
    refine call_any_walk (iter_intTup hl fun s₂ e2 st hfp hne => ?_)
    subst e2
    have ht := truth_ints (prog := X.prog) (w := X.w) (A := X.A.in1) hi
    rw [e] at ht
    refine ⟨_, _, _, _, _, _, _, rfl, Walks.tuple (A := X.A.in1) (I.ok.hd hc) _ a hne (intItems xs), st, ht, fun h' tk hk => ?_⟩
    refine ⟨.bl _, H, I.kept fun b o eo => hk b o (fun hmem => ?_) (Heap.get?_push_of_some _ eo), ?_, q⟩
    · rcases List.mem_cons.mp hmem with e1 | hmem
      · exact absurd (e1 ▸ Heap.lt_size eo) (Nat.lt_irrefl _)
      · cases hmem
    · show Value.bool _ = Value.bool _
      rw [← any_rangeI, ← hsz, ← e, List.size_toArray]
end
end GX
end

section
set_option Elab.async false
set_option linter.all false
set_option maxRecDepth 100000
set_option maxHeartbeats 4000000
namespace Li
open PySem L2
open Classical in
section
/-- an item of a small dict whose keys are texts -/
inductive Fl where
  | bl (b : Bool) | str (x : Str) deriving DecidableEq
/-- data; ref: a list or a dict of the store, by its number; dct: a small dict that stays; dfz: a dict of tuples, each with True, that stays -/
inductive D where
  | dct (kvs : List (Str × Fl))
  | non | bl (b : Bool) | int (i : Int) | str (x : Str)
  | tup (xs : List D) | lst (xs : List D) | frz (xs : List D) | ref (a : Nat) | dfz (ks : List (List Key))
inductive Ob where
  | lst (xs : List D) | dct (kvs : List (Key × D)) | dtt (kvs : List (List Key × D)) | dead
abbrev Store := List Ob
abbrev GE := List (Option D)
structure Ex where
  nm : Str
  val : Option D
inductive Res (α : Type) where
  | ok (a : α) (S : Store) | exc (e : Ex) (S : Store) | stuck
def Res.bind {α β : Type} (r : Res α) (k : α → Store → Res β) : Res β :=
  match r with
  | .ok a S => k a S
  | .exc e S => .exc e S
  | .stuck => .stuck
@[simp] theorem Res.bind_ok {α β : Type} (a : α) (S : Store) (k : α → Store → Res β) : (Res.ok a S).bind k = k a S := rfl
@[simp] theorem Res.bind_stuck {α β : Type} (k : α → Store → Res β) : (Res.stuck : Res α).bind k = .stuck := rfl
@[simp] theorem Res.bind_exc {α β : Type} (e : Ex) (S : Store) (k : α → Store → Res β) : (Res.exc e S : Res α).bind k = .exc e S := rfl
inductive SR where
  | nx (g : GE) (S : Store) | rt (d : D) (S : Store) | bk (g : GE) (S : Store) | ct (g : GE) (S : Store) | exc (e : Ex) (S : Store) | stuck
def SR.of {α : Type} (r : Res α) (k : α → Store → SR) : SR :=
  match r with
  | .ok a S => k a S
  | .exc e S => .exc e S
  | .stuck => .stuck
@[simp] theorem SR.of_ok {α : Type} (a : α) (S : Store) (k : α → Store → SR) : SR.of (Res.ok a S) k = k a S := rfl
@[simp] theorem SR.of_exc {α : Type} (e : Ex) (S : Store) (k : α → Store → SR) : SR.of (Res.exc e S) k = .exc e S := rfl
@[simp] theorem SR.of_stuck {α : Type} (k : α → Store → SR) : SR.of (Res.stuck : Res α) k = .stuck := rfl
/-- behind a statement -/
def SR.thn (r : SR) (k : GE → Store → SR) : SR :=
  match r with
  | .nx g S => k g S
  | r => r
@[simp] theorem SR.thn_nx (g : GE) (S : Store) (k : GE → Store → SR) : (SR.nx g S).thn k = k g S := rfl
@[simp] theorem SR.thn_rt (d : D) (S : Store) (k : GE → Store → SR) : (SR.rt d S).thn k = .rt d S := rfl
@[simp] theorem SR.thn_bk (g : GE) (S : Store) (k : GE → Store → SR) : (SR.bk g S).thn k = .bk g S := rfl
@[simp] theorem SR.thn_ct (g : GE) (S : Store) (k : GE → Store → SR) : (SR.ct g S).thn k = .ct g S := rfl
@[simp] theorem SR.thn_exc (e : Ex) (S : Store) (k : GE → Store → SR) : (SR.exc e S).thn k = .exc e S := rfl
@[simp] theorem SR.thn_stuck (k : GE → Store → SR) : SR.stuck.thn k = .stuck := rfl

/-! ### values -/
def ilst (ns : List Int) : D := .lst (ns.map D.int)
def itup (ns : List Int) : D := .tup (ns.map D.int)
/-- the items of a list -/
def asL (S : Store) : D → Option (List D)
  | .lst xs => some xs
  | .frz xs => some xs
  | .ref a => match S[a]? with
    | some (.lst xs) => some xs
    | _ => none
  | _ => none
/-- .. of a list that is no script -/
def asM (S : Store) : D → Option (List D)
  | .lst xs => some xs
  | .ref a => match S[a]? with
    | some (.lst xs) => some xs
    | _ => none
  | _ => none
def asT : D → Option (List D)
  | .tup xs => some xs
  | _ => none
def asSeq (S : Store) (d : D) : Option (List D) := match asT d with
  | some xs => some xs
  | none => asL S d
def intsD : List D → Option (List Int)
  | [] => some []
  | .int i :: r => (intsD r).map (i :: ·)
  | _ :: _ => none
theorem intsD_map (ns : List Int) : intsD (ns.map D.int) = some ns := by
  induction ns with
  | nil => rfl
  | cons n ns ih => simp [intsD, ih]
theorem intsD_some : ∀ {ds : List D} {ns : List Int}, intsD ds = some ns → ds = ns.map D.int
  | [], ns, h => by cases h; rfl
  | .int i :: r, ns, h => by
    simp only [intsD, Option.map_eq_some_iff] at h
    obtain ⟨m, hm, rfl⟩ := h
    rw [intsD_some hm]; rfl
  | .non :: _, _, h => by cases h
  | .bl _ :: _, _, h => by cases h
  | .str _ :: _, _, h => by cases h
  | .tup _ :: _, _, h => by cases h
  | .lst _ :: _, _, h => by cases h
  | .frz _ :: _, _, h => by cases h
  | .dct _ :: _, _, h => by cases h
  | .dfz _ :: _, _, h => by cases h
  | .ref _ :: _, _, h => by cases h
/-- as data for == -/
def pyOf : Nat → Store → D → Option PyData
  | 0, _, _ => none
  | n + 1, S, d => match d with
    | .non => some .none
    | .bl b => some (.bool b)
    | .int i => some (.int i)
    | .str x => if PyData.strOk x = true then some (.str x) else none
    | .dct _ => none
    | .dfz _ => none
    | .tup xs => (xs.mapM (pyOf n S)).map .tuple
    | .lst xs => (xs.mapM (pyOf n S)).map .list
    | .frz xs => (xs.mapM (pyOf n S)).map .list
    | .ref a => match S[a]? with
      | some (.lst xs) => (xs.mapM (pyOf n S)).map .list
      | _ => none
def eqD (S : Store) (a b : D) : Option Bool := match pyOf 12 S a, pyOf 12 S b with
  | some x, some y => some (PyData.eqv x y)
  | _, _ => none
/-- truth -/
def truD (S : Store) (d : D) : Option Bool := match d with
  | .non => some false
  | .bl b => some b
  | .int i => some (i != 0)
  | .str x => if x.length ≤ sizeLine then some ((x.length : Int) != 0) else none
  | d => match asSeq S d with
    | some xs => some (!xs.isEmpty)
    | none => none
/-- every reference lies below n -/
inductive Bd (n : Nat) : D → Prop
  | non : Bd n .non
  | bl (b) : Bd n (.bl b)
  | int (i) : Bd n (.int i)
  | str (x) : Bd n (.str x)
  | tup {xs} (h : ∀ x ∈ xs, Bd n x) : Bd n (.tup xs)
  | lst {xs} (h : ∀ x ∈ xs, Bd n x) : Bd n (.lst xs)
  | frz {xs} (h : ∀ x ∈ xs, Bd n x) : Bd n (.frz xs)
  | ref {a} (h : a < n) : Bd n (.ref a)
  | dct (kvs) : Bd n (.dct kvs)
  | dfz (ks) : Bd n (.dfz ks)
def BdO (n : Nat) : Ob → Prop
  | .lst xs => ∀ x ∈ xs, Bd n x
  | .dct kvs => ∀ p ∈ kvs, Bd n p.2
  | .dtt kvs => ∀ p ∈ kvs, Bd n p.2
  | .dead => True
/-- frozen: the objects from n on become data -/
def fz : Nat → Nat → Store → D → Option D
  | 0, _, _, _ => none
  | k + 1, n, S, d => match d with
    | .tup xs => (xs.mapM (fz k n S)).map .tup
    | .lst xs => (xs.mapM (fz k n S)).map .lst
    | .frz xs => (xs.mapM (fz k n S)).map .frz
    | .ref a => if n ≤ a then (match S[a]? with
      | some (.lst xs) => (xs.mapM (fz k n S)).map .lst
      | _ => none) else none
    | d => some d
/-- what stood before is as it was, or holds nothing new -/
def okPre (S S' : Store) : Prop := S.length ≤ S'.length ∧ ∀ a, a < S.length → S'[a]? = S[a]? ∨ ∃ o, S'[a]? = some o ∧ BdO S.length o
open Classical in
/-- a call's end: the answer frozen, the new objects dropped -/
noncomputable def frzR (S : Store) (r : Res D) : Res D := r.bind fun d S' => match fz 12 S.length S' d with
  | some d' => if okPre S S' then .ok d' (S'.take S.length) else .stuck
  | none => .stuck

/-! ### operators -/
inductive BOp where | add | sub | mul | fdiv | mod | pow deriving DecidableEq
inductive COp where | lt | le | gt | ge | eq | ne | is_ | isnot | in_ | notin deriving DecidableEq
def alloc (o : Ob) (S : Store) : Res D := .ok (.ref S.length) (S ++ [o])
open Classical in
noncomputable def bopR : BOp → D → D → Store → Res D
  | .add, .int i, .int j, S => .ok (.int (i + j)) S
  | .add, .tup xs, .tup ys, S => if xs.length + ys.length ≤ sizeLine then .ok (.tup (xs ++ ys)) S else .stuck
  | .add, .str x, .str y, S => if x.length + y.length ≤ sizeLine then .ok (.str (x ++ y)) S else .stuck
  | .add, x, y, S => match asM S x, asM S y with
    | some xs, some ys => if xs.length + ys.length ≤ sizeLine then alloc (.lst (xs ++ ys)) S else .stuck
    | _, _ => .stuck
  | .sub, .int i, .int j, S => .ok (.int (i - j)) S
  | .mul, .int i, .int j, S => if CMul i j then .ok (.int (i * j)) S else .stuck
  | .mul, .tup xs, .int k, S => if -(2 ^ 62) ≤ k ∧ k ≤ 1000 ∧ xs.length ≤ 1000 then .ok (.tup (List.replicate k.toNat xs).flatten) S else .stuck
  | .mul, x, .int k, S => match asM S x with
    | some xs => if -(2 ^ 63) ≤ k ∧ k < 2 ^ 63 ∧ xs.length * k.toNat ≤ sizeLine then alloc (.lst (List.replicate k.toNat xs).flatten) S else .stuck
    | none => .stuck
  | .fdiv, .int i, .int j, S => if CDiv i j then .ok (.int (i / j)) S else .stuck
  | .mod, .int i, .int j, S => if 0 < j then .ok (.int (i % j)) S else .stuck
  | .pow, .int i, .int j, S => if CPow i j then .ok (.int (i ^ j.toNat)) S else .stuck
  | _, _, _, _ => .stuck
def flatD : D → Option V
  | .non => some .non
  | .bl b => some (.bl b)
  | .int i => some (.int i)
  | .str x => some (.str x)
  | _ => none
def flats : List D → Option (List V)
  | [] => some []
  | d :: r => match flatD d, flats r with
    | some v, some vs => some (v :: vs)
    | _, _ => none
def inD (S : Store) (x y : D) : Option Bool := match flatD x, asSeq S y with
  | some v, some ys => (flats ys).map fun vs => inV v vs
  | _, _ => none
def isNonD : D → Bool
  | .non => true
  | _ => false
def copR : COp → D → D → Store → Res D
  | .ne, .dct x, .dct y, S => if x = y ∧ (x.map (·.1)).Nodup then .ok (.bl false) S else .stuck
  | .lt, .int i, .int j, S => .ok (.bl (decide (i < j))) S
  | .le, .int i, .int j, S => .ok (.bl (decide (i ≤ j))) S
  | .gt, .int i, .int j, S => .ok (.bl (decide (j < i))) S
  | .ge, .int i, .int j, S => .ok (.bl (decide (j ≤ i))) S
  | .eq, x, y, S => match eqD S x y with
    | some b => .ok (.bl b) S
    | none => .stuck
  | .ne, x, y, S => match eqD S x y with
    | some b => .ok (.bl (!b)) S
    | none => .stuck
  | .is_, x, .non, S => .ok (.bl (isNonD x)) S
  | .is_, .bl a, .bl b, S => .ok (.bl (decide (a = b))) S
  | .isnot, x, .non, S => .ok (.bl (!isNonD x)) S
  | .isnot, .bl a, .bl b, S => .ok (.bl (!decide (a = b))) S
  | .in_, x, y, S => match inD S x y with
    | some b => .ok (.bl b) S
    | none => .stuck
  | .notin, x, y, S => match inD S x y with
    | some b => .ok (.bl (!b)) S
    | none => .stuck
  | _, _, _, _ => .stuck
def idxR (x i : D) (S : Store) : Res D := match i with
  | .int i => match asSeq S x with
    | some xs => match atI xs i with
      | some d => .ok d S
      | none => .stuck
    | none => .stuck
  | _ => .stuck
def cutD (xs : List D) (lo hi : Option Int) : List D := (xs.drop (HT.sIx xs.length 0 lo)).take (HT.sIx xs.length xs.length hi - HT.sIx xs.length 0 lo)
def slR (x : D) (lo hi : Option Int) (S : Store) : Res D := match x with
  | .tup xs => .ok (.tup (cutD xs lo hi)) S
  | x => match asL S x with
    | some xs => alloc (.lst (cutD xs lo hi)) S
    | none => .stuck
def revR (x : D) (S : Store) : Res D := match x with
  | .tup xs => .ok (.tup xs.reverse) S
  | x => match asL S x with
    | some xs => alloc (.lst xs.reverse) S
    | none => .stuck

/-! ### dicts of the store, keys are texts -/
def getKD {κ : Type} [DecidableEq κ] : List (κ × D) → κ → Option D
  | [], _ => none
  | p :: r, k => if p.1 = k then some p.2 else getKD r k
def putKD {κ : Type} [DecidableEq κ] (kvs : List (κ × D)) (k : κ) (d : D) : List (κ × D) :=
  if (kvs.any fun kv => decide (kv.1 = k)) = true then kvs.map (fun kv => if kv.1 = k then (kv.1, d) else kv) else kvs ++ [(k, d)]
def getK (x : D) (k : Str) (S : Store) : Option D := match x with
  | .ref a => match S[a]? with
    | some (.dct kvs) => getKD kvs (.inr k)
    | _ => none
  | _ => none
def putK' (x : D) (k : Str) (d : D) (S : Store) : Option Store := match x with
  | .ref a => match S[a]? with
    | some (.dct kvs) => if kvs.length < sizeLine then some (S.set a (.dct (putKD kvs (.inr k) d))) else none
    | _ => none
  | _ => none
/-! ### dicts whose keys are tuples of ints and texts -/
def keyD : D → Option Key
  | .int i => some (.inl i)
  | .str x => some (.inr x)
  | _ => none
def keysD : List D → Option (List Key)
  | [] => some []
  | d :: r => match keyD d, keysD r with
    | some k, some ks => some (k :: ks)
    | _, _ => none
def tkey : D → Option (List Key)
  | .tup xs => keysD xs
  | _ => none
def dKey : Key → D
  | .inl i => .int i
  | .inr x => .str x
def dTup (k : List Key) : D := .tup (k.map dKey)
def tabT (x : D) (S : Store) : Option (List (List Key × D)) := match x with
  | .ref a => match S[a]? with
    | some (.dtt kvs) => some kvs
    | _ => none
  | _ => none
def getT (x y : D) (S : Store) : Option D := match tabT x S, tkey y with
  | some kvs, some k => getKD kvs k
  | _, _ => none
def putT (x y d : D) (S : Store) : Option Store := match x with
  | .ref a => match S[a]?, tkey y with
    | some (.dtt kvs), some k => if kvs.length < sizeLine then some (S.set a (.dtt (putKD kvs k d))) else none
    | _, _ => none
  | _ => none
def mkK (ks : List Str) (ds : List D) : List (Key × D) := (ks.zip ds).map fun p => (.inr p.1, p.2)

/-! ### built-ins, methods -/
inductive Bi where | len | max2 | min2 | max1 | min1 | int1 | list1 | tuple1 | sum1 | sorted1 | abs1 | any1 deriving DecidableEq
def maxL (ns : List Int) : Int := ns.foldl max (ns.headD 0)
def minL (ns : List Int) : Int := ns.foldl min (ns.headD 0)
def biR : Bi → List D → Store → Res D
  | .len, [x], S => match x with
    | .str z => if z.length ≤ sizeLine then .ok (.int z.length) S else .stuck
    | x => match asSeq S x with
      | some xs => .ok (.int xs.length) S
      | none => .stuck
  | .max2, [.int i, .int j], S => .ok (.int (max i j)) S
  | .min2, [.int i, .int j], S => .ok (.int (min i j)) S
  | .max1, [x], S => match asSeq S x with
    | some xs => match intsD xs with
      | some ns => if 0 < ns.length then .ok (.int (maxL ns)) S else .stuck
      | none => .stuck
    | none => .stuck
  | .min1, [x], S => match asSeq S x with
    | some xs => match intsD xs with
      | some ns => if 0 < ns.length then .ok (.int (minL ns)) S else .stuck
      | none => .stuck
    | none => .stuck
  | .int1, [.int i], S => .ok (.int i) S
  | .int1, [.bl b], S => .ok (.int (if b then 1 else 0)) S
  | .abs1, [.int i], S => .ok (.int (if i < 0 then -i else i)) S
  | .list1, [x], S => match asSeq S x with
    | some xs => alloc (.lst xs) S
    | none => .stuck
  | .tuple1, [.tup xs], S => .ok (.tup xs) S
  | .tuple1, [x], S => match asL S x with
    | some xs => .ok (.tup xs) S
    | none => .stuck
  | .sum1, [x], S => match asSeq S x with
    | some xs => match intsD xs with
      | some ns => .ok (.int ns.sum) S
      | none => .stuck
    | none => .stuck
  | .any1, [x], S => match asSeq S x with
    | some xs => match intsD xs with
      | some ns => .ok (.bl (ns.any fun n => n != 0)) S
      | none => .stuck
    | none => .stuck
  | .sorted1, [x], S => match asL S x with
    | some xs => match intsD xs with
      | some ns => alloc (.lst ((ns.mergeSort fun a b => decide (a ≤ b)).map D.int)) S
      | none => .stuck
    | none => .stuck
  | _, _, _ => .stuck
inductive Mt where | append | pop | insert deriving DecidableEq
def mtR : Mt → D → List D → Store → Res D
  | .append, .ref a, [d], S => match S[a]? with
    | some (.lst xs) => if xs.length < sizeLine then .ok .non (S.set a (.lst (xs ++ [d]))) else .stuck
    | _ => .stuck
  | .pop, .ref a, [], S => match S[a]? with
    | some (.lst xs) => match xs[xs.length - 1]? with
      | some d => .ok d (S.set a (.lst xs.dropLast))
      | none => .stuck
    | _ => .stuck
  | .insert, .ref a, [.int i, d], S => match S[a]? with
    | some (.lst xs) => if xs.length < sizeLine ∧ 0 ≤ i ∧ i < 2 ^ 62 then .ok .non (S.set a (.lst (xs.take i.toNat ++ [d] ++ xs.drop i.toNat))) else .stuck
    | _ => .stuck
  | _, _, _, _ => .stuck
inductive Kd where | bool | list | tuple | dict deriving DecidableEq
def isR (k : Kd) (d : D) (S : Store) : Res D := match k, d with
  | .bool, .bl _ => .ok (.bl true) S
  | .list, .lst _ => .ok (.bl true) S
  | .tuple, .tup _ => .ok (.bl true) S
  | .dict, .dct _ => .ok (.bl true) S
  | .dict, .ref a => match S[a]? with
    | some (.lst _) => .ok (.bl false) S
    | _ => .stuck
  | .list, .ref a => match S[a]? with
    | some (.lst _) => .ok (.bl true) S
    | _ => .stuck
  | .bool, .ref a => match S[a]? with
    | some (.lst _) => .ok (.bl false) S
    | _ => .stuck
  | .tuple, .ref a => match S[a]? with
    | some (.lst _) => .ok (.bl false) S
    | _ => .stuck
  | _, .frz _ => .stuck
  | _, .dfz _ => .stuck
  | _, _ => .ok (.bl false) S
end
end Li
end

section
set_option Elab.async false
set_option linter.all false
set_option maxRecDepth 100000
set_option maxHeartbeats 4000000
namespace Li
open PySem L2 GxR

/-! ### data by the heap: Z what is frozen, ρ where the store's objects lie -/
def Fl.v : Fl → V
  | .bl b => .bl b
  | .str x => .str x
def entF (q : Str × Fl) : Key × V := (.inr q.1, q.2.v)
mutual
inductive RelD (Z : Hp) (ρ : List Addr) : D → V → Prop
  | non : RelD Z ρ .non .non
  | bl (b) : RelD Z ρ (.bl b) (.bl b)
  | int (i) : RelD Z ρ (.int i) (.int i)
  | str (x) : RelD Z ρ (.str x) (.str x)
  | tup {xs p vs} : Z p = some (.tup vs) → RelDs Z ρ xs vs → RelD Z ρ (.tup xs) (.ref p)
  | lst {xs p vs} : Z p = some (.lst vs) → RelDs Z ρ xs vs → RelD Z ρ (.lst xs) (.ref p)
  | frz {xs p vs o} : Z p = some (.frz o (.lst vs)) → RelDs Z ρ xs vs → RelD Z ρ (.frz xs) (.ref p)
  | ref {a p} : ρ[a]? = some p → RelD Z ρ (.ref a) (.ref p)
  | dct {kvs p} : Z p = some (.dK (kvs.map entF)) → RelD Z ρ (.dct kvs) (.ref p)
  | dfz {ks p o} : Z p = some (.frz o (.dT (ks.map fun k => (k, V.bl true)))) → RelD Z ρ (.dfz ks) (.ref p)
inductive RelDs (Z : Hp) (ρ : List Addr) : List D → List V → Prop
  | nil : RelDs Z ρ [] []
  | cons {d ds v vs} : RelD Z ρ d v → RelDs Z ρ ds vs → RelDs Z ρ (d :: ds) (v :: vs)
end
def Le (Z Z' : Hp) : Prop := ∀ p o, Z p = some o → Z' p = some o
theorem Le.refl (Z : Hp) : Le Z Z := fun _ _ h => h
theorem Le.trans {Z Z1 Z2 : Hp} (a : Le Z Z1) (b : Le Z1 Z2) : Le Z Z2 := fun p o h => b p o (a p o h)
def Pre (ρ ρ' : List Addr) : Prop := ∀ (a : Nat) (p : Addr), ρ[a]? = some p → ρ'[a]? = some p
theorem Pre.refl (ρ : List Addr) : Pre ρ ρ := fun _ _ h => h
theorem Pre.trans {a b c : List Addr} (x : Pre a b) (y : Pre b c) : Pre a c := fun i p h => y i p (x i p h)
section
variable {Z Z' : Hp} {ρ ρ' : List Addr}
mutual
theorem RelD.mono (hz : Le Z Z') (hr : Pre ρ ρ') : ∀ {d : D} {v : V}, RelD Z ρ d v → RelD Z' ρ' d v
  | _, _, .non => .non
  | _, _, .bl b => .bl b
  | _, _, .int i => .int i
  | _, _, .str x => .str x
  | _, _, .tup h r => .tup (hz _ _ h) (RelDs.mono hz hr r)
  | _, _, .lst h r => .lst (hz _ _ h) (RelDs.mono hz hr r)
  | _, _, .frz h r => .frz (hz _ _ h) (RelDs.mono hz hr r)
  | _, _, .ref h => .ref (hr _ _ h)
  | _, _, .dct h => .dct (hz _ _ h)
  | _, _, .dfz h => .dfz (hz _ _ h)
theorem RelDs.mono (hz : Le Z Z') (hr : Pre ρ ρ') : ∀ {ds : List D} {vs : List V}, RelDs Z ρ ds vs → RelDs Z' ρ' ds vs
  | _, _, .nil => .nil
  | _, _, .cons h t => .cons (RelD.mono hz hr h) (RelDs.mono hz hr t)
end
mutual
theorem RelD.bd : ∀ {d : D} {v : V}, RelD Z ρ d v → Bd ρ.length d
  | _, _, .non => .non
  | _, _, .bl b => .bl b
  | _, _, .int i => .int i
  | _, _, .str x => .str x
  | _, _, .tup h r => .tup (RelDs.bd r)
  | _, _, .lst h r => .lst (RelDs.bd r)
  | _, _, .frz h r => .frz (RelDs.bd r)
  | _, _, .ref h => .ref (List.getElem?_eq_some_iff.mp h).1
  | _, _, .dct h => .dct _
  | _, _, .dfz h => .dfz _
theorem RelDs.bd : ∀ {ds : List D} {vs : List V}, RelDs Z ρ ds vs → ∀ d ∈ ds, Bd ρ.length d
  | _, _, .nil => fun _ h => by cases h
  | _, _, .cons h t => fun d hd => (List.mem_cons.mp hd).elim (fun e => e ▸ RelD.bd h) (RelDs.bd t d)
end
mutual
/-- the references lie below n: the shorter map is enough -/
theorem RelD.cut {n : Nat} (hp : ∀ a, a < n → ∀ p, ρ'[a]? = some p → ρ[a]? = some p) : ∀ {d : D} {v : V}, RelD Z ρ' d v → Bd n d → RelD Z ρ d v
  | _, _, .non, _ => .non
  | _, _, .bl b, _ => .bl b
  | _, _, .int i, _ => .int i
  | _, _, .str x, _ => .str x
  | _, _, .tup h r, .tup b => .tup h (RelDs.cut hp r b)
  | _, _, .lst h r, .lst b => .lst h (RelDs.cut hp r b)
  | _, _, .frz h r, .frz b => .frz h (RelDs.cut hp r b)
  | _, _, .ref h, .ref b => .ref (hp _ b _ h)
  | _, _, .dct h, _ => .dct h
  | _, _, .dfz h, _ => .dfz h
theorem RelDs.cut {n : Nat} (hp : ∀ a, a < n → ∀ p, ρ'[a]? = some p → ρ[a]? = some p) : ∀ {ds : List D} {vs : List V}, RelDs Z ρ' ds vs → (∀ d ∈ ds, Bd n d) → RelDs Z ρ ds vs
  | _, _, .nil, _ => .nil
  | _, _, .cons h t, b => .cons (RelD.cut hp h (b _ List.mem_cons_self)) (RelDs.cut hp t fun d hd => b d (List.mem_cons_of_mem _ hd))
end
theorem RelDs.length : ∀ {ds : List D} {vs : List V}, RelDs Z ρ ds vs → ds.length = vs.length
  | _, _, .nil => rfl
  | _, _, .cons _ t => by rw [List.length_cons, List.length_cons, RelDs.length t]
theorem RelDs.get : ∀ {ds : List D} {vs : List V} {i : Nat} {d : D}, RelDs Z ρ ds vs → ds[i]? = some d → ∃ v, vs[i]? = some v ∧ RelD Z ρ d v
  | _, _, _, _, .nil, e => by simp at e
  | _, _, 0, _, .cons r _, e => by simp at e; subst e; exact ⟨_, rfl, r⟩
  | _, _, i + 1, _, .cons _ t, e => by simpa using RelDs.get (i := i) t (by simpa using e)
theorem RelDs.append : ∀ {xs ys : List D} {us ws : List V}, RelDs Z ρ xs us → RelDs Z ρ ys ws → RelDs Z ρ (xs ++ ys) (us ++ ws)
  | _, _, _, _, .nil, s => s
  | _, _, _, _, .cons r t, s => .cons r (RelDs.append t s)
theorem RelDs.take : ∀ {xs : List D} {us : List V} (n : Nat), RelDs Z ρ xs us → RelDs Z ρ (xs.take n) (us.take n)
  | _, _, 0, _ => .nil
  | _, _, _ + 1, .nil => .nil
  | _, _, n + 1, .cons r t => .cons r (RelDs.take n t)
theorem RelDs.drop : ∀ {xs : List D} {us : List V} (n : Nat), RelDs Z ρ xs us → RelDs Z ρ (xs.drop n) (us.drop n)
  | _, _, 0, r => r
  | _, _, _ + 1, .nil => .nil
  | _, _, n + 1, .cons _ t => RelDs.drop n t
theorem RelDs.set {x : D} {u : V} (r : RelD Z ρ x u) : ∀ {xs : List D} {us : List V} (i : Nat), RelDs Z ρ xs us → RelDs Z ρ (xs.set i x) (us.set i u)
  | _, _, _, .nil => .nil
  | _, _, 0, .cons _ t => .cons r t
  | _, _, i + 1, .cons q t => .cons q (RelDs.set r i t)
theorem RelDs.reverse {xs : List D} {us : List V} (h : RelDs Z ρ xs us) : RelDs Z ρ xs.reverse us.reverse := by
  induction xs generalizing us with
  | nil => cases h; exact .nil
  | cons x xs ih =>
    cases h with
    | cons r t =>
      rw [List.reverse_cons, List.reverse_cons]
      exact (ih t).append (.cons r .nil)
theorem RelDs.dropLast {xs : List D} {us : List V} (h : RelDs Z ρ xs us) : RelDs Z ρ xs.dropLast us.dropLast := by
  rw [List.dropLast_eq_take, List.dropLast_eq_take, ← h.length]
  exact h.take _
theorem RelDs.rep {xs : List D} {us : List V} (h : RelDs Z ρ xs us) : ∀ k : Nat, RelDs Z ρ (List.replicate k xs).flatten (List.replicate k us).flatten
  | 0 => .nil
  | k + 1 => by
    rw [List.replicate_succ, List.replicate_succ, List.flatten_cons, List.flatten_cons]
    exact h.append (RelDs.rep h k)
theorem RelDs.isEmpty {xs : List D} {us : List V} (h : RelDs Z ρ xs us) : xs.isEmpty = us.isEmpty := by cases h <;> rfl
theorem RelDs.intsR (ns : List Int) : RelDs Z ρ (ns.map D.int) (ns.map V.int) := by
  induction ns with
  | nil => exact .nil
  | cons n ns ih => exact .cons (.int n) ih
theorem RelDs.of_ints {ns : List Int} {us : List V} (h : RelDs Z ρ (ns.map D.int) us) : us = ns.map V.int := by
  induction ns generalizing us with
  | nil => cases h; rfl
  | cons n ns ih =>
    cases h with
    | cons r t => cases r; rw [ih t]; rfl
end

/-! ### the store by the heap -/
def RelK {κ : Type} (Z : Hp) (ρ : List Addr) : List (κ × D) → List (κ × V) → Prop := fun kvs kvs' => kvs.map (·.1) = kvs'.map (·.1) ∧ RelDs Z ρ (kvs.map (·.2)) (kvs'.map (·.2))
def ObR (Z : Hp) (ρ : List Addr) (H : Hp) (p : Addr) : Ob → Prop
  | .lst ds => ∃ vs, H p = some (.lst vs) ∧ RelDs Z ρ ds vs
  | .dct kvs => ∃ kvs', H p = some (.dK kvs') ∧ RelK Z ρ kvs kvs'
  | .dtt kvs => ∃ kvs', H p = some (.dT kvs') ∧ RelK Z ρ kvs kvs'
  | .dead => ∃ o, H p = some o ∧ (∀ q, o ≠ .tbl q) ∧ ∀ xs, o ≠ .tup xs
structure Rst (tabs : List Addr) (ρ : List Addr) (Z : Hp) (S : Store) (H : Hp) : Prop where
  zle : Le Z H
  zt : ∀ p q, Z p ≠ some (.tbl q)
  nd : ρ.Nodup
  len : ρ.length = S.length
  ob : ∀ (a : Nat) (o : Ob) (p : Addr), S[a]? = some o → ρ[a]? = some p → Z p = none ∧ ObR Z ρ H p o
  tab : ∀ P ∈ tabs, TabG H P
/-- what a run may do to the heap -/
structure Post (tabs : List Addr) (ρ : List Addr) (Z H : Hp) (ρ' : List Addr) (Z' : Hp) (S' : Store) (H' : Hp) : Prop where
  pre : Pre ρ ρ'
  zm : Le Z Z'
  zf : ∀ q, Z q = none → H q ≠ none → (∀ vs, H q ≠ some (.tup vs)) → Z' q = none
  ev : ∀ p o, H p = some o → p ∉ ρ → (∀ q, o ≠ .tbl q) → H' p = some o
  tb : ∀ p q, H p = some (.tbl q) → ∃ q', H' p = some (.tbl q')
  fresh : ∀ q ∈ ρ', q ∉ ρ → H q = none
  st : Rst tabs ρ' Z' S' H'
def SlR (Z : Hp) (ρ : List Addr) (g : GE) (σ : L2.St) : Prop := g.length = σ.length ∧ ∀ (i : Nat) (d : D), g[i]? = some (some d) → ∃ v, σ[i]? = some (some v) ∧ RelD Z ρ d v
section
variable {tabs : List Addr} {ρ ρ' ρ1 : List Addr} {Z Z' Z1 H H' H1 : Hp} {S S' S1 : Store} {g : GE} {σ : L2.St}
theorem Rst.at (r : Rst tabs ρ Z S H) {a : Nat} {o : Ob} (h : S[a]? = some o) : ∃ p, ρ[a]? = some p ∧ Z p = none ∧ ObR Z ρ H p o := by
  have hl : a < ρ.length := by rw [r.len]; exact (List.getElem?_eq_some_iff.mp h).1
  exact ⟨ρ[a], List.getElem?_eq_getElem hl, r.ob a o _ h (List.getElem?_eq_getElem hl)⟩
theorem ObR.there {p : Addr} {o : Ob} (h : ObR Z ρ H p o) : ∃ u, H p = some u ∧ ∀ q, u ≠ .tbl q := by
  cases o with
  | lst ds => obtain ⟨vs, e, _⟩ := h; exact ⟨_, e, fun q z => by cases z⟩
  | dct kvs => obtain ⟨vs, e, _⟩ := h; exact ⟨_, e, fun q z => by cases z⟩
  | dtt kvs => obtain ⟨vs, e, _⟩ := h; exact ⟨_, e, fun q z => by cases z⟩
  | dead => obtain ⟨u, e, t, _⟩ := h; exact ⟨u, e, t⟩
theorem ObR.ntup {p : Addr} {o : Ob} (h : ObR Z ρ H p o) : ∀ vs, H p ≠ some (.tup vs) := fun ws z => by
  cases o with
  | lst ds => obtain ⟨vs, e, _⟩ := h; rw [e] at z; cases z
  | dct kvs => obtain ⟨vs, e, _⟩ := h; rw [e] at z; cases z
  | dtt kvs => obtain ⟨vs, e, _⟩ := h; rw [e] at z; cases z
  | dead => obtain ⟨u, e, _, t⟩ := h; rw [e] at z; exact t ws (Option.some.inj z)
theorem Rst.there (r : Rst tabs ρ Z S H) {a : Nat} {p : Addr} (h : ρ[a]? = some p) : Z p = none ∧ ∃ u, H p = some u ∧ ∀ q, u ≠ .tbl q := by
  have hl : a < S.length := by rw [← r.len]; exact (List.getElem?_eq_some_iff.mp h).1
  obtain ⟨h1, h2⟩ := r.ob a _ p (List.getElem?_eq_getElem hl) h
  exact ⟨h1, h2.there⟩
theorem Rst.mem_there (r : Rst tabs ρ Z S H) {p : Addr} (h : p ∈ ρ) : Z p = none ∧ ∃ u, H p = some u ∧ ∀ q, u ≠ .tbl q := by
  obtain ⟨a, ha, e⟩ := List.getElem_of_mem h
  exact r.there (a := a) (by rw [List.getElem?_eq_getElem ha, e])
theorem Rst.mem_ntup (r : Rst tabs ρ Z S H) {p : Addr} (h : p ∈ ρ) : ∀ vs, H p ≠ some (.tup vs) := by
  obtain ⟨a, ha, e⟩ := List.getElem_of_mem h
  have hl : a < S.length := by rw [← r.len]; exact ha
  exact (r.ob a _ p (List.getElem?_eq_getElem hl) (by rw [List.getElem?_eq_getElem ha, e])).2.ntup
theorem Post.refl (r : Rst tabs ρ Z S H) : Post tabs ρ Z H ρ Z S H := ⟨Pre.refl _, Le.refl _, fun _ z _ _ => z, fun _ _ h _ _ => h, fun _ q h => ⟨q, h⟩, fun q h n => absurd h n, r⟩
theorem Pre.mem (h : Pre ρ ρ') {p : Addr} (hp : p ∈ ρ) : p ∈ ρ' := by
  obtain ⟨a, ha, e⟩ := List.getElem_of_mem hp
  exact List.mem_of_getElem? (h a p (by rw [List.getElem?_eq_getElem ha, e]))
theorem Post.trans (a : Post tabs ρ Z H ρ1 Z1 S1 H1) (b : Post tabs ρ1 Z1 H1 ρ' Z' S' H') : Post tabs ρ Z H ρ' Z' S' H' where
  pre := a.pre.trans b.pre
  zm := a.zm.trans b.zm
  zf := fun q z h ht => b.zf q (a.zf q z h ht) (fun n => by
    cases e : H q with
    | none => exact h e
    | some o =>
      by_cases hm : q ∈ ρ
      · obtain ⟨_, u, e', _⟩ := a.st.mem_there (a.pre.mem hm)
        rw [n] at e'; cases e'
      · by_cases ht : ∃ qq, o = .tbl qq
        · obtain ⟨qq, rfl⟩ := ht
          obtain ⟨q1, h1⟩ := a.tb q qq e
          rw [n] at h1; cases h1
        · have := a.ev q o e hm fun qq z => ht ⟨qq, z⟩
          rw [n] at this; cases this) fun vs hvs => by
    by_cases hm : q ∈ ρ
    · exact a.st.mem_ntup (a.pre.mem hm) vs hvs
    · cases e : H q with
      | none => exact h e
      | some o =>
        by_cases ht2 : ∃ qq, o = .tbl qq
        · obtain ⟨qq, rfl⟩ := ht2
          obtain ⟨q1, h1⟩ := a.tb q qq e
          rw [hvs] at h1; cases h1
        · have := a.ev q o e hm fun qq z => ht2 ⟨qq, z⟩
          rw [hvs] at this
          exact ht vs (by rw [e, this])
  ev := fun p o h n t => b.ev p o (a.ev p o h n t) (fun z => by
    have := a.fresh p z n
    rw [h] at this; cases this) t
  tb := fun p q h => by
    obtain ⟨q1, h1⟩ := a.tb p q h
    exact b.tb p q1 h1
  fresh := fun q hq n => by
    by_cases h1 : q ∈ ρ1
    · exact a.fresh q h1 n
    · have hn := b.fresh q hq h1
      cases e : H q with
      | none => rfl
      | some o =>
        by_cases ht : ∃ qq, o = .tbl qq
        · obtain ⟨qq, rfl⟩ := ht
          obtain ⟨q1, h1⟩ := a.tb q qq e
          rw [hn] at h1; cases h1
        · have := a.ev q o e n fun qq z => ht ⟨qq, z⟩
          rw [hn] at this; cases this
  st := b.st

theorem SlR.mono (h : SlR Z ρ g σ) (hz : Le Z Z') (hr : Pre ρ ρ') : SlR Z' ρ' g σ := ⟨h.1, fun i d e => let ⟨v, e', r⟩ := h.2 i d e; ⟨v, e', r.mono hz hr⟩⟩
theorem SlR.post (h : SlR Z ρ g σ) (p : Post tabs ρ Z H ρ' Z' S' H') : SlR Z' ρ' g σ := h.mono p.zm p.pre
theorem SlR.set {i : Nat} {d : D} {v : V} (h : SlR Z ρ g σ) (r : RelD Z ρ d v) : SlR Z ρ (g.set i (some d)) (σ.set i (some v)) := by
  refine ⟨by rw [List.length_set, List.length_set]; exact h.1, fun j e hj => ?_⟩
  by_cases hij : i = j
  · subst hij
    have hl : i < g.length := by
      have := (List.getElem?_eq_some_iff.mp hj).1
      rwa [List.length_set] at this
    rw [List.getElem?_set_self hl] at hj
    cases hj
    exact ⟨v, by rw [List.getElem?_set_self (by rw [← h.1]; exact hl)], r⟩
  · rw [List.getElem?_set_ne hij] at hj
    obtain ⟨v', e', r'⟩ := h.2 j e hj
    exact ⟨v', by rw [List.getElem?_set_ne hij]; exact e', r'⟩
/-- a new object: a frozen one (tuple, list as data) -/
theorem Rst.put (r : Rst tabs ρ Z S H) {p : Addr} {o : HO} (hp : H p = none) (ho : ∀ q, o ≠ .tbl q) : Post tabs ρ Z H ρ (upd Z p o) S (upd H p o) where
  pre := Pre.refl _
  zm := fun q u e => by
    have : q ≠ p := fun z => by rw [z] at e; rw [r.zle p u e] at hp; cases hp
    rw [upd_ne this]; exact e
  zf := fun q z h _ => by rw [upd_ne (fun e => h (by rw [e]; exact hp))]; exact z
  ev := fun q u e _ _ => by rw [upd_ne (ne_of_none e hp)]; exact e
  tb := fun q u e => ⟨u, by rw [upd_ne (ne_of_none e hp)]; exact e⟩
  fresh := fun q h n => absurd h n
  st := by
    have zm : Le Z (upd Z p o) := fun q u e => by
      have : q ≠ p := fun z => by rw [z] at e; rw [r.zle p u e] at hp; cases hp
      rw [upd_ne this]; exact e
    refine ⟨fun q u e => ?_, fun q u => ?_, r.nd, r.len, fun a ob q h1 h2 => ?_, fun P hP => ?_⟩
    · by_cases hq : q = p
      · subst hq; rw [upd_same] at e ⊢; exact e
      · rw [upd_ne hq] at e ⊢; exact r.zle q u e
    · by_cases hq : q = p
      · subst hq; rw [upd_same]; intro z; exact ho u (Option.some.inj z)
      · rw [upd_ne hq]; exact r.zt q u
    · obtain ⟨h3, h4⟩ := r.ob a ob q h1 h2
      have hq : q ≠ p := fun z => by
        obtain ⟨u, e, _⟩ := h4.there
        rw [z, hp] at e; cases e
      refine ⟨by rw [upd_ne hq]; exact h3, ?_⟩
      cases ob with
      | lst ds => obtain ⟨vs, e, rr⟩ := h4; exact ⟨vs, by rw [upd_ne hq]; exact e, rr.mono zm (Pre.refl _)⟩
      | dct kvs => obtain ⟨vs, e, k, rr⟩ := h4; exact ⟨vs, by rw [upd_ne hq]; exact e, k, rr.mono zm (Pre.refl _)⟩
      | dtt kvs => obtain ⟨vs, e, k, rr⟩ := h4; exact ⟨vs, by rw [upd_ne hq]; exact e, k, rr.mono zm (Pre.refl _)⟩
      | dead => obtain ⟨u, e, t⟩ := h4; exact ⟨u, by rw [upd_ne hq]; exact e, t⟩
    · obtain ⟨ps, e, t⟩ := r.tab P hP
      exact ⟨ps, by rw [upd_ne (ne_of_none e hp)]; exact e, t⟩
theorem getElem?_snoc {α : Type} {l : List α} {x y : α} {i : Nat} (h : (l ++ [x])[i]? = some y) : l[i]? = some y ∨ (i = l.length ∧ y = x) := by
  by_cases hi : i < l.length
  · rw [List.getElem?_append_left hi] at h; exact .inl h
  · rw [List.getElem?_append_right (by omega)] at h
    have : i - l.length = 0 := by
      cases e : i - l.length with
      | zero => rfl
      | succ n => rw [e] at h; simp at h
    rw [this] at h
    exact .inr ⟨by omega, (Option.some.inj h).symm⟩
theorem pre_snoc (p : Addr) : Pre ρ (ρ ++ [p]) := fun a q h => by
  rw [List.getElem?_append_left (List.getElem?_eq_some_iff.mp h).1]; exact h
/-- a new list of the store -/
theorem Rst.newL (r : Rst tabs ρ Z S H) {p : Addr} {ds : List D} {vs : List V} (hp : H p = none) (hr : RelDs Z ρ ds vs) : Post tabs ρ Z H (ρ ++ [p]) Z (S ++ [.lst ds]) (upd H p (.lst vs)) where
  pre := pre_snoc p
  zm := Le.refl _
  zf := fun _ z _ _ => z
  ev := fun q u e _ _ => by rw [upd_ne (ne_of_none e hp)]; exact e
  tb := fun q u e => ⟨u, by rw [upd_ne (ne_of_none e hp)]; exact e⟩
  fresh := fun q h n => by
    rcases List.mem_append.mp h with h | h
    · exact absurd h n
    · rw [List.mem_singleton.mp h]; exact hp
  st := by
    have hZ : Z p = none := by
      cases e : Z p with
      | none => rfl
      | some o => rw [r.zle p o e] at hp; cases hp
    have np : p ∉ ρ := fun z => by
      obtain ⟨_, u, e, _⟩ := r.mem_there z
      rw [hp] at e; cases e
    refine ⟨fun q u e => ?_, r.zt, ?_, by rw [List.length_append, List.length_append, r.len]; rfl, fun a ob q h1 h2 => ?_, fun P hP => ?_⟩
    · rw [upd_ne (fun z => by rw [z, hZ] at e; cases e)]; exact r.zle q u e
    · exact List.nodup_append.mpr ⟨r.nd, by simp, fun a ha b hb => by rw [List.mem_singleton.mp hb]; exact fun z => np (z ▸ ha)⟩
    · rcases getElem?_snoc h1 with h1 | ⟨ha, rfl⟩
      · rcases getElem?_snoc h2 with h2 | ⟨ha, _⟩
        · obtain ⟨h3, h4⟩ := r.ob a ob q h1 h2
          have hq : q ≠ p := fun z => by
            obtain ⟨u, e, _⟩ := h4.there
            rw [z, hp] at e; cases e
          refine ⟨h3, ?_⟩
          cases ob with
          | lst ds => obtain ⟨vs, e, rr⟩ := h4; exact ⟨vs, by rw [upd_ne hq]; exact e, rr.mono (Le.refl _) (pre_snoc p)⟩
          | dct kvs => obtain ⟨vs, e, k, rr⟩ := h4; exact ⟨vs, by rw [upd_ne hq]; exact e, k, rr.mono (Le.refl _) (pre_snoc p)⟩
          | dtt kvs => obtain ⟨vs, e, k, rr⟩ := h4; exact ⟨vs, by rw [upd_ne hq]; exact e, k, rr.mono (Le.refl _) (pre_snoc p)⟩
          | dead => obtain ⟨u, e, t⟩ := h4; exact ⟨u, by rw [upd_ne hq]; exact e, t⟩
        · have := (List.getElem?_eq_some_iff.mp h1).1
          rw [ha, r.len] at this; exact absurd this (Nat.lt_irrefl _)
      · rcases getElem?_snoc h2 with h2 | ⟨_, rfl⟩
        · have := (List.getElem?_eq_some_iff.mp h2).1
          rw [ha, r.len] at this; exact absurd this (Nat.lt_irrefl _)
        · exact ⟨hZ, vs, upd_same, hr.mono (Le.refl _) (pre_snoc _)⟩
    · obtain ⟨ps, e, t⟩ := r.tab P hP
      exact ⟨ps, by rw [upd_ne (ne_of_none e hp)]; exact e, t⟩
/-- a new dict of the store -/
theorem Rst.newT (r : Rst tabs ρ Z S H) {p : Addr} {ds : List (List Key × D)} {vs : List (List Key × V)} (hp : H p = none) (hr : RelK Z ρ ds vs) : Post tabs ρ Z H (ρ ++ [p]) Z (S ++ [.dtt ds]) (upd H p (.dT vs)) where
  pre := pre_snoc p
  zm := Le.refl _
  zf := fun _ z _ _ => z
  ev := fun q u e _ _ => by rw [upd_ne (ne_of_none e hp)]; exact e
  tb := fun q u e => ⟨u, by rw [upd_ne (ne_of_none e hp)]; exact e⟩
  fresh := fun q h n => by
    rcases List.mem_append.mp h with h | h
    · exact absurd h n
    · rw [List.mem_singleton.mp h]; exact hp
  st := by
    have hZ : Z p = none := by
      cases e : Z p with
      | none => rfl
      | some o => rw [r.zle p o e] at hp; cases hp
    have np : p ∉ ρ := fun z => by
      obtain ⟨_, u, e, _⟩ := r.mem_there z
      rw [hp] at e; cases e
    refine ⟨fun q u e => ?_, r.zt, ?_, by rw [List.length_append, List.length_append, r.len]; rfl, fun a ob q h1 h2 => ?_, fun P hP => ?_⟩
    · rw [upd_ne (fun z => by rw [z, hZ] at e; cases e)]; exact r.zle q u e
    · exact List.nodup_append.mpr ⟨r.nd, by simp, fun a ha b hb => by rw [List.mem_singleton.mp hb]; exact fun z => np (z ▸ ha)⟩
    · rcases getElem?_snoc h1 with h1 | ⟨ha, rfl⟩
      · rcases getElem?_snoc h2 with h2 | ⟨ha, _⟩
        · obtain ⟨h3, h4⟩ := r.ob a ob q h1 h2
          have hq : q ≠ p := fun z => by
            obtain ⟨u, e, _⟩ := h4.there
            rw [z, hp] at e; cases e
          refine ⟨h3, ?_⟩
          cases ob with
          | lst ds => obtain ⟨vs, e, rr⟩ := h4; exact ⟨vs, by rw [upd_ne hq]; exact e, rr.mono (Le.refl _) (pre_snoc p)⟩
          | dct kvs => obtain ⟨vs, e, k, rr⟩ := h4; exact ⟨vs, by rw [upd_ne hq]; exact e, k, rr.mono (Le.refl _) (pre_snoc p)⟩
          | dtt kvs => obtain ⟨vs, e, k, rr⟩ := h4; exact ⟨vs, by rw [upd_ne hq]; exact e, k, rr.mono (Le.refl _) (pre_snoc p)⟩
          | dead => obtain ⟨u, e, t⟩ := h4; exact ⟨u, by rw [upd_ne hq]; exact e, t⟩
        · have := (List.getElem?_eq_some_iff.mp h1).1
          rw [ha, r.len] at this; exact absurd this (Nat.lt_irrefl _)
      · rcases getElem?_snoc h2 with h2 | ⟨_, rfl⟩
        · have := (List.getElem?_eq_some_iff.mp h2).1
          rw [ha, r.len] at this; exact absurd this (Nat.lt_irrefl _)
        · exact ⟨hZ, vs, upd_same, hr.1, hr.2.mono (Le.refl _) (pre_snoc _)⟩
    · obtain ⟨ps, e, t⟩ := r.tab P hP
      exact ⟨ps, by rw [upd_ne (ne_of_none e hp)]; exact e, t⟩
/-- a list of the store changed -/
theorem Rst.setL (r : Rst tabs ρ Z S H) {a : Nat} {p : Addr} {xs ds : List D} {vs : List V} (ha : S[a]? = some (.lst xs)) (hp : ρ[a]? = some p) (hr : RelDs Z ρ ds vs) : Post tabs ρ Z H ρ Z (S.set a (.lst ds)) (upd H p (.lst vs)) where
  pre := Pre.refl _
  zm := Le.refl _
  zf := fun _ z _ _ => z
  ev := fun q u e n _ => by
    have hq : q ≠ p := fun z => n (by rw [z]; exact List.mem_of_getElem? hp)
    rw [upd_ne hq]; exact e
  tb := fun q u e => by
    obtain ⟨_, w, e', t⟩ := r.there hp
    have : q ≠ p := fun z => by rw [z, e'] at e; cases e; exact t u rfl
    exact ⟨u, by rw [upd_ne this]; exact e⟩
  fresh := fun q h n => absurd h n
  st := by
    obtain ⟨hZ, w, e', t⟩ := r.there hp
    refine ⟨fun q u e => ?_, r.zt, r.nd, by rw [List.length_set]; exact r.len, fun b ob q h1 h2 => ?_, fun P hP => ?_⟩
    · rw [upd_ne (fun z => by rw [z, hZ] at e; cases e)]; exact r.zle q u e
    · by_cases hab : a = b
      · subst hab
        rw [List.getElem?_set_self (List.getElem?_eq_some_iff.mp ha).1] at h1
        cases h1
        rw [hp] at h2; cases h2
        exact ⟨hZ, vs, upd_same, hr⟩
      · rw [List.getElem?_set_ne hab] at h1
        obtain ⟨h3, h4⟩ := r.ob b ob q h1 h2
        have hq : q ≠ p := fun z => by
          rw [z] at h2
          obtain ⟨la, ea⟩ := List.getElem?_eq_some_iff.mp hp
          obtain ⟨lb, eb⟩ := List.getElem?_eq_some_iff.mp h2
          exact hab ((List.getElem_inj r.nd).mp (ea.trans eb.symm))
        refine ⟨h3, ?_⟩
        cases ob with
        | lst ds => obtain ⟨vs, e, rr⟩ := h4; exact ⟨vs, by rw [upd_ne hq]; exact e, rr⟩
        | dct kvs => obtain ⟨vs, e, k, rr⟩ := h4; exact ⟨vs, by rw [upd_ne hq]; exact e, k, rr⟩
        | dtt kvs => obtain ⟨vs, e, k, rr⟩ := h4; exact ⟨vs, by rw [upd_ne hq]; exact e, k, rr⟩
        | dead => obtain ⟨u, e, t⟩ := h4; exact ⟨u, by rw [upd_ne hq]; exact e, t⟩
    · obtain ⟨ps, e, tt⟩ := r.tab P hP
      exact ⟨ps, by rw [upd_ne (fun z => by rw [z, e'] at e; cases e; exact t ps rfl)]; exact e, tt⟩
theorem Rst.setD (r : Rst tabs ρ Z S H) {a : Nat} {p : Addr} {xs ds : List (Key × D)} {vs : List (Key × V)} (ha : S[a]? = some (.dct xs)) (hp : ρ[a]? = some p) (hr : RelK Z ρ ds vs) : Post tabs ρ Z H ρ Z (S.set a (.dct ds)) (upd H p (.dK vs)) where
  pre := Pre.refl _
  zm := Le.refl _
  zf := fun _ z _ _ => z
  ev := fun q u e n _ => by
    have hq : q ≠ p := fun z => n (by rw [z]; exact List.mem_of_getElem? hp)
    rw [upd_ne hq]; exact e
  tb := fun q u e => by
    obtain ⟨_, w, e', t⟩ := r.there hp
    have : q ≠ p := fun z => by rw [z, e'] at e; cases e; exact t u rfl
    exact ⟨u, by rw [upd_ne this]; exact e⟩
  fresh := fun q h n => absurd h n
  st := by
    obtain ⟨hZ, w, e', t⟩ := r.there hp
    refine ⟨fun q u e => ?_, r.zt, r.nd, by rw [List.length_set]; exact r.len, fun b ob q h1 h2 => ?_, fun P hP => ?_⟩
    · rw [upd_ne (fun z => by rw [z, hZ] at e; cases e)]; exact r.zle q u e
    · by_cases hab : a = b
      · subst hab
        rw [List.getElem?_set_self (List.getElem?_eq_some_iff.mp ha).1] at h1
        cases h1
        rw [hp] at h2; cases h2
        exact ⟨hZ, vs, upd_same, hr⟩
      · rw [List.getElem?_set_ne hab] at h1
        obtain ⟨h3, h4⟩ := r.ob b ob q h1 h2
        have hq : q ≠ p := fun z => by
          rw [z] at h2
          obtain ⟨la, ea⟩ := List.getElem?_eq_some_iff.mp hp
          obtain ⟨lb, eb⟩ := List.getElem?_eq_some_iff.mp h2
          exact hab ((List.getElem_inj r.nd).mp (ea.trans eb.symm))
        refine ⟨h3, ?_⟩
        cases ob with
        | lst ds => obtain ⟨vs, e, rr⟩ := h4; exact ⟨vs, by rw [upd_ne hq]; exact e, rr⟩
        | dct kvs => obtain ⟨vs, e, k, rr⟩ := h4; exact ⟨vs, by rw [upd_ne hq]; exact e, k, rr⟩
        | dtt kvs => obtain ⟨vs, e, k, rr⟩ := h4; exact ⟨vs, by rw [upd_ne hq]; exact e, k, rr⟩
        | dead => obtain ⟨u, e, t⟩ := h4; exact ⟨u, by rw [upd_ne hq]; exact e, t⟩
    · obtain ⟨ps, e, tt⟩ := r.tab P hP
      exact ⟨ps, by rw [upd_ne (fun z => by rw [z, e'] at e; cases e; exact t ps rfl)]; exact e, tt⟩
theorem Rst.setT (r : Rst tabs ρ Z S H) {a : Nat} {p : Addr} {xs ds : List (List Key × D)} {vs : List (List Key × V)} (ha : S[a]? = some (.dtt xs)) (hp : ρ[a]? = some p) (hr : RelK Z ρ ds vs) : Post tabs ρ Z H ρ Z (S.set a (.dtt ds)) (upd H p (.dT vs)) where
  pre := Pre.refl _
  zm := Le.refl _
  zf := fun _ z _ _ => z
  ev := fun q u e n _ => by
    have hq : q ≠ p := fun z => n (by rw [z]; exact List.mem_of_getElem? hp)
    rw [upd_ne hq]; exact e
  tb := fun q u e => by
    obtain ⟨_, w, e', t⟩ := r.there hp
    have : q ≠ p := fun z => by rw [z, e'] at e; cases e; exact t u rfl
    exact ⟨u, by rw [upd_ne this]; exact e⟩
  fresh := fun q h n => absurd h n
  st := by
    obtain ⟨hZ, w, e', t⟩ := r.there hp
    refine ⟨fun q u e => ?_, r.zt, r.nd, by rw [List.length_set]; exact r.len, fun b ob q h1 h2 => ?_, fun P hP => ?_⟩
    · rw [upd_ne (fun z => by rw [z, hZ] at e; cases e)]; exact r.zle q u e
    · by_cases hab : a = b
      · subst hab
        rw [List.getElem?_set_self (List.getElem?_eq_some_iff.mp ha).1] at h1
        cases h1
        rw [hp] at h2; cases h2
        exact ⟨hZ, vs, upd_same, hr⟩
      · rw [List.getElem?_set_ne hab] at h1
        obtain ⟨h3, h4⟩ := r.ob b ob q h1 h2
        have hq : q ≠ p := fun z => by
          rw [z] at h2
          obtain ⟨la, ea⟩ := List.getElem?_eq_some_iff.mp hp
          obtain ⟨lb, eb⟩ := List.getElem?_eq_some_iff.mp h2
          exact hab ((List.getElem_inj r.nd).mp (ea.trans eb.symm))
        refine ⟨h3, ?_⟩
        cases ob with
        | lst ds => obtain ⟨vs, e, rr⟩ := h4; exact ⟨vs, by rw [upd_ne hq]; exact e, rr⟩
        | dct kvs => obtain ⟨vs, e, k, rr⟩ := h4; exact ⟨vs, by rw [upd_ne hq]; exact e, k, rr⟩
        | dtt kvs => obtain ⟨vs, e, k, rr⟩ := h4; exact ⟨vs, by rw [upd_ne hq]; exact e, k, rr⟩
        | dead => obtain ⟨u, e, t⟩ := h4; exact ⟨u, by rw [upd_ne hq]; exact e, t⟩
    · obtain ⟨ps, e, tt⟩ := r.tab P hP
      exact ⟨ps, by rw [upd_ne (fun z => by rw [z, e'] at e; cases e; exact t ps rfl)]; exact e, tt⟩
/-- a tuple that stands is data -/
theorem Rst.tupIn (r : Rst tabs ρ Z S H) {q : Addr} {vs : List V} (hq : H q = some (.tup vs)) : Post tabs ρ Z H ρ (upd Z q (.tup vs)) S H where
  pre := Pre.refl _
  zm := fun p o e => by
    by_cases h : p = q
    · subst h
      have := r.zle p o e
      rw [hq] at this
      rw [upd_same]; exact this
    · rw [upd_ne h]; exact e
  zf := fun p z _ ht => by rw [upd_ne (fun e => ht vs (by rw [e]; exact hq))]; exact z
  ev := fun _ _ e _ _ => e
  tb := fun _ u e => ⟨u, e⟩
  fresh := fun q h n => absurd h n
  st := by
    have zm : Le Z (upd Z q (.tup vs)) := fun p o e => by
      by_cases h : p = q
      · subst h
        have := r.zle p o e
        rw [hq] at this
        rw [upd_same]; exact this
      · rw [upd_ne h]; exact e
    refine ⟨fun p o e => ?_, fun p u => ?_, r.nd, r.len, fun a ob p h1 h2 => ?_, r.tab⟩
    · by_cases h : p = q
      · subst h; rw [upd_same] at e; rw [hq]; exact e
      · rw [upd_ne h] at e; exact r.zle p o e
    · by_cases h : p = q
      · subst h; rw [upd_same]; intro z; cases z
      · rw [upd_ne h]; exact r.zt p u
    · obtain ⟨h3, h4⟩ := r.ob a ob p h1 h2
      have hp : p ≠ q := fun z => h4.ntup vs (by rw [z]; exact hq)
      refine ⟨by rw [upd_ne hp]; exact h3, ?_⟩
      cases ob with
      | lst ds => obtain ⟨ws, e, rr⟩ := h4; exact ⟨ws, e, rr.mono zm (Pre.refl _)⟩
      | dct kvs => obtain ⟨ws, e, k, rr⟩ := h4; exact ⟨ws, e, k, rr.mono zm (Pre.refl _)⟩
      | dtt kvs => obtain ⟨ws, e, k, rr⟩ := h4; exact ⟨ws, e, k, rr.mono zm (Pre.refl _)⟩
      | dead => exact h4
/-- a code table has grown -/
theorem Rst.tabbed (r : Rst tabs ρ Z S H) {P : Addr} (hP : TabG H P) (t : Tabbed P H H') : Post tabs ρ Z H ρ Z S H' := by
  obtain ⟨ps0, e0, t0⟩ := hP
  obtain ⟨⟨ps1, e1, t1⟩, k⟩ := t
  have nZ : Z P = none := by
    cases e : Z P with
    | none => rfl
    | some o => have := r.zle P o e; rw [e0] at this; cases this; exact absurd e (r.zt P ps0)
  have nr : P ∉ ρ := fun z => by
    obtain ⟨_, u, e, tt⟩ := r.mem_there z
    rw [e0] at e; cases e; exact tt ps0 rfl
  refine ⟨Pre.refl _, Le.refl _, fun _ z _ _ => z, fun q u e n tt => ?_, fun q u e => ?_, fun q h n => absurd h n, ⟨fun q u e => ?_, r.zt, r.nd, r.len, fun a ob q h1 h2 => ?_, fun P' hP' => ?_⟩⟩
  · rw [k q (fun z => by rw [z, e0] at e; cases e; exact tt ps0 rfl)]; exact e
  · by_cases hq : q = P
    · subst hq; exact ⟨ps1, e1⟩
    · exact ⟨u, by rw [k q hq]; exact e⟩
  · rw [k q (fun z => by rw [z, nZ] at e; cases e)]; exact r.zle q u e
  · obtain ⟨h3, h4⟩ := r.ob a ob q h1 h2
    have hq : q ≠ P := fun z => nr (z ▸ List.mem_of_getElem? h2)
    refine ⟨h3, ?_⟩
    cases ob with
    | lst ds => obtain ⟨vs, e, rr⟩ := h4; exact ⟨vs, by rw [k q hq]; exact e, rr⟩
    | dct kvs => obtain ⟨vs, e, kk, rr⟩ := h4; exact ⟨vs, by rw [k q hq]; exact e, kk, rr⟩
    | dtt kvs => obtain ⟨vs, e, kk, rr⟩ := h4; exact ⟨vs, by rw [k q hq]; exact e, kk, rr⟩
    | dead => obtain ⟨u, e, t⟩ := h4; exact ⟨u, by rw [k q hq]; exact e, t⟩
  · by_cases hq : P' = P
    · subst hq; exact ⟨ps1, e1, t1⟩
    · obtain ⟨ps, e, t⟩ := r.tab P' hP'
      exact ⟨ps, by rw [k P' hq]; exact e, t⟩
/-- an object outside of the store and of what is frozen, written anew -/
theorem Post.updF {D : Addr} {o : HO} (p : Post tabs ρ Z H ρ' Z' S' H') (h1 : H D = none) (h2 : D ∉ ρ') (h3 : Z' D = none) (h4 : ∀ q, H' D ≠ some (.tbl q)) (ho : ∀ q, o ≠ .tbl q) : Post tabs ρ Z H ρ' Z' S' (upd H' D o) where
  pre := p.pre
  zm := p.zm
  zf := p.zf
  ev := fun q u e n t => by rw [upd_ne (ne_of_none e h1)]; exact p.ev q u e n t
  tb := fun q u e => by rw [upd_ne (ne_of_none e h1)]; exact p.tb q u e
  fresh := p.fresh
  st := by
    have r := p.st
    refine ⟨fun q u e => ?_, r.zt, r.nd, r.len, fun b ob q e1 e2 => ?_, fun P hP => ?_⟩
    · rw [upd_ne (fun z => by rw [z, h3] at e; cases e)]; exact r.zle q u e
    · obtain ⟨e3, e4⟩ := r.ob b ob q e1 e2
      have hq : q ≠ D := fun z => h2 (z ▸ List.mem_of_getElem? e2)
      refine ⟨e3, ?_⟩
      cases ob with
      | lst ds => obtain ⟨vs, e, rr⟩ := e4; exact ⟨vs, by rw [upd_ne hq]; exact e, rr⟩
      | dct kvs => obtain ⟨vs, e, k, rr⟩ := e4; exact ⟨vs, by rw [upd_ne hq]; exact e, k, rr⟩
      | dtt kvs => obtain ⟨vs, e, k, rr⟩ := e4; exact ⟨vs, by rw [upd_ne hq]; exact e, k, rr⟩
      | dead => obtain ⟨u, e, t⟩ := e4; exact ⟨u, by rw [upd_ne hq]; exact e, t⟩
    · obtain ⟨ps, e, t⟩ := r.tab P hP
      exact ⟨ps, by rw [upd_ne (fun z => h4 ps (by rw [← z]; exact e))]; exact e, t⟩
/-- .. becomes one of the store -/
theorem Post.adopt {D : Addr} {ds : List Li.D} {vs : List V} (p : Post tabs ρ Z H ρ' Z' S' H') (h1 : H D = none) (h2 : D ∉ ρ') (h3 : Z' D = none) (h4 : H' D = some (.lst vs)) (hr : RelDs Z' ρ' ds vs) : Post tabs ρ Z H (ρ' ++ [D]) Z' (S' ++ [.lst ds]) H' where
  pre := p.pre.trans (pre_snoc D)
  zm := p.zm
  zf := p.zf
  ev := p.ev
  tb := p.tb
  fresh := fun q h n => by
    rcases List.mem_append.mp h with h | h
    · exact p.fresh q h n
    · rw [List.mem_singleton.mp h]; exact h1
  st := by
    have r := p.st
    refine ⟨r.zle, r.zt, ?_, by rw [List.length_append, List.length_append, r.len]; rfl, fun a ob q e1 e2 => ?_, r.tab⟩
    · exact List.nodup_append.mpr ⟨r.nd, by simp, fun a ha b hb => by rw [List.mem_singleton.mp hb]; exact fun z => h2 (z ▸ ha)⟩
    · rcases getElem?_snoc e1 with e1 | ⟨ha, rfl⟩
      · rcases getElem?_snoc e2 with e2 | ⟨ha, _⟩
        · obtain ⟨e3, e4⟩ := r.ob a ob q e1 e2
          refine ⟨e3, ?_⟩
          cases ob with
          | lst ds => obtain ⟨vs, e, rr⟩ := e4; exact ⟨vs, e, rr.mono (Le.refl _) (pre_snoc D)⟩
          | dct kvs => obtain ⟨vs, e, k, rr⟩ := e4; exact ⟨vs, e, k, rr.mono (Le.refl _) (pre_snoc D)⟩
          | dtt kvs => obtain ⟨vs, e, k, rr⟩ := e4; exact ⟨vs, e, k, rr.mono (Le.refl _) (pre_snoc D)⟩
          | dead => exact e4
        · have := (List.getElem?_eq_some_iff.mp e1).1
          rw [ha, r.len] at this; exact absurd this (Nat.lt_irrefl _)
      · rcases getElem?_snoc e2 with e2 | ⟨_, rfl⟩
        · have := (List.getElem?_eq_some_iff.mp e2).1
          rw [ha, r.len] at this; exact absurd this (Nat.lt_irrefl _)
        · exact ⟨h3, vs, h4, hr.mono (Le.refl _) (pre_snoc _)⟩
/-- .. becomes one of the store -/
theorem Post.adoptD {D : Addr} {ds : List (Key × Li.D)} {vs : List (Key × V)} (p : Post tabs ρ Z H ρ' Z' S' H') (h1 : H D = none) (h2 : D ∉ ρ') (h3 : Z' D = none) (h4 : H' D = some (.dK vs)) (hr : RelK Z' ρ' ds vs) : Post tabs ρ Z H (ρ' ++ [D]) Z' (S' ++ [.dct ds]) H' where
  pre := p.pre.trans (pre_snoc D)
  zm := p.zm
  zf := p.zf
  ev := p.ev
  tb := p.tb
  fresh := fun q h n => by
    rcases List.mem_append.mp h with h | h
    · exact p.fresh q h n
    · rw [List.mem_singleton.mp h]; exact h1
  st := by
    have r := p.st
    refine ⟨r.zle, r.zt, ?_, by rw [List.length_append, List.length_append, r.len]; rfl, fun a ob q e1 e2 => ?_, r.tab⟩
    · exact List.nodup_append.mpr ⟨r.nd, by simp, fun a ha b hb => by rw [List.mem_singleton.mp hb]; exact fun z => h2 (z ▸ ha)⟩
    · rcases getElem?_snoc e1 with e1 | ⟨ha, rfl⟩
      · rcases getElem?_snoc e2 with e2 | ⟨ha, _⟩
        · obtain ⟨e3, e4⟩ := r.ob a ob q e1 e2
          refine ⟨e3, ?_⟩
          cases ob with
          | lst ds => obtain ⟨vs, e, rr⟩ := e4; exact ⟨vs, e, rr.mono (Le.refl _) (pre_snoc D)⟩
          | dct kvs => obtain ⟨vs, e, k, rr⟩ := e4; exact ⟨vs, e, k, rr.mono (Le.refl _) (pre_snoc D)⟩
          | dtt kvs => obtain ⟨vs, e, k, rr⟩ := e4; exact ⟨vs, e, k, rr.mono (Le.refl _) (pre_snoc D)⟩
          | dead => exact e4
        · have := (List.getElem?_eq_some_iff.mp e1).1
          rw [ha, r.len] at this; exact absurd this (Nat.lt_irrefl _)
      · rcases getElem?_snoc e2 with e2 | ⟨_, rfl⟩
        · have := (List.getElem?_eq_some_iff.mp e2).1
          rw [ha, r.len] at this; exact absurd this (Nat.lt_irrefl _)
        · exact ⟨h3, vs, h4, hr.1, hr.2.mono (Le.refl _) (pre_snoc _)⟩
/-- .. becomes data -/
theorem Post.adoptZ {D : Addr} {o : HO} (p : Post tabs ρ Z H ρ' Z' S' H') (h1 : H D = none) (h2 : D ∉ ρ') (h3 : Z' D = none) (h4 : H' D = some o) (ho : ∀ q, o ≠ .tbl q) : Post tabs ρ Z H ρ' (upd Z' D o) S' H' where
  pre := p.pre
  zm := fun q u e => by
    have := p.zm q u e
    rw [upd_ne (fun z => by rw [z, h3] at this; cases this)]; exact this
  zf := fun q z h ht => by rw [upd_ne (fun e => h (by rw [e]; exact h1))]; exact p.zf q z h ht
  ev := p.ev
  tb := p.tb
  fresh := p.fresh
  st := by
    have r := p.st
    have zm : Le Z' (upd Z' D o) := fun q u e => by rw [upd_ne (fun z => by rw [z, h3] at e; cases e)]; exact e
    refine ⟨fun q u e => ?_, fun q u => ?_, r.nd, r.len, fun a ob q e1 e2 => ?_, r.tab⟩
    · by_cases hq : q = D
      · subst hq; rw [upd_same] at e; rw [h4]; exact e
      · rw [upd_ne hq] at e; exact r.zle q u e
    · by_cases hq : q = D
      · subst hq; rw [upd_same]; intro z; exact ho u (Option.some.inj z)
      · rw [upd_ne hq]; exact r.zt q u
    · obtain ⟨e3, e4⟩ := r.ob a ob q e1 e2
      have hq : q ≠ D := fun z => h2 (z ▸ List.mem_of_getElem? e2)
      refine ⟨by rw [upd_ne hq]; exact e3, ?_⟩
      cases ob with
      | lst ds => obtain ⟨vs, e, rr⟩ := e4; exact ⟨vs, e, rr.mono zm (Pre.refl _)⟩
      | dct kvs => obtain ⟨vs, e, k, rr⟩ := e4; exact ⟨vs, e, k, rr.mono zm (Pre.refl _)⟩
      | dtt kvs => obtain ⟨vs, e, k, rr⟩ := e4; exact ⟨vs, e, k, rr.mono zm (Pre.refl _)⟩
      | dead => exact e4
end
end Li
end

section
set_option Elab.async false
set_option linter.all false
set_option maxRecDepth 100000
set_option maxHeartbeats 4000000
namespace Li
open PySem L2 GxR
open Classical
/-- Z with the objects of the store from n on -/
noncomputable def fzZ (Z : Hp) (ρ : List Addr) (n : Nat) (H : Hp) : Hp := fun p => match Z p with
  | some o => some o
  | none => if ∃ a : Nat, n ≤ a ∧ ρ[a]? = some p then H p else none
section
variable {tabs : List Addr} {ρ ρ' ρ1 : List Addr} {Z Z' Z1 H H' H1 : Hp} {S S' S1 : Store} {n : Nat}
theorem fzZ_le : Le Z (fzZ Z ρ n H) := fun p o h => by unfold fzZ; rw [h]
theorem fzZ_at {a : Nat} {p : Addr} {o : HO} (hz : Z p = none) (ha : n ≤ a) (hp : ρ[a]? = some p) (ho : H p = some o) : fzZ Z ρ n H p = some o := by
  unfold fzZ; rw [hz]
  show (if ∃ a : Nat, n ≤ a ∧ ρ[a]? = some p then H p else none) = some o
  rw [if_pos ⟨a, ha, hp⟩]; exact ho
theorem mapM_rel {f : D → Option D} {R : D → V → Prop} : ∀ {xs ys : List D} {vs : List V} (_ : ∀ x y v, x ∈ xs → f x = some y → RelD Z' ρ' x v → RelD Z ρ y v), xs.mapM f = some ys → RelDs Z' ρ' xs vs → RelDs Z ρ ys vs
  | [], ys, vs, _, h, r => by
    simp at h; subst h; cases r; exact .nil
  | x :: xs, ys, vs, hf, h, r => by
    rw [List.mapM_cons] at h
    cases e : f x with
    | none => rw [e] at h; simp at h
    | some y =>
      rw [e] at h
      cases e2 : xs.mapM f with
      | none => rw [e2] at h; simp at h
      | some ys' =>
        rw [e2] at h
        simp at h
        subst h
        cases r with
        | cons r1 r2 => exact .cons (hf x y _ List.mem_cons_self e r1) (mapM_rel (R := R) (fun a b v ha => hf a b v (List.mem_cons_of_mem _ ha)) e2 r2)
theorem fz_ok (r : Rst tabs ρ' Z' S' H') : ∀ (k : Nat) (d d' : D) (v : V), fz k n S' d = some d' → RelD Z' ρ' d v → RelD (fzZ Z' ρ' n H') ρ d' v := by
  intro k
  induction k with
  | zero => intro d d' v h; simp [fz] at h
  | succ k ih =>
    intro d d' v h rel
    have mp : ∀ {xs ys : List D} {vs : List V}, xs.mapM (fz k n S') = some ys → RelDs Z' ρ' xs vs → RelDs (fzZ Z' ρ' n H') ρ ys vs := fun hm hr => mapM_rel (R := fun _ _ => True) (fun x y v _ e q => ih x y v e q) hm hr
    cases rel with
    | non => simp [fz] at h; subst h; exact .non
    | bl b => simp [fz] at h; subst h; exact .bl b
    | int i => simp [fz] at h; subst h; exact .int i
    | str x => simp [fz] at h; subst h; exact .str x
    | dct hz => simp [fz] at h; subst h; exact .dct (fzZ_le _ _ hz)
    | dfz hz => simp [fz] at h; subst h; exact .dfz (fzZ_le _ _ hz)
    | tup hz hr =>
      simp only [fz, Option.map_eq_some_iff] at h
      obtain ⟨ys, hm, rfl⟩ := h
      exact .tup (fzZ_le _ _ hz) (mp hm hr)
    | lst hz hr =>
      simp only [fz, Option.map_eq_some_iff] at h
      obtain ⟨ys, hm, rfl⟩ := h
      exact .lst (fzZ_le _ _ hz) (mp hm hr)
    | frz hz hr =>
      simp only [fz, Option.map_eq_some_iff] at h
      obtain ⟨ys, hm, rfl⟩ := h
      exact .frz (fzZ_le _ _ hz) (mp hm hr)
    | ref hp =>
      rename_i a p
      simp only [fz] at h
      by_cases hn : n ≤ a
      · rw [if_pos hn] at h
        cases e : S'[a]? with
        | none => rw [e] at h; cases h
        | some o =>
          rw [e] at h
          cases o with
          | lst xs =>
            simp only [Option.map_eq_some_iff] at h
            obtain ⟨ys, hm, rfl⟩ := h
            obtain ⟨hz, vs, ev, rv⟩ := r.ob a _ p e hp
            exact .lst (fzZ_at hz hn hp ev) (mp hm rv)
          | dct kvs => cases h
          | dtt kvs => cases h
          | dead => cases h
      · rw [if_neg hn] at h; cases h
theorem frz_post (r : Rst tabs ρ Z S H) (p : Post tabs ρ Z H ρ' Z' S' H') (ok : okPre S S') {d d' : D} {v : V} (hf : fz 12 S.length S' d = some d') (rel : RelD Z' ρ' d v) :
    ∃ Z2, Post tabs ρ Z H ρ Z2 (S'.take S.length) H' ∧ RelD Z2 ρ d' v := by
  refine ⟨fzZ Z' ρ' S.length H', ⟨Pre.refl _, p.zm.trans fzZ_le, fun q z h ht => ?_, p.ev, p.tb, fun q h n => absurd h n, ?_⟩, fz_ok p.st 12 d d' v hf rel⟩
  · unfold fzZ
    rw [p.zf q z h ht]
    show (if ∃ a : Nat, S.length ≤ a ∧ ρ'[a]? = some q then H' q else none) = none
    rw [if_neg]
    rintro ⟨b, hb, eb⟩
    refine h (p.fresh q (List.mem_of_getElem? eb) fun hm => ?_)
    obtain ⟨c, hc, ec⟩ := List.getElem_of_mem hm
    have e2 := p.pre c q (by rw [List.getElem?_eq_getElem hc, ec])
    obtain ⟨la, ea⟩ := List.getElem?_eq_some_iff.mp e2
    obtain ⟨lb, eb⟩ := List.getElem?_eq_some_iff.mp eb
    have := (List.getElem_inj p.st.nd).mp (ea.trans eb.symm)
    rw [r.len] at hc
    omega
  have hcut : ∀ a, a < S.length → ∀ q, ρ'[a]? = some q → ρ[a]? = some q := fun a ha q hq => by
    have hl : a < ρ.length := by rw [r.len]; exact ha
    have e := List.getElem?_eq_getElem hl
    have := p.pre a _ e
    rw [hq] at this
    rw [e, Option.some.inj this]
  refine ⟨fun q o e => ?_, fun q u e => ?_, r.nd, by rw [List.length_take, r.len, Nat.min_eq_left ok.1], fun a o q h1 h2 => ?_, p.st.tab⟩
  · unfold fzZ at e
    cases ez : Z' q with
    | some o' => rw [ez] at e; cases e; exact p.st.zle q _ ez
    | none =>
      rw [ez] at e
      have e : (if ∃ a : Nat, S.length ≤ a ∧ ρ'[a]? = some q then H' q else none) = some o := e
      split at e
      · exact e
      · cases e
  · unfold fzZ at e
    cases ez : Z' q with
    | some o' => rw [ez] at e; cases e; exact p.st.zt q _ ez
    | none =>
      rw [ez] at e
      have e : (if ∃ a : Nat, S.length ≤ a ∧ ρ'[a]? = some q then H' q else none) = some (.tbl u) := e
      split at e
      · rename_i hx
        obtain ⟨a, _, ha⟩ := hx
        obtain ⟨_, w, ew, t⟩ := p.st.there ha
        rw [e] at ew
        exact t u (Option.some.inj ew).symm
      · cases e
  · have hlt : a < S.length := by
      have := (List.getElem?_eq_some_iff.mp h1).1
      rw [List.length_take] at this
      omega
    rw [List.getElem?_take_of_lt hlt] at h1
    have h2' := p.pre a q h2
    obtain ⟨hz, ho⟩ := p.st.ob a o q h1 h2'
    refine ⟨?_, ?_⟩
    · unfold fzZ
      rw [hz]
      show (if ∃ a : Nat, S.length ≤ a ∧ ρ'[a]? = some q then H' q else none) = none
      rw [if_neg]
      rintro ⟨b, hb, eb⟩
      obtain ⟨la, ea⟩ := List.getElem?_eq_some_iff.mp h2'
      obtain ⟨lb, eb⟩ := List.getElem?_eq_some_iff.mp eb
      have := (List.getElem_inj p.st.nd).mp (ea.trans eb.symm)
      omega
    · have bd : BdO S.length o := by
        rcases ok.2 a hlt with e | ⟨o', e, b⟩
        · rw [e] at h1
          obtain ⟨_, ho'⟩ := r.ob a o q h1 h2
          cases o with
          | lst ds => obtain ⟨_, _, rr⟩ := ho'; intro x hx; rw [← r.len]; exact rr.bd x hx
          | dct kvs =>
            obtain ⟨_, _, _, rr⟩ := ho'
            intro x hx
            rw [← r.len]
            exact rr.bd x.2 (List.mem_map.mpr ⟨x, hx, rfl⟩)
          | dtt kvs =>
            obtain ⟨_, _, _, rr⟩ := ho'
            intro x hx
            rw [← r.len]
            exact rr.bd x.2 (List.mem_map.mpr ⟨x, hx, rfl⟩)
          | dead => trivial
        · rw [h1] at e; cases e; exact b
      cases o with
      | lst ds => obtain ⟨vs, e, rr⟩ := ho; exact ⟨vs, e, (rr.cut hcut bd).mono fzZ_le (Pre.refl _)⟩
      | dct kvs =>
        obtain ⟨vs, e, k, rr⟩ := ho
        refine ⟨vs, e, k, (rr.cut hcut fun d hd => ?_).mono fzZ_le (Pre.refl _)⟩
        obtain ⟨x, hx, rfl⟩ := List.mem_map.mp hd
        exact bd x hx
      | dtt kvs =>
        obtain ⟨vs, e, k, rr⟩ := ho
        refine ⟨vs, e, k, (rr.cut hcut fun d hd => ?_).mono fzZ_le (Pre.refl _)⟩
        obtain ⟨x, hx, rfl⟩ := List.mem_map.mp hd
        exact bd x hx
      | dead => exact ho
end
end Li
end

section
set_option Elab.async false
set_option linter.all false
set_option maxRecDepth 100000
set_option maxHeartbeats 4000000
namespace Li
open PySem L2
inductive GK where | all | any | sum | anyI deriving DecidableEq
inductive Tg where | one (i : Nat) | many (is : List Nat) deriving DecidableEq
mutual
inductive CE where
  | var (i : Nat) | cst (d : D) | gint (x : Str) (n : Int)
  | bin (op : BOp) (a b : CE) | cmp (op : COp) (a b : CE) | cmp2 (o1 o2 : COp) (a b c : CE)
  | and_ (es : CEs) | or_ (es : CEs) | not_ (a : CE) | neg (a : CE) | ite (c a b : CE)
  | tup (es : CEs) | lst (es : CEs) | idx (a i : CE) | sl (a : CE) (lo hi : CO) | rev (a : CE)
  | call (f : Nat) (es : CEs) | callR (f : Nat) (es : CEs) | bi (b : Bi) (es : CEs) | mt (m : Mt) (o : CE) (es : CEs) | isi (k : Kd) (a : CE)
  | frz (e : CE) | lrg (a b : CE)
  | rvt (a : CE) | dgk (o : CE) (k : Str) | dsp (ks : List Str) (es : CEs)
  | dnt | dgt (o k : CE) | ldv (i j : Nat) | dc2 (t1 : Tg) (i1 : CI) (t2 : Tg) (i2 : CI) (k : CE)
  | lc2 (t1 : Tg) (i1 : CI) (t2 : Tg) (i2 : CI) (e : CE) | an2 (t1 : Tg) (i1 : CI) (t2 : Tg) (i2 : CI) (e : CE)
  | lc (t : Tg) (it : CI) (c : CO) (e : CE) | gn (k : GK) (t : Tg) (it : CI) (c : CO) (e : CE)
inductive CEs where
  | nil | cons (e : CE) (es : CEs)
inductive CO where
  | non | som (e : CE)
inductive CI where
  | seq (e : CE) | rng1 (a : CE) | rng2 (a b : CE) | enum (a : CE) | rrg (a : CE) | rrg2 (a b : CE) | rngd (a b : CE) | rvs (a : CE) | dit (a : CE)
end
def ownT : Tg → List Nat
  | .one i => [i]
  | .many is => is
def wipG (g : GE) (is : List Nat) : GE := is.foldl (fun g i => g.set i none) g
abbrev Fn := Nat → List D → Store → Res D
def setMany : List Nat → List D → GE → GE
  | i :: is, d :: ds, g => setMany is ds (g.set i (some d))
  | _, _, g => g
def setT (S : Store) (t : Tg) (d : D) (g : GE) : Option GE := match t with
  | .one i => some (g.set i (some d))
  | .many is => match asSeq S d with
    | some ds => if ds.length = is.length then some (setMany is ds g) else none
    | none => none
/-- what a walk yields, and what must stay true of the store meanwhile -/
abbrev Itm := List D × (Store → Prop)
def seqI (d : D) (S : Store) : Res Itm := match d with
  | .ref a => match S[a]? with
    | some (.lst xs) => .ok (xs, fun S' => S'[a]? = some (.lst xs)) S
    | _ => .stuck
  | d => match asSeq S d with
    | some xs => .ok (xs, fun _ => True) S
    | none => .stuck
def rngL (lo : Int) (n : Nat) : List D := (List.range n).map fun (i : Nat) => D.int (lo + (i : Int))
def enumL (xs : List D) : List D := xs.mapIdx fun i x => D.tup [.int i, x]
def rngOk (i : Int) : Prop := -(2 ^ 62) ≤ i ∧ i < 2 ^ 62
def Res.noexc {α : Type} (r : Res α) : Res α := match r with
  | .exc _ _ => .stuck
  | r => r
@[simp] theorem Res.noexc_ok {α : Type} (a : α) (S : Store) : (Res.ok a S).noexc = .ok a S := rfl
@[simp] theorem Res.noexc_stuck {α : Type} : (Res.stuck : Res α).noexc = .stuck := rfl
open Classical
noncomputable def lcGo (g : Store → Prop) (step : D → Store → Res (Option D)) : List D → Store → Res (List D)
  | [], S => if g S then .ok [] S else .stuck
  | x :: xs, S => if g S then (step x S).bind fun o S1 => (lcGo g step xs S1).bind fun ds S2 => .ok (match o with | some d => d :: ds | none => ds) S2 else .stuck
noncomputable def allGo (g : Store → Prop) (step : D → Store → Res (Option D)) (stop : Bool) : List D → Store → Res D
  | [], S => if g S then .ok (.bl (!stop)) S else .stuck
  | x :: xs, S => if g S then (step x S).bind fun o S1 => match o with
    | none => allGo g step stop xs S1
    | some (.bl b) => if b = stop then .ok (.bl stop) S1 else allGo g step stop xs S1
    | some _ => .stuck else .stuck
/-- any over ints, by their truth -/
noncomputable def anyIGo (g : Store → Prop) (step : D → Store → Res (Option D)) : List D → Store → Res D
  | [], S => if g S then .ok (.bl false) S else .stuck
  | x :: xs, S => if g S then (step x S).bind fun o S1 => match o with
    | none => anyIGo g step xs S1
    | some (.int i) => if i = 0 then anyIGo g step xs S1 else .ok (.bl true) S1
    | some _ => .stuck else .stuck
def sumFit (zs : List Int) : Prop := zs.length ≤ 1000000 ∧ ∀ z ∈ zs, -(2 ^ 40) ≤ z ∧ z ≤ 2 ^ 40
def stepG (ec : GE → Store → Res Bool) (ee : GE → Store → Res D) (t : Tg) (g : GE) (x : D) (S : Store) : Res (Option D) := match setT S t x g with
  | some g' => (ec g' S).bind fun b S2 => if b = true then (ee g' S2).bind fun d S3 => .ok (some d) S3 else .ok none S2
  | none => .stuck
/-! two clauses -/
noncomputable def lcGo2 (g : Store → Prop) (step : D → Store → Res (List D)) : List D → Store → Res (List D)
  | [], S => if g S then .ok [] S else .stuck
  | x :: xs, S => if g S then (step x S).bind fun ds S1 => (lcGo2 g step xs S1).bind fun es S2 => .ok (ds ++ es) S2 else .stuck
noncomputable def anyGo2 (g : Store → Prop) (step : D → Store → Res D) : List D → Store → Res D
  | [], S => if g S then .ok (.bl false) S else .stuck
  | x :: xs, S => if g S then (step x S).bind fun d S1 => match d with
    | .bl true => .ok (.bl true) S1
    | .bl false => anyGo2 g step xs S1
    | _ => .stuck else .stuck
def in2 {α : Type} (ei : GE → Store → Res Itm) (t1 : Tg) (w : List Nat) (g : GE) (k : GE → Itm → Store → Res α) (x : D) (S : Store) : Res α := match setT S t1 x (wipG g w) with
  | some g' => (ei g' S).bind fun q S2 => k g' q S2
  | none => .stuck
def addKs (acc : List (List Key)) (ks : List (List Key)) : List (List Key) := ks.foldl (fun acc k => if (acc.any fun x => decide (x = k)) = true then acc else acc ++ [k]) acc
def tkeys : List D → Option (List (List Key))
  | [] => some []
  | d :: r => match tkey d, tkeys r with
    | some k, some ks => some (k :: ks)
    | _, _ => none
mutual
noncomputable def ev (F : Fn) : CE → GE → Store → Res D
  | .var i, g, S => match g[i]? with
    | some (some d) => .ok d S
    | _ => .stuck
  | .cst d, _, S => .ok d S
  | .gint _ n, _, S => .ok (.int n) S
  | .bin op a b, g, S => (ev F a g S).bind fun x S1 => (ev F b g S1).bind fun y S2 => bopR op x y S2
  | .cmp op a b, g, S => (ev F a g S).bind fun x S1 => (ev F b g S1).bind fun y S2 => copR op x y S2
  | .cmp2 o1 o2 a b c, g, S => (ev F a g S).bind fun x S1 => (ev F b g S1).bind fun y S2 => (copR o1 x y S2).bind fun r S3 => match r with
    | .bl true => (ev F c g S3).bind fun z S4 => copR o2 y z S4
    | .bl false => .ok (.bl false) S3
    | _ => .stuck
  | .and_ es, g, S => evAnd F es g S
  | .or_ es, g, S => evOr F es g S
  | .not_ a, g, S => (ev F a g S).bind fun x S1 => match x with
    | .bl b => .ok (.bl (!b)) S1
    | _ => .stuck
  | .neg a, g, S => (ev F a g S).bind fun x S1 => match x with
    | .int i => .ok (.int (-i)) S1
    | _ => .stuck
  | .ite c a b, g, S => (evT F c g S).bind fun t S1 => if t = true then ev F a g S1 else ev F b g S1
  | .tup es, g, S => (evs F es g S).bind fun ds S1 => if ds.length ≤ sizeLine then .ok (.tup ds) S1 else .stuck
  | .lst es, g, S => (evs F es g S).bind fun ds S1 => if ds.length ≤ sizeLine then alloc (.lst ds) S1 else .stuck
  | .idx a i, g, S => (ev F a g S).bind fun x S1 => (ev F i g S1).bind fun y S2 => idxR x y S2
  | .sl a lo hi, g, S => (ev F a g S).bind fun x S1 => (evO F lo g S1).bind fun l S2 => (evO F hi g S2).bind fun h S3 => slR x l h S3
  | .rev a, g, S => (ev F a g S).bind fun x S1 => revR x S1
  | .call f es, g, S => (evs F es g S).bind fun ds S1 => frzR S1 (F f ds S1)
  | .callR f es, g, S => (evs F es g S).bind fun ds S1 => F f ds S1
  | .bi b es, g, S => (evs F es g S).bind fun ds S1 => biR b ds S1
  | .mt m o es, g, S => (ev F o g S).bind fun x S1 => match asM S1 x with
    | some _ => (evs F es g S1).bind fun ds S2 => mtR m x ds S2
    | none => .stuck
  | .isi k a, g, S => (ev F a g S).bind fun x S1 => isR k x S1
  | .frz a, g, S => frzR S (ev F a g S)
  | .lrg a b, g, S => (ev F a g S).bind fun x S1 => (ev F b g S1).bind fun y S2 => match x, y with
    | .int i, .int j => if RgOk i j then alloc (.lst (rngL i (j - i).toNat)) S2 else .stuck
    | _, _ => .stuck
  | .lc t it c e, g, S => (evI F it g S).bind fun p S1 => (lcGo p.2 (stepG (evC F c) (ev F e) t g) p.1 S1).noexc.bind fun ds S2 => if ds.length ≤ sizeLine then alloc (.lst ds) S2 else .stuck
  | .rvt a, g, S => (ev F a g S).bind fun x S1 => match asSeq S1 x with
    | some xs => .ok (.tup xs.reverse) S1
    | none => .stuck
  | .dgk o k, g, S => (ev F o g S).bind fun x S1 => match getK x k S1 with
    | some d => .ok d S1
    | none => .stuck
  | .dsp ks es, g, S => (evs F es g S).noexc.bind fun ds S1 => if ds.length = ks.length then alloc (.dct (mkK ks ds)) S1 else .stuck
  | .lc2 t1 i1 t2 i2 e, g, S => (evI F i1 g S).bind fun p S1 => (lcGo2 p.2 (in2 (evI F i2) t1 (ownT t2) g fun g' q S2 => lcGo q.2 (stepG (fun _ S => .ok true S) (ev F e) t2 g') q.1 S2) p.1 S1).noexc.bind fun ds S2 => if ds.length ≤ sizeLine then alloc (.lst ds) S2 else .stuck
  | .an2 t1 i1 t2 i2 e, g, S => (evI F i1 g S).bind fun p S1 => (anyGo2 p.2 (in2 (evI F i2) t1 (ownT t2) g fun g' q S2 => allGo q.2 (stepG (fun _ S => .ok true S) (ev F e) t2 g') true q.1 S2) p.1 S1).noexc
  | .dnt, _, S => alloc (.dtt []) S
  | .dgt o k, g, S => (ev F o g S).bind fun x S1 => (ev F k g S1).bind fun y S2 => match getT x y S2 with
    | some d => .ok d S2
    | none => .stuck
  | .ldv i j, g, S => match g[j]? with
    | some (some d) => (match tabT d S with
      | some kvs => if kvs.length < sizeLine ∧ i < g.length ∧ (kvs.map (·.1)).Nodup then alloc (.lst (kvs.map (·.2))) S else .stuck
      | none => .stuck)
    | _ => .stuck
  | .dc2 t1 i1 t2 i2 k, g, S => (evI F i1 g S).bind fun p S1 => (lcGo2 p.2 (in2 (evI F i2) t1 (ownT t2) g fun g' q S2 => lcGo q.2 (stepG (fun _ S => .ok true S) (ev F k) t2 g') q.1 S2) p.1 S1).noexc.bind fun ds S2 => match tkeys ds with
    | some ks => if ks.length < sizeLine then .ok (.dfz (addKs [] ks)) S2 else .stuck
    | none => .stuck
  | .gn k t it c e, g, S => (evI F it g S).bind fun p S1 => match k with
      | .all => (allGo p.2 (stepG (evC F c) (ev F e) t g) false p.1 S1).noexc
      | .any => (allGo p.2 (stepG (evC F c) (ev F e) t g) true p.1 S1).noexc
      | .anyI => (anyIGo p.2 (stepG (evC F c) (ev F e) t g) p.1 S1).noexc
      | .sum => (lcGo p.2 (stepG (evC F c) (ev F e) t g) p.1 S1).noexc.bind fun ds S2 => match intsD ds with
          | some zs => if sumFit zs then .ok (.int zs.sum) S2 else .stuck
          | none => .stuck
noncomputable def evs (F : Fn) : CEs → GE → Store → Res (List D)
  | .nil, _, S => .ok [] S
  | .cons e es, g, S => (ev F e g S).bind fun d S1 => (evs F es g S1).bind fun ds S2 => .ok (d :: ds) S2
noncomputable def evO (F : Fn) : CO → GE → Store → Res (Option Int)
  | .non, _, S => .ok none S
  | .som e, g, S => (ev F e g S).bind fun d S1 => match d with
    | .int i => .ok (some i) S1
    | _ => .stuck
noncomputable def evC (F : Fn) : CO → GE → Store → Res Bool
  | .non, _, S => .ok true S
  | .som e, g, S => evT F e g S
noncomputable def evI (F : Fn) : CI → GE → Store → Res Itm
  | .seq e, g, S => (ev F e g S).bind fun d S1 => seqI d S1
  | .rng1 a, g, S => (ev F a g S).bind fun d S1 => match d with
    | .int j => if rngOk j then .ok (rngL 0 j.toNat, fun _ => True) S1 else .stuck
    | _ => .stuck
  | .rng2 a b, g, S => (ev F a g S).bind fun x S1 => (ev F b g S1).bind fun y S2 => match x, y with
    | .int i, .int j => if rngOk i ∧ rngOk j then .ok (rngL i (j - i).toNat, fun _ => True) S2 else .stuck
    | _, _ => .stuck
  | .rrg2 a b, g, S => (ev F a g S).bind fun x S1 => (ev F b g S1).bind fun y S2 => match x, y with
    | .int i, .int j => if rngOk i ∧ rngOk j then .ok ((rngL i (j - i).toNat).reverse, fun _ => True) S2 else .stuck
    | _, _ => .stuck
  | .rngd a b, g, S => (ev F a g S).bind fun x S1 => (ev F b g S1).bind fun y S2 => match x, y with
    | .int i, .int j => if rngOk i ∧ rngOk j then .ok ((rngL (j + 1) (i - j).toNat).reverse, fun _ => True) S2 else .stuck
    | _, _ => .stuck
  | .rrg a, g, S => (ev F a g S).bind fun d S1 => match d with
    | .int j => if rngOk j then .ok ((rngL 0 j.toNat).reverse, fun _ => True) S1 else .stuck
    | _ => .stuck
  | .rvs a, g, S => (ev F a g S).bind fun d S1 => match asSeq S1 d with
    | some xs => .ok (xs.reverse, fun S' => asSeq S' d = some xs) S1
    | none => .stuck
  | .dit a, g, S => (ev F a g S).bind fun d S1 => match d with
    | .dfz ks => .ok (ks.map dTup, fun _ => True) S1
    | _ => .stuck
  | .enum a, g, S => (ev F a g S).bind fun d S1 => match asSeq S1 d with
    | some xs => .ok (enumL xs, fun S' => asSeq S' d = some xs) S1
    | none => .stuck
noncomputable def evT (F : Fn) : CE → GE → Store → Res Bool
  | .and_ es, g, S => evTA F es g S
  | .or_ es, g, S => evTO F es g S
  | .not_ a, g, S => (evT F a g S).bind fun b S1 => .ok (!b) S1
  | e, g, S => (ev F e g S).bind fun d S1 => match truD S1 d with
    | some b => .ok b S1
    | none => .stuck
noncomputable def evAnd (F : Fn) : CEs → GE → Store → Res D
  | .nil, _, _ => .stuck
  | .cons e .nil, g, S => ev F e g S
  | .cons e es, g, S => (ev F e g S).bind fun d S1 => match d with
    | .bl true => evAnd F es g S1
    | .bl false => .ok (.bl false) S1
    | _ => .stuck
noncomputable def evOr (F : Fn) : CEs → GE → Store → Res D
  | .nil, _, _ => .stuck
  | .cons e .nil, g, S => ev F e g S
  | .cons e es, g, S => (ev F e g S).bind fun d S1 => match d with
    | .bl false => evOr F es g S1
    | .bl true => .ok (.bl true) S1
    | _ => .stuck
noncomputable def evTA (F : Fn) : CEs → GE → Store → Res Bool
  | .nil, _, _ => .stuck
  | .cons e .nil, g, S => evT F e g S
  | .cons e es, g, S => (evT F e g S).bind fun b S1 => if b = true then evTA F es g S1 else .ok false S1
noncomputable def evTO (F : Fn) : CEs → GE → Store → Res Bool
  | .nil, _, _ => .stuck
  | .cons e .nil, g, S => evT F e g S
  | .cons e es, g, S => (evT F e g S).bind fun b S1 => if b = true then .ok true S1 else evTO F es g S1
end
end Li
end

section
set_option Elab.async false
set_option linter.all false
set_option maxRecDepth 100000
set_option maxHeartbeats 4000000
namespace Li
open PySem L2
/- the exceptions' classes: those that are raised; (class, name in an except clause) and whether it catches; (class, name) and what isinstance says -/
structure XC where
  xs : List Str
  xm : List ((Str × Str) × Bool)
  xk : List ((Str × Str) × Bool)
  xn : List Str := []
  file : Str := ""
def noX : XC := ⟨[], [], [], [], ""⟩
/-- where one stands in the text: the places of the names, their kinds, the names of the functions, which cells may be stored -/
structure SC where
  N : List Str
  sn : List (Str × NameKind)
  co : Str → Bool
  ft : Nat → Option Str
  gi : Str → Option Int
  gen : Bool
  x : XC := noX
def visC (c : SC) (x : Str) : Bool := match c.sn.lookup x with
  | some .local => true
  | some .cell => true
  | some .free => true
  | _ => false
def storeC (c : SC) (x : Str) : Bool := match c.sn.lookup x with
  | some .local => true
  | some .cell => c.co x
  | _ => false
def glC (c : SC) (x : Str) : Bool := match c.sn.lookup x with
  | some .globalImplicit => true
  | _ => false
def dbg (x : Str) : Bool := x == ("__debug__" : Str)
def cdi (x : Str) : Bool := x == ("__classdict__" : Str)
def bopS : BOp → Operator
  | .add => .Add | .sub => .Sub | .mul => .Mult | .fdiv => .FloorDiv | .mod => .Mod | .pow => .Pow
def copS : COp → CmpOp
  | .lt => .Lt | .le => .LtE | .gt => .Gt | .ge => .GtE | .eq => .Eq | .ne => .NotEq | .is_ => .Is | .isnot => .IsNot | .in_ => .In | .notin => .NotIn
def opE : Operator → Operator → Bool
  | .Add, .Add => true | .Sub, .Sub => true | .Mult, .Mult => true | .FloorDiv, .FloorDiv => true | .Mod, .Mod => true | .Pow, .Pow => true
  | _, _ => false
theorem opE_eq {a b : Operator} (h : opE a b = true) : a = b := by cases a <;> cases b <;> first | rfl | cases h
def cmE : CmpOp → CmpOp → Bool
  | .Lt, .Lt => true | .LtE, .LtE => true | .Gt, .Gt => true | .GtE, .GtE => true | .Eq, .Eq => true | .NotEq, .NotEq => true | .Is, .Is => true | .IsNot, .IsNot => true | .In, .In => true | .NotIn, .NotIn => true
  | _, _ => false
theorem cmE_eq {a b : CmpOp} (h : cmE a b = true) : a = b := by cases a <;> cases b <;> first | rfl | cases h
def biS : Bi → Str
  | .len => "len" | .max2 => "max" | .min2 => "min" | .max1 => "max" | .min1 => "min" | .int1 => "int" | .list1 => "list" | .tuple1 => "tuple" | .sum1 => "sum" | .sorted1 => "sorted" | .abs1 => "abs" | .any1 => "any"
def mtS : Mt → Str
  | .append => "append" | .pop => "pop" | .insert => "insert"
def mtA : Mt → Nat
  | .append => 1 | .pop => 0 | .insert => 2
def kdS : Kd → Str
  | .bool => "bool" | .list => "list" | .tuple => "tuple" | .dict => "dict"
def gkS : GK → Str
  | .all => "all" | .any => "any" | .sum => "sum" | .anyI => "any"
/-- names of the text with their places -/
def ownN (c : SC) (t : Tg) : List (Str × Nat) := (ownT t).filterMap fun i => (c.N[i]?).map fun x => (x, i)
def relN (sn names : List (Str × NameKind)) : List (Str × NameKind) := names.map fun (n, k) => if (k == .free && sn.lookup n == some .cell) then (n, .cell) else (n, k)
def scBlk (c : SC) (sc : Scope) : SC := { c with sn := relN c.sn sc.names, co := fun x => sc.names.lookup x == some .cell }
def scGen (c : SC) (sc : Scope) : SC := { c with sn := sc.names, co := fun _ => false, gen := false }
def gokC (c : SC) (sc : Scope) (own : List (Str × Nat)) : Bool :=
  !sc.isCoroutine && (sc.names.all fun y => match y.2 with | .cell => false | _ => true) && (match sc.names.lookup (".0" : Str) with | some .local => true | _ => false)
/-- is this the name x? -/
def itT : CI → Tg → Bool
  | .enum _, .many _ => true
  | .enum _, .one _ => false
  | _, _ => true
def nmE (e : Expr) (x : Str) : Bool := match e with
  | .Name y _ => y == x
  | _ => false
def chkTs (c : SC) : List Nat → List Expr → Bool
  | [], [] => true
  | i :: is, .Name x _ :: es => (match c.N[i]? with | some y => y == x | none => false) && storeC c x && chkTs c is es
  | _, _ => false
def chkT (c : SC) (t : Tg) (e : Expr) : Bool := match t, e with
  | .one i, .Name x _ => (match c.N[i]? with | some y => y == x | none => false) && storeC c x
  | .many is, .Tuple es _ _ => chkTs c is es
  | _, _ => false
def noneE (e : Expr) : Bool := match e with
  | .Constant .none _ _ => true
  | _ => false
def nlE : Expr → Bool
  | .List _ _ => false
  | _ => true
def okF : Expr → Bool
  | .ListComp _ _ _ _ => true
  | .List _ _ => true
  | .BinOp _ _ _ _ => true
  | .Subscript _ _ _ => true
  | .Call _ _ _ _ => true
  | .Tuple _ _ _ => true
  | .IfExp _ _ _ _ => true
  | _ => false
def rcvE : Expr → Bool
  | .Name _ _ => true
  | .Subscript _ _ _ => true
  | _ => false
def nfz : CE → Bool
  | .frz _ => false
  | _ => true
mutual
/-- may stand as a test -/
def tstE : CE → Bool
  | .ite _ _ _ => false
  | .frz _ => false
  | .not_ a => tstE a
  | .and_ es => tstEs es
  | .or_ es => tstEs es
  | _ => true
def tstEs : CEs → Bool
  | .nil => true
  | .cons e es => tstE e && tstEs es
end
def dctX : List (Str × Fl) → List (Option Expr) → List Expr → Bool
  | [], [], [] => true
  | (k, .bl b) :: r, some (.Constant (.str k') _ _) :: ks, .Constant (.bool b') _ _ :: vs => k == k' && b == b' && dctX r ks vs
  | (k, .str b) :: r, some (.Constant (.str k') _ _) :: ks, .Constant (.str b') _ _ :: vs => k == k' && b == b' && dctX r ks vs
  | _, _, _ => false
def keyX : List Str → List (Option Expr) → Bool
  | [], [] => true
  | k :: r, some (.Constant (.str k') _ _) :: ks => k == k' && keyX r ks
  | _, _ => false
def chkV (c : SC) (i : Nat) (e : Expr) : Bool := match e with
  | .Name x _ => (match c.N[i]? with | some y => y == x | none => false) && visC c x && !dbg x && !cdi x
  | _ => false
mutual
def chkE (c : SC) : CE → Expr → Bool
  | .var i, .Name x _ => (match c.N[i]? with | some y => y == x | none => false) && visC c x && !dbg x && !cdi x
  | .cst (.int i), .Constant (.int j) _ _ => i == j
  | .cst (.bl b), .Constant (.bool b') _ _ => b == b'
  | .cst .non, .Constant .none _ _ => true
  | .cst (.str x), .Constant (.str y) _ _ => x == y
  | .cst (.dct kvs), .Dict keys vals _ => dctX kvs keys vals && decide (kvs.length ≤ 15) && !kvs.isEmpty && decide (kvs.map (·.1)).Nodup
  | .gint x n, .Name y _ => x == y && glC c x && !dbg x && c.gi x == some n
  | .bin op a b, .BinOp ea o eb _ => opE o (bopS op) && chkE c a ea && chkE c b eb
  | .cmp op a b, .Compare ea [o] [eb] _ => cmE o (copS op) && chkE c a ea && chkE c b eb && !behindInMarks o eb
  | .cmp2 o1 o2 a b d, .Compare ea [p1, p2] [eb, ed] _ => cmE p1 (copS o1) && cmE p2 (copS o2) && chkE c a ea && chkE c b eb && chkE c d ed && !lastMarks [p1, p2] [eb, ed]
  | .and_ es, .BoolOp .And xs _ => chkEs c es xs && !xs.isEmpty
  | .or_ es, .BoolOp .Or xs _ => chkEs c es xs && !xs.isEmpty
  | .not_ a, .UnaryOp .Not e _ => chkE c a e
  | .neg a, .UnaryOp .USub e _ => chkE c a e
  | .ite t a b, .IfExp et ea eb _ => tstE t && chkE c t et && chkE c a ea && chkE c b eb
  | .tup es, .Tuple xs _ _ => chkEs c es xs
  | .lst es, .List xs _ => chkEs c es xs
  | .idx a i, .Subscript ea ei _ => chkE c a ea && chkE c i ei
  | .sl a lo hi, .Subscript ea (.Slice l h none _) _ => chkE c a ea && chkO c lo l && chkO c hi h
  | .rev a, .Subscript ea (.Slice none none (some (.UnaryOp .USub (.Constant (.int 1) _ _) _)) _) _ => chkE c a ea
  | .call f es, .Call (.Name x _) (e :: xs) [] _ => c.ft f == some x && glC c x && !dbg x && chkEs c es (e :: xs)
  | .callR f es, .Call (.Name x _) (e :: xs) [] _ => c.ft f == some x && glC c x && !dbg x && chkEs c es (e :: xs)
  | .bi b es, .Call (.Name x _) (e :: xs) [] _ => x == biS b && glC c x && chkEs c es (e :: xs)
  | .lrg a b, .Call (.Name x _) [.Call (.Name y _) [e, f] [] _] [] _ => x == ("list" : Str) && glC c x && y == ("range" : Str) && glC c y && chkE c a e && chkE c b f
  | .mt m o es, .Call (.Attribute eo nm ap) xs [] cp => nm == mtS m && xs.length == mtA m && rcvE eo && chkE c o eo && chkEs c es xs && ap.endLine == cp.line
  | .frz a, e => okF e && nfz a && chkE c a e
  | .isi k a, .Call (.Name x _) [e, .Name y _] [] _ => x == ("isinstance" : Str) && glC c x && y == kdS k && glC c y && chkE c a e
  | .lc t it cond e, .ListComp elt [⟨tg, iter, ifs, 0⟩] scope _ =>
    chkI c it iter && blkC c.N { scope with names := c.sn } scope (ownN c t) && (ownN c t).length == (ownT t).length && itT it t && chkT (scBlk c scope) t tg && chkC (scBlk c scope) cond ifs && chkE (scBlk c scope) e elt
  | .rvt a, .Call (.Name x _) [.Call (.Name y _) [e] [] _] [] _ => x == ("tuple" : Str) && glC c x && y == ("reversed" : Str) && glC c y && chkE c a e
  | .dnt, .Dict [] [] _ => true
  | .dgt o k, .Subscript eo ek _ => chkE c o eo && chkE c k ek
  | .ldv i j, .ListComp (.Subscript eo ex _) [⟨tg, iter, [], 0⟩] scope _ =>
    chkV c j iter && blkC c.N { scope with names := c.sn } scope (ownN c (.one i)) && (ownN c (.one i)).length == 1 && chkT (scBlk c scope) (.one i) tg && chkV (scBlk c scope) j eo && chkV (scBlk c scope) i ex && decide (i ≠ j)
  | .dc2 t1 i1 t2 i2 k, .DictComp kx (.Constant (.bool true) _ _) [⟨tg, iter, [], 0⟩, ⟨tg1, iter1, [], 0⟩] scope _ =>
    chkI c i1 iter && blkC c.N { scope with names := c.sn } scope (ownN c t1 ++ ownN c t2) && (ownN c t1).length == (ownT t1).length && (ownN c t2).length == (ownT t2).length && itT i1 t1 && itT i2 t2 && chkT (scBlk c scope) t1 tg && chkI (scBlk c scope) i2 iter1 && chkT (scBlk c scope) t2 tg1 && chkE (scBlk c scope) k kx
  | .dgk o k, .Subscript eo (.Constant (.str x) _ _) _ => chkE c o eo && k == x
  | .dsp ks es, .Dict keys vals _ => keyX ks keys && chkEs c es vals && decide (ks.length ≤ 15) && !ks.isEmpty && decide ks.Nodup && decide (ks.length = vals.length)
  | .lc2 t1 i1 t2 i2 e, .ListComp elt [⟨tg, iter, [], 0⟩, ⟨tg1, iter1, [], 0⟩] scope _ =>
    chkI c i1 iter && blkC c.N { scope with names := c.sn } scope (ownN c t1 ++ ownN c t2) && (ownN c t1).length == (ownT t1).length && (ownN c t2).length == (ownT t2).length && itT i1 t1 && itT i2 t2 && chkT (scBlk c scope) t1 tg && chkI (scBlk c scope) i2 iter1 && chkT (scBlk c scope) t2 tg1 && chkE (scBlk c scope) e elt
  | .an2 t1 i1 t2 i2 e, .Call (.Name x _) [.GeneratorExp elt [⟨tg, iter, [], 0⟩, ⟨tg1, iter1, [], 0⟩] scope _] [] _ =>
    c.gen && nlE iter && x == ("any" : Str) && glC c x && chkI c i1 iter && blkC c.N { scope with names := c.sn } scope (ownN c t1 ++ ownN c t2) && gokC c scope (ownN c t1 ++ ownN c t2) && (ownN c t1).length == (ownT t1).length && (ownN c t2).length == (ownT t2).length && itT i1 t1 && itT i2 t2 && chkT (scGen c scope) t1 tg && chkI (scGen c scope) i2 iter1 && chkT (scGen c scope) t2 tg1 && chkE (scGen c scope) e elt
  | .gn k t it cond e, .Call (.Name x _) [.GeneratorExp elt [⟨tg, iter, ifs, 0⟩] scope _] [] _ =>
    c.gen && nlE iter && x == gkS k && glC c x && chkI c it iter && blkC c.N { scope with names := c.sn } scope (ownN c t) && gokC c scope (ownN c t) && (ownN c t).length == (ownT t).length && itT it t && chkT (scGen c scope) t tg && chkC (scGen c scope) cond ifs && chkE (scGen c scope) e elt
  | _, _ => false
def chkEs (c : SC) : CEs → List Expr → Bool
  | .nil, [] => true
  | .cons e es, x :: xs => chkE c e x && chkEs c es xs
  | _, _ => false
def chkO (c : SC) : CO → Option Expr → Bool
  | .non, none => true
  | .som e, some x => chkE c e x
  | _, _ => false
def chkC (c : SC) : CO → List Expr → Bool
  | .non, [] => true
  | .som e, [x] => tstE e && chkE c e x
  | _, _ => false
def chkI (c : SC) : CI → Expr → Bool
  | .rng1 a, .Call (.Name x _) [e] [] _ => x == ("range" : Str) && glC c x && chkE c a e
  | .rng2 a b, .Call (.Name x _) [e, f] [] _ => x == ("range" : Str) && glC c x && chkE c a e && chkE c b f
  | .rrg a, .Call (.Name x _) [.Call (.Name y _) [e] [] _] [] _ => x == ("reversed" : Str) && glC c x && y == ("range" : Str) && glC c y && chkE c a e
  | .rrg2 a b, .Call (.Name x _) [.Call (.Name y _) [e, f] [] _] [] _ => x == ("reversed" : Str) && glC c x && y == ("range" : Str) && glC c y && chkE c a e && chkE c b f
  | .rngd a b, .Call (.Name x _) [e, f, .UnaryOp .USub (.Constant (.int 1) _ _) _] [] _ => x == ("range" : Str) && glC c x && chkE c a e && chkE c b f
  | .rvs a, .Call (.Name x _) [e] [] _ => x == ("reversed" : Str) && glC c x && chkE c a e
  | .dit a, e => chkE c a e
  | .enum a, .Call (.Name x _) [e] [] _ => x == ("enumerate" : Str) && glC c x && chkE c a e
  | .seq a, e => chkE c a e
  | _, _ => false
end
end Li
end

section
set_option Elab.async false
set_option linter.all false
set_option maxRecDepth 100000
set_option maxHeartbeats 4000000
namespace Li
open PySem PySem.Spec PyProof.Rows L2 GxR
/-- an exception of the text: its class is what the module's name holds; its field -/
def ExR (mg : Str → Option Value) (Z : Hp) (ρ : List Addr) (e : Ex) (c : Value) (dx : Option Addr) (H : Hp) : Prop :=
  mg e.nm = some c ∧ match e.val with
    | none => dx = none
    | some d => ∃ a v, dx = some a ∧ H a = some (.xd [("name", v)]) ∧ RelD Z ρ d v
section
variable {tabs : List Addr} {mg : Str → Option Value} {E : XK} {α β γ δ : Type}
def Sat (tabs : List Addr) (mg : Str → Option Value) (E : XK) (R : Hp → List Addr → α → β → Prop) (Q : β → Hp → Prop) (ρ : List Addr) (Z H : Hp) : Res α → Prop
  | .ok a S' => ∀ b ρ' Z' H', Post tabs ρ Z H ρ' Z' S' H' → R Z' ρ' a b → Q b H'
  | .exc e S' => ∀ c dx ρ' Z' H', Post tabs ρ Z H ρ' Z' S' H' → ExR mg Z' ρ' e c dx H' → E c dx H'
  | .stuck => False
def tG (tabs : List Addr) (mg : Str → Option Value) (E : XK) (R : Hp → List Addr → α → β → Prop) (m : GE → Store → Res α) : L2.St → Hp → (β → Hp → Prop) → Prop := fun σ H Q =>
  ∃ ρ Z S g, Rst tabs ρ Z S H ∧ SlR Z ρ g σ ∧ Sat tabs mg E R Q ρ Z H (m g S)
variable {R : Hp → List Addr → α → β → Prop} {R1 : Hp → List Addr → γ → δ → Prop} {Q Q' : β → Hp → Prop} {ρ ρ' : List Addr} {Z Z' H H' : Hp} {S S' : Store} {g : GE} {σ : L2.St} {r : Res α}
theorem Sat.trans (p : Post tabs ρ Z H ρ' Z' S' H') (h : Sat tabs mg E R Q ρ Z H r) : Sat tabs mg E R Q ρ' Z' H' r := by
  cases r with
  | ok a S => exact fun b ρ1 Z1 H1 q rr => h b ρ1 Z1 H1 (p.trans q) rr
  | exc e S => exact fun c dx ρ1 Z1 H1 q rr => h c dx ρ1 Z1 H1 (p.trans q) rr
  | stuck => exact h
theorem Sat.mono (h : Sat tabs mg E R Q ρ Z H r) (hq : ∀ b H1, Q b H1 → Q' b H1) : Sat tabs mg E R Q' ρ Z H r := by
  cases r with
  | ok a S => exact fun b ρ1 Z1 H1 q rr => hq _ _ (h b ρ1 Z1 H1 q rr)
  | exc e S => exact h
  | stuck => exact h
theorem sat_bind {m : GE → Store → Res γ} {k : γ → Store → Res α} (rs : Rst tabs ρ Z S H) (sl : SlR Z ρ g σ) (h : Sat tabs mg E R Q ρ Z H ((m g S).bind k)) :
    tG tabs mg E R1 m σ H (fun c H1 => ∃ ρ1 Z1 S1 a, Post tabs ρ Z H ρ1 Z1 S1 H1 ∧ R1 Z1 ρ1 a c ∧ Sat tabs mg E R Q ρ1 Z1 H1 (k a S1)) := by
  refine ⟨ρ, Z, S, g, rs, sl, ?_⟩
  cases e : m g S with
  | ok a S1 =>
    rw [e] at h
    exact fun b ρ1 Z1 H1 q rr => ⟨ρ1, Z1, S1, a, q, rr, Sat.trans q h⟩
  | exc x S1 => rw [e] at h; exact h
  | stuck => rw [e] at h; exact h
theorem PE.imp {X : Cx} {e : Expr} {t t' : TE} (h : PE X e t) (hi : ∀ σ H Q, t' σ H Q → t σ H Q) : PE X e t' := ⟨fun pins s σ H Q I q => h.run pins s σ H Q I (hi σ H Q q)⟩
theorem PT.imp {X : Cx} {e : Expr} {t t' : TT} (h : PT X e t) (hi : ∀ σ H Q, t' σ H Q → t σ H Q) : PT X e t' := ⟨fun pins s σ H Q I q => h.run pins s σ H Q I (hi σ H Q q)⟩
theorem PW.imp {X : Cx} {e : Expr} {t t' : TT} (h : PW X e t) (hi : ∀ σ H Q, t' σ H Q → t σ H Q) : PW X e t' := ⟨fun wh pins s σ H Q I q => h.run wh pins s σ H Q I (hi σ H Q q)⟩
theorem PA.imp {X : Cx} {e : List Expr} {t t' : TA} (h : PA X e t) (hi : ∀ σ H Q, t' σ H Q → t σ H Q) : PA X e t' := ⟨fun pos pins s σ H Q I q => h.run pos pins s σ H Q I (hi σ H Q q)⟩
theorem PO.imp {X : Cx} {e : Option Expr} {t t' : TO} (h : PO X e t) (hi : ∀ σ H Q, t' σ H Q → t σ H Q) : PO X e t' := ⟨fun pins s σ H Q I q => h.run pins s σ H Q I (hi σ H Q q)⟩
theorem PI.imp {X : Cx} {tg e : Expr} {t t' : TI} (h : PI X tg e t) (hi : ∀ σ H Q, t' σ H Q → t σ H Q) : PI X tg e t' := ⟨fun pins s σ H Q I q => h.run pins s σ H Q I (hi σ H Q q)⟩
theorem PTs.imp {X : Cx} {e : List Expr} {t t' : TT} (h : PTs X e t) (hi : ∀ σ H Q, t' σ H Q → t σ H Q) : PTs X e t' := ⟨fun pins s σ H Q I q => h.run pins s σ H Q I (hi σ H Q q)⟩
end

/-! ### lists, tuples read -/
section
variable {tabs : List Addr} {mg : Str → Option Value} {E : XK} {K : PySem.W.Frag} {ρ : List Addr} {Z H : Hp} {S : Store}
theorem asL_rel (rs : Rst tabs ρ Z S H) {d : D} {v : V} {xs : List D} (r : RelD Z ρ d v) (h : asL S d = some xs) : ∃ p vs, v = .ref p ∧ SqL K H p vs ∧ RelDs Z ρ xs vs := by
  cases r with
  | lst hz hr => simp only [asL] at h; cases h; exact ⟨_, _, rfl, .inl (.inl (rs.zle _ _ hz)), hr⟩
  | frz hz hr => simp only [asL] at h; cases h; exact ⟨_, _, rfl, .inl (.inr ⟨_, rs.zle _ _ hz⟩), hr⟩
  | ref hp =>
    rename_i a p
    simp only [asL] at h
    cases e : S[a]? with
    | none => rw [e] at h; cases h
    | some o =>
      rw [e] at h
      cases o with
      | lst ys =>
        cases h
        obtain ⟨_, vs, ev, rv⟩ := rs.ob a _ p e hp
        exact ⟨p, vs, rfl, .inl (.inl ev), rv⟩
      | dct _ => cases h
      | dtt _ => cases h
      | dead => cases h
  | non => simp only [asL] at h; cases h
  | bl b => simp only [asL] at h; cases h
  | int i => simp only [asL] at h; cases h
  | str x => simp only [asL] at h; cases h
  | dct _ => simp only [asL] at h; cases h
  | dfz _ => simp only [asL] at h; cases h
  | tup _ _ => simp only [asL] at h; cases h
theorem asM_rel (rs : Rst tabs ρ Z S H) {d : D} {v : V} {xs : List D} (r : RelD Z ρ d v) (h : asM S d = some xs) : ∃ p vs, v = .ref p ∧ H p = some (.lst vs) ∧ RelDs Z ρ xs vs := by
  cases r with
  | lst hz hr => simp only [asM] at h; cases h; exact ⟨_, _, rfl, rs.zle _ _ hz, hr⟩
  | ref hp =>
    rename_i a p
    simp only [asM] at h
    cases e : S[a]? with
    | none => rw [e] at h; cases h
    | some o =>
      rw [e] at h
      cases o with
      | lst ys =>
        cases h
        obtain ⟨_, vs, ev, rv⟩ := rs.ob a _ p e hp
        exact ⟨p, vs, rfl, ev, rv⟩
      | dct _ => cases h
      | dtt _ => cases h
      | dead => cases h
  | non => simp only [asM] at h; cases h
  | bl b => simp only [asM] at h; cases h
  | int i => simp only [asM] at h; cases h
  | str x => simp only [asM] at h; cases h
  | dct _ => simp only [asM] at h; cases h
  | dfz _ => simp only [asM] at h; cases h
  | tup _ _ => simp only [asM] at h; cases h
  | frz _ _ => simp only [asM] at h; cases h
theorem asSeq_rel (rs : Rst tabs ρ Z S H) {d : D} {v : V} {xs : List D} (r : RelD Z ρ d v) (h : asSeq S d = some xs) : ∃ p vs, v = .ref p ∧ (SqL K H p vs ∨ SqT K H p vs) ∧ RelDs Z ρ xs vs := by
  unfold asSeq at h
  cases e : asT d with
  | some ys =>
    rw [e] at h; cases h
    cases r with
    | tup hz hr => simp only [asT] at e; cases e; exact ⟨_, _, rfl, .inr (.inl (.inl (rs.zle _ _ hz))), hr⟩
    | _ => simp only [asT] at e; cases e
  | none =>
    rw [e] at h
    obtain ⟨p, vs, e1, e2, e3⟩ := asL_rel (K := K) rs r h
    exact ⟨p, vs, e1, .inl e2, e3⟩
theorem sat_ok {α β : Type} {R : Hp → List Addr → α → β → Prop} {Q : β → Hp → Prop} {a : α} {b : β} (rs : Rst tabs ρ Z S H) (h : Sat tabs mg E R Q ρ Z H (.ok a S)) (r : R Z ρ a b) : Q b H := h b ρ Z H (Post.refl rs) r
/-- a new list -/
theorem sat_alloc {Q : VK} {ds : List D} {vs : List V} (rs : Rst tabs ρ Z S H) (h : Sat tabs mg E RelD Q ρ Z H (alloc (.lst ds) S)) (r : RelDs Z ρ ds vs) (p : Addr) (hp : H p = none) : Q (.ref p) (upd H p (.lst vs)) := by
  refine h (.ref p) _ _ _ (rs.newL hp r) (.ref ?_)
  rw [List.getElem?_append_right (by rw [rs.len]; exact Nat.le_refl _), rs.len, Nat.sub_self]; rfl
/-- a new tuple -/
theorem sat_tup {Q : VK} {ds : List D} {vs : List V} (rs : Rst tabs ρ Z S H) (h : Sat tabs mg E RelD Q ρ Z H (.ok (.tup ds) S)) (r : RelDs Z ρ ds vs) (p : Addr) (hp : H p = none) : Q (.ref p) (upd H p (.tup vs)) := by
  have po := rs.put (o := .tup vs) hp (fun q z => by cases z)
  exact h (.ref p) _ _ _ po (.tup upd_same (r.mono po.zm po.pre))
theorem rel_int {i : Int} {v : V} (r : RelD Z ρ (.int i) v) : v = .int i := by cases r; rfl
theorem rel_bl {b : Bool} {v : V} (r : RelD Z ρ (.bl b) v) : v = .bl b := by cases r; rfl
theorem rel_str {x : Str} {v : V} (r : RelD Z ρ (.str x) v) : v = .str x := by cases r; rfl
theorem rel_non {v : V} (r : RelD Z ρ .non v) : v = .non := by cases r; rfl
theorem rel_dct {kvs : List (Str × Fl)} {v : V} (rs : Rst tabs ρ Z S H) (r : RelD Z ρ (.dct kvs) v) : ∃ p, v = .ref p ∧ H p = some (.dK (kvs.map entF)) := by
  cases r with
  | dct hz => exact ⟨_, rfl, rs.zle _ _ hz⟩
/-- a new small dict -/
theorem sat_dct {Q : VK} {kvs : List (Str × Fl)} (rs : Rst tabs ρ Z S H) (h : Sat tabs mg E RelD Q ρ Z H (.ok (.dct kvs) S)) (p : Addr) (hp : H p = none) : Q (.ref p) (upd H p (.dK (kvs.map entF))) := by
  have po := rs.put (o := .dK (kvs.map entF)) hp (fun q z => by cases z)
  exact h (.ref p) _ _ _ po (.dct upd_same)
theorem rel_tup {xs : List D} {v : V} (rs : Rst tabs ρ Z S H) (r : RelD Z ρ (.tup xs) v) : ∃ p vs, v = .ref p ∧ SqT K H p vs ∧ RelDs Z ρ xs vs := by
  cases r with
  | tup hz hr => exact ⟨_, _, rfl, .inl (.inl (rs.zle _ _ hz)), hr⟩

/-! ### binary operators -/
def rBo (K : PySem.W.Frag) : BOp → R2
  | .add => fun x y H Q => (∃ i j, x = .int i ∧ y = .int j ∧ Q (.int (i + j)) H) ∨ rCatA K x y H Q ∨ (∃ i j, x = .str i ∧ y = .str j ∧ i.length + j.length ≤ sizeLine ∧ Q (.str (i ++ j)) H) ∨ rCat x y H Q
  | .sub => rI0 fun i j => .int (i - j)
  | .mul => fun x y H Q => rI CMul (fun i j => .int (i * j)) x y H Q ∨ rRep x y H Q ∨ rRepA K x y H Q
  | .fdiv => rI CDiv fun i j => .int (i / j)
  | .mod => rI (fun _ j => 0 < j) fun i j => .int (i % j)
  | .pow => rI CPow fun i j => .int (i ^ j.toNat)
theorem op_bo {X : Cx} (op : BOp) : OpR X (binaryOp (bopS op)) (rBo X.K op) := by
  cases op with
  | add => exact OpR.or op_add (OpR.or op_catA (OpR.or op_add_str op_cat))
  | sub => exact op_sub
  | mul => exact OpR.or op_mul (OpR.or op_rep op_repA)
  | fdiv => exact op_fdiv
  | mod => exact op_mod
  | pow => exact op_pow
theorem add_cat (rs : Rst tabs ρ Z S H) {a b : D} {x y : V} {Q : VK} (ra : RelD Z ρ a x) (rb : RelD Z ρ b y)
    (h : Sat tabs mg E RelD Q ρ Z H (match asM S a, asM S b with
      | some xs, some ys => if xs.length + ys.length ≤ sizeLine then alloc (.lst (xs ++ ys)) S else .stuck
      | _, _ => .stuck)) : rCat x y H Q := by
  cases e1 : asM S a with
  | none => rw [e1] at h; exact h.elim
  | some xs =>
    cases e2 : asM S b with
    | none => rw [e1, e2] at h; exact h.elim
    | some ys =>
      rw [e1, e2] at h
      have h : Sat tabs mg E RelD Q ρ Z H (if xs.length + ys.length ≤ sizeLine then alloc (.lst (xs ++ ys)) S else .stuck) := h
      split at h
      · rename_i hz
        obtain ⟨p, vs, rfl, hp, rv⟩ := asM_rel rs ra e1
        obtain ⟨q, ws, rfl, hq, rw'⟩ := asM_rel rs rb e2
        exact ⟨p, q, vs, ws, rfl, rfl, hp, hq, by rw [← rv.length, ← rw'.length]; exact hz, fun l hl => sat_alloc rs h (rv.append rw') l hl⟩
      · exact h.elim
theorem rd_bo (op : BOp) (rs : Rst tabs ρ Z S H) {a b : D} {x y : V} {Q : VK} (ra : RelD Z ρ a x) (rb : RelD Z ρ b y) (h : Sat tabs mg E RelD Q ρ Z H (bopR op a b S)) : rBo K op x y H Q := by
  unfold bopR at h
  split at h
  · rw [rel_int ra, rel_int rb]
    exact .inl ⟨_, _, rfl, rfl, sat_ok rs h (.int _)⟩
  · split at h
    · rename_i hz
      obtain ⟨p, vs, rfl, hp, rv⟩ := rel_tup (K := K) rs ra
      obtain ⟨q, ws, rfl, hq, rw'⟩ := rel_tup (K := K) rs rb
      refine .inr (.inl ⟨p, q, vs, ws, rfl, rfl, hp, hq, by rw [← rv.length, ← rw'.length]; exact hz, fun e => ?_, fun n e => ?_, fun n m l hl => ?_⟩)
      · subst e; cases rv
        exact sat_ok rs h rb
      · subst e; cases rw'
        rw [List.append_nil] at h
        exact sat_ok rs h ra
      · exact sat_tup rs h (rv.append rw') l hl
    · exact h.elim
  · split at h
    · rename_i hz
      rw [rel_str ra, rel_str rb]
      exact .inr (.inr (.inl ⟨_, _, rfl, rfl, hz, sat_ok rs h (.str _)⟩))
    · exact h.elim
  · exact .inr (.inr (.inr (add_cat rs ra rb h)))
  · rw [rel_int ra, rel_int rb]
    exact ⟨_, _, rfl, rfl, sat_ok rs h (.int _)⟩
  · split at h
    · rename_i hz
      rw [rel_int ra, rel_int rb]
      exact .inl ⟨_, _, rfl, rfl, hz, sat_ok rs h (.int _)⟩
    · exact h.elim
  · split at h
    · rename_i hz
      obtain ⟨p, vs, rfl, hp, rv⟩ := rel_tup (K := K) rs ra
      rw [rel_int rb]
      refine .inr (.inr ⟨p, _, vs, rfl, rfl, hp, hz.1, hz.2.1, by rw [← rv.length]; exact hz.2.2, fun e => ?_, fun e l hl => sat_tup rs h (rv.rep _) l hl⟩)
      have hx : ∀ xs : List D, xs = [] → ∀ k : Nat, (List.replicate k xs).flatten = xs := fun xs e k => by
        subst e
        induction k with
        | zero => rfl
        | succ k ih => rw [List.replicate_succ, List.flatten_cons, ih]; rfl
      rcases e with e | e
      · rw [hx _ (List.eq_nil_of_length_eq_zero (by rw [rv.length, e]; rfl))] at h
        exact sat_ok rs h ra
      · rw [e] at h
        rw [show (List.replicate (1 : Int).toNat _).flatten = _ from List.append_nil _] at h
        exact sat_ok rs h ra
    · exact h.elim
  · split at h
    · rename_i xs e1
      split at h
      · rename_i hz
        obtain ⟨p, vs, rfl, hp, rv⟩ := asM_rel rs ra e1
        rw [rel_int rb]
        exact .inr (.inl ⟨p, _, vs, rfl, rfl, hp, hz.1, hz.2.1, by rw [← rv.length]; exact hz.2.2, fun l hl => sat_alloc rs h (rv.rep _) l hl⟩)
      · exact h.elim
    · exact h.elim
  · split at h
    · rename_i hz
      rw [rel_int ra, rel_int rb]
      exact ⟨_, _, rfl, rfl, hz, sat_ok rs h (.int _)⟩
    · exact h.elim
  · split at h
    · rename_i hz
      rw [rel_int ra, rel_int rb]
      exact ⟨_, _, rfl, rfl, hz, sat_ok rs h (.int _)⟩
    · exact h.elim
  · split at h
    · rename_i hz
      rw [rel_int ra, rel_int rb]
      exact ⟨_, _, rfl, rfl, hz, sat_ok rs h (.int _)⟩
    · exact h.elim
  · exact h.elim
end
end Li
end

section
set_option Elab.async false
set_option linter.all false
set_option maxRecDepth 100000
set_option maxHeartbeats 4000000
namespace Li
open PySem PySem.Spec PyProof.Rows L2 GxR
section
variable {tabs : List Addr} {mg : Str → Option Value} {E : XK} {K : PySem.W.Frag} {ρ : List Addr} {Z H : Hp} {S : Store}
/-! ### == -/
theorem dp_mapM {f : D → Option PyData} : ∀ {xs : List D} {ys : List PyData} {vs : List V} (_ : ∀ x y v, x ∈ xs → f x = some y → RelD Z ρ x v → Dp K H v y), xs.mapM f = some ys → RelDs Z ρ xs vs → DpAll K H vs ys
  | [], ys, vs, _, h, r => by simp at h; subst h; cases r; exact .nil
  | x :: xs, ys, vs, hf, h, r => by
    rw [List.mapM_cons] at h
    cases e : f x with
    | none => rw [e] at h; simp at h
    | some y =>
      rw [e] at h
      cases e2 : xs.mapM f with
      | none => rw [e2] at h; simp at h
      | some ys' =>
        rw [e2] at h
        simp at h
        subst h
        cases r with
        | cons r1 r2 => exact .cons (hf x y _ List.mem_cons_self e r1) (dp_mapM (fun a b v ha => hf a b v (List.mem_cons_of_mem _ ha)) e2 r2)
theorem pyOf_dp (rs : Rst tabs ρ Z S H) : ∀ (n : Nat) (d : D) (p : PyData) (v : V), pyOf n S d = some p → RelD Z ρ d v → Dp K H v p := by
  intro n
  induction n with
  | zero => intro d p v h; simp [pyOf] at h
  | succ n ih =>
    intro d p v h r
    have mp : ∀ {xs : List D} {ys : List PyData} {vs : List V}, xs.mapM (pyOf n S) = some ys → RelDs Z ρ xs vs → DpAll K H vs ys := fun hm hr => dp_mapM (fun x y v _ e q => ih x y v e q) hm hr
    cases r with
    | non => simp [pyOf] at h; subst h; exact .non
    | bl b => simp [pyOf] at h; subst h; exact .bl b
    | int i => simp [pyOf] at h; subst h; exact .int i
    | dct => simp [pyOf] at h
    | dfz => simp [pyOf] at h
    | str x =>
      simp only [pyOf] at h
      split at h
      · cases h; exact .str x
      · cases h
    | tup hz hr =>
      simp only [pyOf, Option.map_eq_some_iff] at h
      obtain ⟨ys, hm, rfl⟩ := h
      exact .tup (.inl (.inl (rs.zle _ _ hz))) (mp hm hr)
    | lst hz hr =>
      simp only [pyOf, Option.map_eq_some_iff] at h
      obtain ⟨ys, hm, rfl⟩ := h
      exact .lst (.inl (.inl (rs.zle _ _ hz))) (mp hm hr)
    | frz hz hr =>
      simp only [pyOf, Option.map_eq_some_iff] at h
      obtain ⟨ys, hm, rfl⟩ := h
      exact .lst (.inl (.inr ⟨_, rs.zle _ _ hz⟩)) (mp hm hr)
    | ref hp =>
      rename_i a q
      simp only [pyOf] at h
      cases e : S[a]? with
      | none => rw [e] at h; cases h
      | some o =>
        rw [e] at h
        cases o with
        | lst xs =>
          simp only [Option.map_eq_some_iff] at h
          obtain ⟨ys, hm, rfl⟩ := h
          obtain ⟨_, vs, ev, rv⟩ := rs.ob a _ q e hp
          exact .lst (.inl (.inl ev)) (mp hm rv)
        | dct kvs => cases h
        | dtt kvs => cases h
        | dead => cases h
def good (n : Nat) (p : PyData) : Prop := p.canLay0 = true ∧ p.depth ≤ n
theorem good_all {n : Nat} : ∀ {ys : List PyData}, (∀ y ∈ ys, good n y) → PyData.canLayAll0 ys = true ∧ PyData.depthAll ys ≤ n
  | [], _ => ⟨by simp [PyData.canLayAll0], by simp [PyData.depthAll]⟩
  | y :: ys, h => by
    obtain ⟨h1, h2⟩ := h y List.mem_cons_self
    obtain ⟨h3, h4⟩ := good_all (ys := ys) fun z hz => h z (List.mem_cons_of_mem _ hz)
    exact ⟨by simp [PyData.canLayAll0, h1, h3], by simp only [PyData.depthAll]; omega⟩
theorem mapM_mem {α β : Type} {f : α → Option β} : ∀ {xs : List α} {ys : List β}, xs.mapM f = some ys → ∀ y ∈ ys, ∃ x ∈ xs, f x = some y
  | [], ys, h => by simp at h; subst h; intro y hy; cases hy
  | x :: xs, ys, h => by
    rw [List.mapM_cons] at h
    cases e : f x with
    | none => rw [e] at h; simp at h
    | some y =>
      rw [e] at h
      cases e2 : xs.mapM f with
      | none => rw [e2] at h; simp at h
      | some ys' =>
        rw [e2] at h
        simp at h
        subst h
        intro z hz
        rcases List.mem_cons.mp hz with rfl | hz
        · exact ⟨x, List.mem_cons_self, e⟩
        · obtain ⟨w, hw, ew⟩ := mapM_mem e2 z hz
          exact ⟨w, List.mem_cons_of_mem _ hw, ew⟩
theorem pyOf_good (S : Store) : ∀ (n : Nat) (d : D) (p : PyData), pyOf n S d = some p → good n p := by
  intro n
  induction n with
  | zero => intro d p h; simp [pyOf] at h
  | succ n ih =>
    intro d p h
    have ls : ∀ {xs : List D} {ys : List PyData}, xs.mapM (pyOf n S) = some ys → PyData.canLayAll0 ys = true ∧ PyData.depthAll ys ≤ n := fun hm => good_all fun y hy => let ⟨x, _, e⟩ := mapM_mem hm y hy; ih x y e
    cases d with
    | non => simp [pyOf] at h; subst h; exact ⟨by simp [PyData.canLay0], by simp [PyData.depth]⟩
    | bl b => simp [pyOf] at h; subst h; exact ⟨by simp [PyData.canLay0], by simp [PyData.depth]⟩
    | int i => simp [pyOf] at h; subst h; exact ⟨by simp [PyData.canLay0], by simp [PyData.depth]⟩
    | dct => simp [pyOf] at h
    | dfz => simp [pyOf] at h
    | str x =>
      simp only [pyOf] at h
      split at h
      · rename_i hx; cases h; exact ⟨by simp [PyData.canLay0, hx], by simp [PyData.depth]⟩
      · cases h
    | tup xs =>
      simp only [pyOf, Option.map_eq_some_iff] at h
      obtain ⟨ys, hm, rfl⟩ := h
      obtain ⟨h1, h2⟩ := ls hm
      exact ⟨by simp [PyData.canLay0, h1], by simp only [PyData.depth]; omega⟩
    | lst xs =>
      simp only [pyOf, Option.map_eq_some_iff] at h
      obtain ⟨ys, hm, rfl⟩ := h
      obtain ⟨h1, h2⟩ := ls hm
      exact ⟨by simp [PyData.canLay0, h1], by simp only [PyData.depth]; omega⟩
    | frz xs =>
      simp only [pyOf, Option.map_eq_some_iff] at h
      obtain ⟨ys, hm, rfl⟩ := h
      obtain ⟨h1, h2⟩ := ls hm
      exact ⟨by simp [PyData.canLay0, h1], by simp only [PyData.depth]; omega⟩
    | ref a =>
      simp only [pyOf] at h
      split at h
      · simp only [Option.map_eq_some_iff] at h
        obtain ⟨ys, hm, rfl⟩ := h
        obtain ⟨h1, h2⟩ := ls hm
        exact ⟨by simp [PyData.canLay0, h1], by simp only [PyData.depth]; omega⟩
      · cases h
theorem shaped_of {n : Nat} {p : PyData} (h : good n p) (hn : n ≤ 64) : SeqAt.shaped p = true := by
  unfold SeqAt.shaped
  rw [h.1, Bool.true_and]
  exact decide_eq_true (Nat.le_trans h.2 hn)
theorem eqD_rel (rs : Rst tabs ρ Z S H) {a b : D} {x y : V} {r : Bool} (ra : RelD Z ρ a x) (rb : RelD Z ρ b y) (h : eqD S a b = some r) :
    ∃ d e, Dp K H x d ∧ Dp K H y e ∧ SeqAt.shaped d = true ∧ SeqAt.shaped e = true ∧ PyData.eqv d e = r := by
  unfold eqD at h
  cases e1 : pyOf 12 S a with
  | none => rw [e1] at h; cases h
  | some d =>
    cases e2 : pyOf 12 S b with
    | none => rw [e1, e2] at h; cases h
    | some e =>
      rw [e1, e2] at h
      cases h
      exact ⟨d, e, pyOf_dp rs 12 a d x e1 ra, pyOf_dp rs 12 b e y e2 rb, shaped_of (pyOf_good S 12 a d e1) (by decide), shaped_of (pyOf_good S 12 b e e2) (by decide), rfl⟩
/-! ### in -/
theorem flatD_rel {d : D} {v w : V} (r : RelD Z ρ d v) (h : flatD d = some w) : v = w ∧ flatV v = true := by
  cases r <;> simp only [flatD] at h <;> cases h <;> exact ⟨rfl, rfl⟩
theorem flats_rel : ∀ {ds : List D} {vs ws : List V}, RelDs Z ρ ds vs → flats ds = some ws → vs = ws ∧ vs.all flatV = true
  | [], vs, ws, r, h => by cases r; cases h; exact ⟨rfl, rfl⟩
  | d :: ds, vs, ws, r, h => by
    cases r with
    | cons r1 r2 =>
      simp only [flats] at h
      split at h
      · rename_i w us h1 h2
        cases h
        obtain ⟨rfl, f1⟩ := flatD_rel r1 h1
        obtain ⟨rfl, f2⟩ := flats_rel r2 h2
        exact ⟨rfl, by rw [List.all_cons, f1, f2]; rfl⟩
      · cases h
theorem inD_rel (rs : Rst tabs ρ Z S H) {a b : D} {x y : V} {r : Bool} (ra : RelD Z ρ a x) (rb : RelD Z ρ b y) (h : inD S a b = some r) :
    ∃ p xs, y = .ref p ∧ (SqL K H p xs ∨ SqT K H p xs) ∧ flatV x = true ∧ xs.all flatV = true ∧ inV x xs = r := by
  unfold inD at h
  split at h
  · rename_i v ys h1 h2
    simp only [Option.map_eq_some_iff] at h
    obtain ⟨vs, hv, rfl⟩ := h
    obtain ⟨rfl, f1⟩ := flatD_rel ra h1
    obtain ⟨p, ws, rfl, hq, rr⟩ := asSeq_rel (K := K) rs rb h2
    obtain ⟨rfl, f2⟩ := flats_rel rr hv
    exact ⟨p, ws, rfl, hq, f1, f2, rfl⟩
  · cases h
/-! ### comparisons -/
theorem nd_inr {kvs : List (Str × Fl)} (h : (kvs.map (·.1)).Nodup) : (kvs.map ((·.1) ∘ entF)).Nodup := by
  have e : kvs.map ((·.1) ∘ entF) = (kvs.map (·.1)).map (Sum.inr : Str → Key) := by rw [List.map_map]; rfl
  rw [e]
  exact List.Pairwise.map _ (fun a b hab z => hab (Sum.inr.inj z)) h
def rCo (K : PySem.W.Frag) : COp → R2
  | .lt => rI0 fun i j => .bl (decide (i < j))
  | .le => rI0 fun i j => .bl (decide (i ≤ j))
  | .gt => rI0 fun i j => .bl (decide (j < i))
  | .ge => rI0 fun i j => .bl (decide (j ≤ i))
  | .eq => rEqD K
  | .ne => fun x y H Q => rNeD K x y H Q ∨ rNeDA x y H Q
  | .is_ => fun x y H Q => (y = .non ∧ Q (.bl (decide (x = .non))) H) ∨ rIsB x y H Q
  | .isnot => fun x y H Q => (y = .non ∧ Q (.bl (!decide (x = .non))) H) ∨ rNotB x y H Q
  | .in_ => rIn K false
  | .notin => rIn K true
theorem op_co {X : Cx} (hu : X.A.units + 64 < cLine) (op : COp) : OpR X (compareOp (copS op)) (rCo X.K op) := by
  cases op with
  | lt => exact op_lt
  | le => exact op_le
  | gt => exact op_gt
  | ge => exact op_ge
  | eq => exact op_eqD hu
  | ne => exact OpR.or (op_neD hu) (op_ne_dictA (by omega))
  | is_ => exact OpR.or op_isN op_isBl
  | isnot => exact OpR.or op_notN op_notBl
  | in_ => exact op_in_seq
  | notin => exact op_notIn_seq
theorem dec_non {a : D} {x : V} (r : RelD Z ρ a x) : decide (x = .non) = isNonD a := by cases r <;> rfl
theorem rd_co (op : COp) (rs : Rst tabs ρ Z S H) {a b : D} {x y : V} {Q : VK} (ra : RelD Z ρ a x) (rb : RelD Z ρ b y) (h : Sat tabs mg E RelD Q ρ Z H (copR op a b S)) : rCo K op x y H Q := by
  unfold copR at h
  split at h
  · split at h
    · rename_i hxy
      obtain ⟨rfl, nd⟩ := hxy
      obtain ⟨p, rfl, e1⟩ := rel_dct rs ra
      obtain ⟨q, rfl, e2⟩ := rel_dct rs rb
      refine .inr ⟨p, q, _, _, rfl, rfl, e1, e2, rfl, fun z hz => ?_, sat_ok rs h (.bl _)⟩
      obtain ⟨u, hu, rfl⟩ := List.mem_map.mp hz
      exact ⟨val_nodup (by rw [List.map_map]; exact nd_inr nd) _ hz, by cases u with | mk k v => cases v <;> rfl⟩
    · exact h.elim
  · rw [rel_int ra, rel_int rb]; exact ⟨_, _, rfl, rfl, sat_ok rs h (.bl _)⟩
  · rw [rel_int ra, rel_int rb]; exact ⟨_, _, rfl, rfl, sat_ok rs h (.bl _)⟩
  · rw [rel_int ra, rel_int rb]; exact ⟨_, _, rfl, rfl, sat_ok rs h (.bl _)⟩
  · rw [rel_int ra, rel_int rb]; exact ⟨_, _, rfl, rfl, sat_ok rs h (.bl _)⟩
  · split at h
    · rename_i r hr
      obtain ⟨d, e, h1, h2, h3, h4, rfl⟩ := eqD_rel (K := K) rs ra rb hr
      exact ⟨d, e, h1, h2, h3, h4, sat_ok rs h (.bl _)⟩
    · exact h.elim
  · split at h
    · rename_i r hr
      obtain ⟨d, e, h1, h2, h3, h4, rfl⟩ := eqD_rel (K := K) rs ra rb hr
      exact .inl ⟨d, e, h1, h2, h3, h4, sat_ok rs h (.bl _)⟩
    · exact h.elim
  · exact .inl ⟨rel_non rb, sat_ok rs h (by rw [← dec_non ra]; exact .bl _)⟩
  · rw [rel_bl ra, rel_bl rb]; exact .inr ⟨_, _, rfl, rfl, sat_ok rs h (.bl _)⟩
  · refine .inl ⟨rel_non rb, sat_ok rs h (by rw [← dec_non ra]; exact .bl _)⟩
  · rw [rel_bl ra, rel_bl rb]; exact .inr ⟨_, _, rfl, rfl, sat_ok rs h (.bl _)⟩
  · split at h
    · rename_i r hr
      obtain ⟨p, xs, h1, h2, h3, h4, rfl⟩ := inD_rel (K := K) rs ra rb hr
      exact ⟨p, xs, h1, h2, h3, h4, sat_ok rs h (.bl _)⟩
    · exact h.elim
  · split at h
    · rename_i r hr
      obtain ⟨p, xs, h1, h2, h3, h4, rfl⟩ := inD_rel (K := K) rs ra rb hr
      exact ⟨p, xs, h1, h2, h3, h4, sat_ok rs h (.bl _)⟩
    · exact h.elim
  · exact h.elim
/-! ### subscripts -/
theorem rd_ix (rs : Rst tabs ρ Z S H) {a b : D} {x y : V} {Q : VK} (ra : RelD Z ρ a x) (rb : RelD Z ρ b y) (h : Sat tabs mg E RelD Q ρ Z H (idxR a b S)) : rIxL K x y H Q ∨ rIxT K x y H Q := by
  unfold idxR at h
  split at h
  · rename_i _ iv
    split at h
    · rename_i xs hx
      split at h
      · rename_i d hd
        rw [rel_int rb]
        obtain ⟨p, vs, rfl, hq, rr⟩ := asSeq_rel (K := K) rs ra hx
        unfold atI at hd
        obtain ⟨j, hj, hg⟩ := Option.bind_eq_some_iff.mp hd
        obtain ⟨v, hv, rv⟩ := rr.get hg
        have ha : atI vs iv = some v := by
          unfold atI
          rw [← rr.length, hj]; exact hv
        have q := sat_ok rs h rv
        rcases hq with hq | hq
        · exact .inl ⟨p, vs, _, v, rfl, rfl, hq, ha, q⟩
        · exact .inr ⟨p, vs, _, v, rfl, rfl, hq, ha, q⟩
      · exact h.elim
    · exact h.elim
  · exact h.elim
theorem cut_rel {xs : List D} {vs : List V} (r : RelDs Z ρ xs vs) (lo hi : Option Int) : RelDs Z ρ (cutD xs lo hi) (cutV vs lo hi) := by
  unfold cutD cutV
  rw [r.length]
  exact (r.drop _).take _
theorem cutD_whole {xs : List D} {lo hi : Option Int} (h : HT.sIx xs.length 0 lo = 0 ∧ HT.sIx xs.length xs.length hi = xs.length) : cutD xs lo hi = xs := by
  unfold cutD
  rw [h.1, h.2, List.drop_zero, Nat.sub_zero, List.take_length]
theorem rd_sl (rs : Rst tabs ρ Z S H) {a : D} {x : V} {lo hi : Option Int} {Q : VK} (ra : RelD Z ρ a x) (h : Sat tabs mg E RelD Q ρ Z H (slR a lo hi S)) : rSlL K x lo hi H Q ∨ rSlA K x lo hi H Q := by
  unfold slR at h
  split at h
  · obtain ⟨p, vs, rfl, hq, rr⟩ := rel_tup (K := K) rs ra
    refine .inr ⟨p, vs, rfl, hq, fun w => ?_, fun w l hl => sat_tup rs h (cut_rel rr lo hi) l hl⟩
    rw [← rr.length] at w
    rw [cutD_whole w] at h
    exact sat_ok rs h ra
  · split at h
    · rename_i xs hx
      obtain ⟨p, vs, rfl, hq, rr⟩ := asL_rel (K := K) rs ra hx
      exact .inl ⟨p, vs, rfl, hq, fun l hl => sat_alloc rs h (cut_rel rr lo hi) l hl⟩
    · exact h.elim
theorem tru_rel (rs : Rst tabs ρ Z S H) {d : D} {v : V} {b : Bool} (r : RelD Z ρ d v) (h : truD S d = some b) : TruV K v H b := by
  have seq : ∀ {d : D} {v : V}, RelD Z ρ d v → (match asSeq S d with | some xs => some (!xs.isEmpty) | none => none) = some b → ∃ p, v = .ref p ∧ TruV K (.ref p) H b := fun {d v} r h => by
    split at h
    · rename_i xs hx
      obtain ⟨p, vs, rfl, hq, rr⟩ := asSeq_rel (K := K) rs r hx
      cases h
      refine ⟨p, rfl, ?_⟩
      rcases hq with hq | hq
      · exact .inl ⟨vs, hq, by rw [rr.isEmpty]⟩
      · exact .inr (.inl ⟨vs, hq, by rw [rr.isEmpty]⟩)
    · cases h
  cases r with
  | non => simp only [truD] at h; cases h; rfl
  | bl b => simp only [truD] at h; cases h; rfl
  | int i => simp only [truD] at h; cases h; rfl
  | dct hz => simp only [truD] at h; obtain ⟨p, e, q⟩ := seq (.dct hz) h; cases e; exact q
  | dfz hz => simp only [truD] at h; obtain ⟨p, e, q⟩ := seq (.dfz hz) h; cases e; exact q
  | str x =>
    simp only [truD] at h
    split at h
    · rename_i hz; cases h; exact ⟨hz, rfl⟩
    · cases h
  | tup hz hr => simp only [truD] at h; obtain ⟨p, e, q⟩ := seq (.tup hz hr) h; cases e; exact q
  | lst hz hr => simp only [truD] at h; obtain ⟨p, e, q⟩ := seq (.lst hz hr) h; cases e; exact q
  | frz hz hr => simp only [truD] at h; obtain ⟨p, e, q⟩ := seq (.frz hz hr) h; cases e; exact q
  | ref hp => simp only [truD] at h; obtain ⟨p, e, q⟩ := seq (.ref hp) h; cases e; exact q
end
end Li
end

section
set_option Elab.async false
set_option linter.all false
set_option maxRecDepth 100000
set_option maxHeartbeats 4000000
namespace Li
open PySem PySem.Spec PyProof.Rows L2 GxR
theorem foldl_max_ge (ns : List Int) : ∀ a : Int, a ≤ ns.foldl max a ∧ (∀ x ∈ ns, x ≤ ns.foldl max a) ∧ (ns.foldl max a = a ∨ ns.foldl max a ∈ ns) := by
  induction ns with
  | nil => intro a; exact ⟨Int.le_refl _, (fun _ h => by cases h), .inl rfl⟩
  | cons n ns ih =>
    intro a
    obtain ⟨h1, h2, h3⟩ := ih (max a n)
    refine ⟨by rw [List.foldl_cons]; omega, fun x hx => ?_, ?_⟩
    · rw [List.foldl_cons]
      rcases List.mem_cons.mp hx with rfl | hx
      · omega
      · exact h2 x hx
    · rw [List.foldl_cons]
      rcases h3 with h | h
      · by_cases hc : a ≤ n
        · rw [h, Int.max_eq_right hc]; exact .inr List.mem_cons_self
        · rw [h, Int.max_eq_left (by omega)]; exact .inl rfl
      · exact .inr (List.mem_cons_of_mem _ h)
theorem foldl_min_le (ns : List Int) : ∀ a : Int, ns.foldl min a ≤ a ∧ (∀ x ∈ ns, ns.foldl min a ≤ x) ∧ (ns.foldl min a = a ∨ ns.foldl min a ∈ ns) := by
  induction ns with
  | nil => intro a; exact ⟨Int.le_refl _, (fun _ h => by cases h), .inl rfl⟩
  | cons n ns ih =>
    intro a
    obtain ⟨h1, h2, h3⟩ := ih (min a n)
    refine ⟨by rw [List.foldl_cons]; omega, fun x hx => ?_, ?_⟩
    · rw [List.foldl_cons]
      rcases List.mem_cons.mp hx with rfl | hx
      · omega
      · exact h2 x hx
    · rw [List.foldl_cons]
      rcases h3 with h | h
      · by_cases hc : n ≤ a
        · rw [h, Int.min_eq_right hc]; exact .inr List.mem_cons_self
        · rw [h, Int.min_eq_left (by omega)]; exact .inl rfl
      · exact .inr (List.mem_cons_of_mem _ h)
theorem maxL_mem {ns : List Int} (h : 0 < ns.length) : maxL ns ∈ ns ∧ ∀ x ∈ ns, x ≤ maxL ns := by
  cases ns with
  | nil => cases h
  | cons n ns =>
    have q := foldl_max_ge (n :: ns) n
    refine ⟨?_, q.2.1⟩
    rcases q.2.2 with e | e
    · show (n :: ns).foldl max n ∈ _; rw [e]; exact List.mem_cons_self
    · exact e
theorem minL_mem {ns : List Int} (h : 0 < ns.length) : minL ns ∈ ns ∧ ∀ x ∈ ns, minL ns ≤ x := by
  cases ns with
  | nil => cases h
  | cons n ns =>
    have q := foldl_min_le (n :: ns) n
    refine ⟨?_, q.2.1⟩
    rcases q.2.2 with e | e
    · show (n :: ns).foldl min n ∈ _; rw [e]; exact List.mem_cons_self
    · exact e
theorem sort_uniq {ns ms : List Int} (hp : ms.Perm ns) (hs : ms.Pairwise (· ≤ ·)) : ms = ns.mergeSort fun a b => decide (a ≤ b) := by
  have s2 : (ns.mergeSort fun a b => decide (a ≤ b)).Pairwise (fun a b : Int => decide (a ≤ b) = true) :=
    List.pairwise_mergeSort (le := fun a b : Int => decide (a ≤ b)) (fun a b c h1 h2 => by simp at h1 h2 ⊢; omega) (fun a b => by simp; omega) ns
  have s3 : (ns.mergeSort fun a b => decide (a ≤ b)).Pairwise (fun a b : Int => a ≤ b) := s2.imp (fun h => of_decide_eq_true h)
  exact (hp.trans (List.mergeSort_perm ns _).symm).eq_of_pairwise (le := fun a b : Int => a ≤ b) (fun a b _ _ h1 h2 => Int.le_antisymm h1 h2) hs s3
/-! ### built-ins -/
def biV : Bi → Value
  | .len => .builtin "len" | .max2 => .builtin "max" | .min2 => .builtin "min" | .max1 => .builtin "max" | .min1 => .builtin "min" | .sum1 => .builtin "sum" | .sorted1 => .builtin "sorted" | .abs1 => .builtin "abs" | .any1 => .builtin "any"
  | .int1 => .type "int" | .list1 => .type "list" | .tuple1 => .type "tuple"
def rBi (K : PySem.W.Frag) : Bi → List V → Hp → VK → Prop
  | .len => fun xs H Q => ∃ x n, xs = [x] ∧ LenV K x H n ∧ Q (.int n) H
  | .max2 => fun xs H Q => ∃ i j, xs = [.int i, .int j] ∧ Q (.int (if j > i then j else i)) H
  | .min2 => fun xs H Q => ∃ i j, xs = [.int i, .int j] ∧ Q (.int (if j < i then j else i)) H
  | .max1 => rMaxA K
  | .min1 => rMinA K
  | .sum1 => rSumA K
  | .any1 => GX.rAnyI K
  | .sorted1 => rSortedI K
  | .abs1 => fun xs H Q => ∃ i, xs = [.int i] ∧ Q (.int (if i < 0 then -i else i)) H
  | .int1 => fun xs H Q => (∃ i, xs = [.int i] ∧ Q (.int i) H) ∨ ∃ k, xs = [.bl k] ∧ Q (.int (if k then 1 else 0)) H
  | .list1 => fun xs H Q => ∃ p ys, xs = [.ref p] ∧ (SqL K H p ys ∨ SqT K H p ys) ∧ ∀ l, H l = none → Q (.ref l) (upd H l (.lst ys))
  | .tuple1 => fun xs H Q => ∃ p ys, xs = [.ref p] ∧ ((SqL K H p ys ∧ ∀ l, H l = none → Q (.ref l) (upd H l (.tup ys))) ∨ (SqT K H p ys ∧ Q (.ref p) H))
section
variable {X : Cx} {x : Str} {p pos : Pos} {e : Expr} {es : List Expr} {t : TA}
theorem pe_bi (b : Bi) (hc : X.calm = true) (hg : Gl X (biS b)) (hm : X.mg (biS b) = none) (ha : PA X (e :: es) t)
    (he : starEach (e :: es) X.env = (false, eval e X.env) :: starEach es X.env) (hpl : (backTo pos (starEach es X.env)).any (·.1) = false) : PE X (.Call (.Name (biS b) p) (e :: es) [] pos) (tCB (rBi X.K b) t) := by
  cases b with
  | len => exact pe_callB call_len hg hm PySem.boot_len ha (by decide) (by decide) he hpl
  | max2 => exact pe_callB (call_max2 hc) hg hm PyProof.Rows.boot_max ha (by decide) (by decide) he hpl
  | min2 => exact pe_callB (call_min2 hc) hg hm PyProof.Rows.boot_min ha (by decide) (by decide) he hpl
  | max1 => exact pe_callB (cr_maxA hc) hg hm PyProof.Rows.boot_max ha (by decide) (by decide) he hpl
  | min1 => exact pe_callB (cr_minA hc) hg hm PyProof.Rows.boot_min ha (by decide) (by decide) he hpl
  | any1 => exact pe_callB (GX.cr_anyI hc) hg hm PyProof.Rows.boot_any ha (by decide) (by decide) he hpl
  | sum1 => exact pe_callB (cr_sumA hc) hg hm PyProof.Rows.boot_sum ha (by decide) (by decide) he hpl
  | sorted1 => exact pe_callB cr_sortedI hg hm PyProof.Rows.boot_sorted ha (by decide) (by decide) he hpl
  | abs1 => exact pe_callB call_abs hg hm PyProof.Rows.boot_abs ha (by decide) (by decide) he hpl
  | int1 => exact pe_callTy call_int1 hg hm PyProof.Rows.boot_int ha (by decide) (by decide) he hpl
  | list1 => exact pe_callTy call_list_of hg hm PyProof.Rows.boot_list ha (by decide) (by decide) he hpl
  | tuple1 => exact pe_callTy call_tuple_of hg hm PyProof.Rows.boot_tuple ha (by decide) (by decide) he hpl
end
section
variable {tabs : List Addr} {mg : Str → Option Value} {E : XK} {K : PySem.W.Frag} {ρ : List Addr} {Z H : Hp} {S : Store}
theorem rels1 {a : D} {vs : List V} (r : RelDs Z ρ [a] vs) : ∃ x, vs = [x] ∧ RelD Z ρ a x := by
  cases r with
  | cons r1 r2 => cases r2; exact ⟨_, rfl, r1⟩
theorem rels2 {a b : D} {vs : List V} (r : RelDs Z ρ [a, b] vs) : ∃ x y, vs = [x, y] ∧ RelD Z ρ a x ∧ RelD Z ρ b y := by
  cases r with
  | cons r1 r2 => obtain ⟨y, rfl, r3⟩ := rels1 r2; exact ⟨_, _, rfl, r1, r3⟩
theorem intsL_rel (rs : Rst tabs ρ Z S H) {d : D} {v : V} {xs : List D} {ns : List Int} (r : RelD Z ρ d v) (h : asL S d = some xs) (hn : intsD xs = some ns) : ∃ p, v = .ref p ∧ SqL K H p (ns.map V.int) := by
  obtain ⟨p, vs, rfl, hq, rr⟩ := asL_rel (K := K) rs r h
  rw [intsD_some hn] at rr
  rw [rr.of_ints] at hq
  exact ⟨p, rfl, hq⟩
theorem intsA_rel (rs : Rst tabs ρ Z S H) {d : D} {v : V} {xs : List D} {ns : List Int} (r : RelD Z ρ d v) (h : asSeq S d = some xs) (hn : intsD xs = some ns) : ∃ p, v = .ref p ∧ SqA K H p (ns.map V.int) := by
  obtain ⟨p, vs, rfl, hq, rr⟩ := asSeq_rel (K := K) rs r h
  rw [intsD_some hn] at rr
  rw [rr.of_ints] at hq
  exact ⟨p, rfl, hq⟩
theorem rd_bi (b : Bi) (rs : Rst tabs ρ Z S H) {ds : List D} {vs : List V} {Q : VK} (r : RelDs Z ρ ds vs) (h : Sat tabs mg E RelD Q ρ Z H (biR b ds S)) : rBi K b vs H Q := by
  unfold biR at h
  split at h
  · -- len
    obtain ⟨x, rfl, rx⟩ := rels1 r
    split at h
    · split at h
      · rename_i hz
        rw [rel_str rx]
        exact ⟨_, _, rfl, ⟨hz, rfl⟩, sat_ok rs h (.int _)⟩
      · exact h.elim
    · split at h
      · rename_i xs hx
        obtain ⟨p, ws, rfl, hq, rr⟩ := asSeq_rel (K := K) rs rx hx
        refine ⟨_, xs.length, rfl, ?_, sat_ok rs h (.int _)⟩
        rcases hq with hq | hq
        · exact .inl ⟨ws, hq, rr.length⟩
        · exact .inr ⟨ws, hq, rr.length⟩
      · exact h.elim
  · obtain ⟨x, y, rfl, rx, ry⟩ := rels2 r
    rename_i _ i j
    rw [rel_int rx, rel_int ry]
    refine ⟨_, _, rfl, ?_⟩
    have e : (if j > i then j else i) = max i j := by split <;> omega
    rw [e]; exact sat_ok rs h (.int _)
  · obtain ⟨x, y, rfl, rx, ry⟩ := rels2 r
    rename_i _ i j
    rw [rel_int rx, rel_int ry]
    refine ⟨_, _, rfl, ?_⟩
    have e : (if j < i then j else i) = min i j := by split <;> omega
    rw [e]; exact sat_ok rs h (.int _)
  · obtain ⟨x, rfl, rx⟩ := rels1 r
    split at h
    · rename_i xs hx
      split at h
      · rename_i ns hn
        split at h
        · rename_i hl
          obtain ⟨p, rfl, hq⟩ := intsA_rel (K := K) rs rx hx hn
          refine ⟨p, ns, rfl, hq, hl, fun m hm hb => ?_⟩
          obtain ⟨q1, q2⟩ := maxL_mem hl
          have e : m = maxL ns := Int.le_antisymm (q2 m hm) (hb _ q1)
          rw [e]; exact sat_ok rs h (.int _)
        · exact h.elim
      · exact h.elim
    · exact h.elim
  · obtain ⟨x, rfl, rx⟩ := rels1 r
    split at h
    · rename_i xs hx
      split at h
      · rename_i ns hn
        split at h
        · rename_i hl
          obtain ⟨p, rfl, hq⟩ := intsA_rel (K := K) rs rx hx hn
          refine ⟨p, ns, rfl, hq, hl, fun m hm hb => ?_⟩
          obtain ⟨q1, q2⟩ := minL_mem hl
          have e : m = minL ns := Int.le_antisymm (hb _ q1) (q2 m hm)
          rw [e]; exact sat_ok rs h (.int _)
        · exact h.elim
      · exact h.elim
    · exact h.elim
  · obtain ⟨x, rfl, rx⟩ := rels1 r
    rw [rel_int rx]
    exact .inl ⟨_, rfl, sat_ok rs h (.int _)⟩
  · obtain ⟨x, rfl, rx⟩ := rels1 r
    rw [rel_bl rx]
    exact .inr ⟨_, rfl, sat_ok rs h (.int _)⟩
  · obtain ⟨x, rfl, rx⟩ := rels1 r
    rw [rel_int rx]
    exact ⟨_, rfl, sat_ok rs h (.int _)⟩
  · obtain ⟨x, rfl, rx⟩ := rels1 r
    split at h
    · rename_i xs hx
      obtain ⟨p, ws, rfl, hq, rr⟩ := asSeq_rel (K := K) rs rx hx
      exact ⟨p, ws, rfl, hq, fun l hl => sat_alloc rs h rr l hl⟩
    · exact h.elim
  · obtain ⟨x, rfl, rx⟩ := rels1 r
    obtain ⟨p, ws, rfl, hq, rr⟩ := rel_tup (K := K) rs rx
    exact ⟨p, ws, rfl, .inr ⟨hq, sat_ok rs h rx⟩⟩
  · obtain ⟨x, rfl, rx⟩ := rels1 r
    split at h
    · rename_i xs hx
      obtain ⟨p, ws, rfl, hq, rr⟩ := asL_rel (K := K) rs rx hx
      exact ⟨p, ws, rfl, .inl ⟨hq, fun l hl => sat_tup rs h rr l hl⟩⟩
    · exact h.elim
  · obtain ⟨x, rfl, rx⟩ := rels1 r
    split at h
    · rename_i xs hx
      split at h
      · rename_i ns hn
        obtain ⟨p, rfl, hq⟩ := intsA_rel (K := K) rs rx hx hn
        exact ⟨p, ns, rfl, hq, sat_ok rs h (.int _)⟩
      · exact h.elim
    · exact h.elim
  · obtain ⟨x, rfl, rx⟩ := rels1 r
    split at h
    · rename_i xs hx
      split at h
      · rename_i ns hn
        obtain ⟨p, rfl, hq⟩ := intsA_rel (K := K) rs rx hx hn
        exact ⟨p, ns, rfl, hq, sat_ok rs h (.bl _)⟩
      · exact h.elim
    · exact h.elim
  · obtain ⟨x, rfl, rx⟩ := rels1 r
    split at h
    · rename_i xs hx
      split at h
      · rename_i ns hn
        obtain ⟨p, rfl, hq⟩ := intsL_rel (K := K) rs rx hx hn
        refine ⟨p, ns, rfl, hq, fun ms l hp hs hl => ?_⟩
        rw [sort_uniq hp hs]
        exact sat_alloc rs h (RelDs.intsR _) l hl
      · exact h.elim
    · exact h.elim
  · exact h.elim
/-! ### methods -/
def rMt : Mt → V → List V → Hp → VK → Prop
  | .append => rAppend
  | .pop => rPop
  | .insert => fun x vs H Q => ∃ (l : Addr) (xs : List V) (i : Int) (y : V), x = .ref l ∧ vs = [.int i, y] ∧ H l = some (.lst xs) ∧ xs.length < sizeLine ∧ 0 ≤ i ∧ i < 2 ^ 63 ∧ Q .non (upd H l (.lst (xs.take i.toNat ++ [y] ++ xs.drop i.toNat)))
theorem rd_mt (m : Mt) (rs : Rst tabs ρ Z S H) {d : D} {x : V} {ds : List D} {vs : List V} {Q : VK} (rx : RelD Z ρ d x) (r : RelDs Z ρ ds vs) (h : Sat tabs mg E RelD Q ρ Z H (mtR m d ds S)) : rMt m x vs H Q := by
  unfold mtR at h
  split at h
  · split at h
    · rename_i xs hx
      split at h
      · rename_i hz
        cases rx with
        | ref hp =>
          obtain ⟨y, rfl, ry⟩ := rels1 r
          obtain ⟨_, ws, ew, rr⟩ := rs.ob _ _ _ hx hp
          refine ⟨_, ws, y, rfl, rfl, ew, by rw [← rr.length]; exact hz, ?_⟩
          exact h _ _ _ _ (rs.setL hx hp (rr.append (.cons ry .nil))) .non
      · exact h.elim
    · exact h.elim
  · split at h
    · rename_i xs hx
      split at h
      · rename_i d1 hd
        cases rx with
        | ref hp =>
          cases r
          obtain ⟨_, ws, ew, rr⟩ := rs.ob _ _ _ hx hp
          obtain ⟨y, hy, ry⟩ := rr.get hd
          refine ⟨_, ws, y, rfl, rfl, ew, by rw [← rr.length]; exact hy, ?_⟩
          exact h _ _ _ _ (rs.setL hx hp rr.dropLast) ry
      · exact h.elim
    · exact h.elim
  · split at h
    · rename_i xs hx
      split at h
      · rename_i hz
        cases rx with
        | ref hp =>
          obtain ⟨w, y, rfl, rw', ry⟩ := rels2 r
          rw [rel_int rw']
          obtain ⟨_, ws, ew, rr⟩ := rs.ob _ _ _ hx hp
          refine ⟨_, ws, _, y, rfl, rfl, ew, by rw [← rr.length]; exact hz.1, hz.2.1, by have := hz.2.2; omega, ?_⟩
          exact h _ _ _ _ (rs.setL hx hp (((rr.take _).append (.cons ry .nil)).append (rr.drop _))) .non
      · exact h.elim
    · exact h.elim
  · exact h.elim
theorem mt_ty (rs : Rst tabs ρ Z S H) {d : D} {x : V} (rx : RelD Z ρ d x) (hd : ∃ a xs, d = .ref a ∧ S[a]? = some (.lst xs)) : tyV K "list" x H := by
  obtain ⟨a, xs, rfl, hx⟩ := hd
  cases rx with
  | ref hp =>
    obtain ⟨_, ws, ew, rr⟩ := rs.ob a _ _ hx hp
    exact .inl ⟨rfl, ws, .inl (.inl ew)⟩
/-! ### isinstance -/
def kdT : Kd → String
  | .bool => "bool" | .list => "list" | .tuple => "tuple" | .dict => "dict"
theorem rd_is (k : Kd) (rs : Rst tabs ρ Z S H) {d : D} {x : V} {Q : VK} (rx : RelD Z ρ d x) (h : Sat tabs mg E RelD Q ρ Z H (isR k d S)) : rIsi K [x, .ty (kdT k)] H Q := by
  have go : ∀ {t : String} {b : Bool}, TyX K H x (.type t) → kitB t (kdT k) = some b → Q (.bl b) H →
      rIsi K [x, .ty (kdT k)] H Q := fun {t b} ty e q => ⟨x, _, _, _, b, rfl, .ty _, ty, kit_ty e, q⟩
  cases rx with
  | non => cases k <;> exact go (.base .non) (by decide +kernel) (sat_ok rs h (.bl _))
  | bl b => cases k <;> exact go (.base (.bl _)) (by decide +kernel) (sat_ok rs h (.bl _))
  | int i => cases k <;> exact go (.base (.int _)) (by decide +kernel) (sat_ok rs h (.bl _))
  | str y => cases k <;> exact go (.base (.str _)) (by decide +kernel) (sat_ok rs h (.bl _))
  | tup hz hr => cases k <;> exact go (.base (.tup (rs.zle _ _ hz))) (by decide +kernel) (sat_ok rs h (.bl _))
  | lst hz hr => cases k <;> exact go (.base (.lst (rs.zle _ _ hz))) (by decide +kernel) (sat_ok rs h (.bl _))
  | frz hz hr => cases k <;> exact h.elim
  | dct hz => cases k <;> exact go (.base (.dK (rs.zle _ _ hz))) (by decide +kernel) (sat_ok rs h (.bl _))
  | dfz hz => cases k <;> exact h.elim
  | ref hp =>
    cases k
    all_goals
      simp only [isR] at h
      split at h
      · rename_i xs hx
        obtain ⟨_, ws, ew, rr⟩ := rs.ob _ _ _ hx hp
        exact go (.base (.lst ew)) (by decide +kernel) (sat_ok rs h (.bl _))
      · exact h.elim
end
end Li
end

section
set_option Elab.async false
set_option linter.all false
set_option maxRecDepth 100000
set_option maxHeartbeats 4000000
namespace Li
open PySem PySem.Spec PyProof.Rows L2 GxR
section
variable {tabs : List Addr} {mg : Str → Option Value} {E : XK} {K : PySem.W.Frag} {ρ ρ' : List Addr} {Z Z' H : Hp} {S : Store} {J : It} {xs : List D} {G G' : Store → Prop}
/-- an iterator walks these data, while G of the store -/
structure ItS (tabs : List Addr) (J : It) (xs : List D) (G : Store → Prop) (ρ : List Addr) (Z : Hp) : Prop where
  go : ∀ {ρ' : List Addr} {Z' H : Hp} {S : Store} {i : Nat} {x : D}, Pre ρ ρ' → Le Z Z' → Rst tabs ρ' Z' S H → G S → xs[i]? = some x → J.go i H ∧ ∀ v H', J.yld i H v H' → ∃ Z2, Post tabs ρ' Z' H ρ' Z2 S H' ∧ RelD Z2 ρ' x v
  stop : ∀ {ρ' : List Addr} {Z' H : Hp} {S : Store}, Pre ρ ρ' → Le Z Z' → Rst tabs ρ' Z' S H → G S → J.stop xs.length H
theorem ItS.mono (h : ItS tabs J xs G ρ Z) (p : Pre ρ ρ') (z : Le Z Z') : ItS tabs J xs G ρ' Z' :=
  ⟨fun q w r g e => h.go (p.trans q) (z.trans w) r g e, fun q w r g => h.stop (p.trans q) (z.trans w) r g⟩
theorem ItS.weak (h : ItS tabs J xs G ρ Z) (w : ∀ S, G' S → G S) : ItS tabs J xs G' ρ Z := ⟨fun q z r g e => h.go q z r (w _ g) e, fun q z r g => h.stop q z r (w _ g)⟩
theorem its_list {d : D} {p : Addr} (r : RelD Z ρ d (.ref p)) : ItS tabs (Itl K p) xs (fun S => asL S d = some xs) ρ Z := by
  have at_ : ∀ {ρ' : List Addr} {Z' H : Hp} {S : Store}, Pre ρ ρ' → Le Z Z' → Rst tabs ρ' Z' S H → asL S d = some xs → ∃ vs, SqL K H p vs ∧ RelDs Z' ρ' xs vs := fun q z rs g => by
    obtain ⟨p', vs, e, hq, rr⟩ := asL_rel (K := K) rs (r.mono z q) g
    cases e; exact ⟨vs, hq, rr⟩
  refine ⟨fun {ρ' Z' H S i x} q z rs g e => ?_, fun {ρ' Z' H S} q z rs g => ?_⟩
  · obtain ⟨vs, hq, rr⟩ := at_ q z rs g
    obtain ⟨v, hv, rv⟩ := rr.get e
    refine ⟨⟨vs, v, hq, hv⟩, fun u H' y => ?_⟩
    obtain ⟨rfl, yy⟩ := y
    have := yy vs hq
    rw [hv] at this; cases this
    exact ⟨Z', Post.refl rs, rv⟩
  · obtain ⟨vs, hq, rr⟩ := at_ q z rs g
    exact ⟨vs, hq, by rw [rr.length]; exact Nat.le_refl _⟩
theorem its_tup {p : Addr} (r : RelD Z ρ (.tup xs) (.ref p)) : ItS tabs (Itt K p) xs (fun _ => True) ρ Z := by
  have at_ : ∀ {ρ' : List Addr} {Z' H : Hp} {S : Store}, Pre ρ ρ' → Le Z Z' → Rst tabs ρ' Z' S H → ∃ vs, SqT K H p vs ∧ RelDs Z' ρ' xs vs := fun q z rs => by
    obtain ⟨p', vs, e, hq, rr⟩ := rel_tup (K := K) rs (r.mono z q)
    cases e; exact ⟨vs, hq, rr⟩
  refine ⟨fun {ρ' Z' H S i x} q z rs g e => ?_, fun {ρ' Z' H S} q z rs g => ?_⟩
  · obtain ⟨vs, hq, rr⟩ := at_ q z rs
    obtain ⟨v, hv, rv⟩ := rr.get e
    refine ⟨⟨vs, v, hq, hv⟩, fun u H' y => ?_⟩
    obtain ⟨rfl, yy⟩ := y
    have := yy vs hq
    rw [hv] at this; cases this
    exact ⟨Z', Post.refl rs, rv⟩
  · obtain ⟨vs, hq, rr⟩ := at_ q z rs
    exact ⟨vs, hq, by rw [rr.length]; exact Nat.le_refl _⟩
theorem its_rev {d : D} {p : Addr} (r : RelD Z ρ d (.ref p)) : ItS tabs (Itv K p xs.length) xs.reverse (fun S => asL S d = some xs) ρ Z := by
  have at_ : ∀ {ρ' : List Addr} {Z' H : Hp} {S : Store}, Pre ρ ρ' → Le Z Z' → Rst tabs ρ' Z' S H → asL S d = some xs → ∃ vs, SqL K H p vs ∧ RelDs Z' ρ' xs vs := fun q z rs g => by
    obtain ⟨p', vs, e, hq, rr⟩ := asL_rel (K := K) rs (r.mono z q) g
    cases e; exact ⟨vs, hq, rr⟩
  refine ⟨fun {ρ' Z' H S i x} q z rs g e => ?_, fun {ρ' Z' H S} q z rs g => ?_⟩
  · obtain ⟨vs, hq, rr⟩ := at_ q z rs g
    have hi : i < xs.length := by
      have := (List.getElem?_eq_some_iff.mp e).1
      rw [List.length_reverse] at this; exact this
    rw [List.getElem?_reverse hi] at e
    obtain ⟨v, hv, rv⟩ := rr.get e
    refine ⟨⟨hi, vs, v, hq, hv⟩, fun u H' yl => ?_⟩
    obtain ⟨rfl, yy⟩ := yl
    have := yy vs hq
    rw [hv] at this; cases this
    exact ⟨Z', Post.refl rs, rv⟩
  · show xs.length ≤ _
    rw [List.length_reverse]; exact Nat.le_refl _
theorem its_revT {p : Addr} (r : RelD Z ρ (.tup xs) (.ref p)) : ItS tabs (RT.ItvT K p xs.length) xs.reverse (fun _ => True) ρ Z := by
  have at_ : ∀ {ρ' : List Addr} {Z' H : Hp} {S : Store}, Pre ρ ρ' → Le Z Z' → Rst tabs ρ' Z' S H → ∃ vs, SqT K H p vs ∧ RelDs Z' ρ' xs vs := fun q z rs => by
    obtain ⟨p', vs, e, hq, rr⟩ := rel_tup (K := K) rs (r.mono z q)
    cases e; exact ⟨vs, hq, rr⟩
  refine ⟨fun {ρ' Z' H S i x} q z rs g e => ?_, fun {ρ' Z' H S} q z rs g => ?_⟩
  · obtain ⟨vs, hq, rr⟩ := at_ q z rs
    have hi : i < xs.length := by
      have := (List.getElem?_eq_some_iff.mp e).1
      rw [List.length_reverse] at this; exact this
    rw [List.getElem?_reverse hi] at e
    obtain ⟨v, hv, rv⟩ := rr.get e
    refine ⟨⟨hi, vs, v, hq, hv⟩, fun u H' yl => ?_⟩
    obtain ⟨rfl, yy⟩ := yl
    have := yy vs hq
    rw [hv] at this; cases this
    exact ⟨Z', Post.refl rs, rv⟩
  · show xs.length ≤ _
    rw [List.length_reverse]; exact Nat.le_refl _
theorem its_enum {d : D} {p : Addr} (r : RelD Z ρ d (.ref p)) : ItS tabs (Ite K p) (enumL xs) (fun S => asL S d = some xs) ρ Z := by
  have at_ : ∀ {ρ' : List Addr} {Z' H : Hp} {S : Store}, Pre ρ ρ' → Le Z Z' → Rst tabs ρ' Z' S H → asL S d = some xs → ∃ vs, SqL K H p vs ∧ RelDs Z' ρ' xs vs := fun q z rs g => by
    obtain ⟨p', vs, e, hq, rr⟩ := asL_rel (K := K) rs (r.mono z q) g
    cases e; exact ⟨vs, hq, rr⟩
  refine ⟨fun {ρ' Z' H S i x} q z rs g e => ?_, fun {ρ' Z' H S} q z rs g => ?_⟩
  · obtain ⟨vs, hq, rr⟩ := at_ q z rs g
    unfold enumL at e
    rw [List.getElem?_mapIdx] at e
    obtain ⟨y, hy, rfl⟩ := Option.map_eq_some_iff.mp e
    obtain ⟨v, hv, rv⟩ := rr.get hy
    refine ⟨⟨vs, v, hq, hv⟩, fun u H' yl => ?_⟩
    obtain ⟨T, w, rfl, hT, rfl, yy⟩ := yl
    have := yy vs hq
    rw [hv] at this; cases this
    have po := rs.put (o := .tup [.int (i : Nat), v]) hT (fun q z => by cases z)
    exact ⟨_, po, .tup upd_same (.cons (.int _) (.cons (rv.mono po.zm po.pre) .nil))⟩
  · obtain ⟨vs, hq, rr⟩ := at_ q z rs g
    refine ⟨vs, hq, ?_⟩
    unfold enumL
    rw [List.length_mapIdx, rr.length]; exact Nat.le_refl _
theorem its_enumT {p : Addr} (r : RelD Z ρ (.tup xs) (.ref p)) : ItS tabs (IteT K p) (enumL xs) (fun _ => True) ρ Z := by
  have at_ : ∀ {ρ' : List Addr} {Z' H : Hp} {S : Store}, Pre ρ ρ' → Le Z Z' → Rst tabs ρ' Z' S H → ∃ vs, SqT K H p vs ∧ RelDs Z' ρ' xs vs := fun q z rs => by
    obtain ⟨p', vs, e, hq, rr⟩ := rel_tup (K := K) rs (r.mono z q)
    cases e; exact ⟨vs, hq, rr⟩
  refine ⟨fun {ρ' Z' H S i x} q z rs g e => ?_, fun {ρ' Z' H S} q z rs g => ?_⟩
  · obtain ⟨vs, hq, rr⟩ := at_ q z rs
    unfold enumL at e
    rw [List.getElem?_mapIdx] at e
    obtain ⟨y, hy, rfl⟩ := Option.map_eq_some_iff.mp e
    obtain ⟨v, hv, rv⟩ := rr.get hy
    refine ⟨⟨vs, v, hq, hv⟩, fun u H' yl => ?_⟩
    obtain ⟨T, w, rfl, hT, rfl, yy⟩ := yl
    have := yy vs hq
    rw [hv] at this; cases this
    have po := rs.put (o := .tup [.int (i : Nat), v]) hT (fun q z => by cases z)
    exact ⟨_, po, .tup upd_same (.cons (.int _) (.cons (rv.mono po.zm po.pre) .nil))⟩
  · obtain ⟨vs, hq, rr⟩ := at_ q z rs
    refine ⟨vs, hq, ?_⟩
    unfold enumL
    rw [List.length_mapIdx, rr.length]; exact Nat.le_refl _
theorem its_rng {lo : Int} {n : Nat} : ItS tabs (Itr lo n) (rngL lo n) G ρ Z := by
  refine ⟨fun {ρ' Z' H S i x} q z rs g e => ?_, fun {ρ' Z' H S} q z rs g => ?_⟩
  · unfold rngL at e
    rw [List.getElem?_map] at e
    obtain ⟨y, hy, rfl⟩ := Option.map_eq_some_iff.mp e
    obtain ⟨hlt, ey⟩ := List.getElem?_eq_some_iff.mp hy
    rw [List.length_range] at hlt
    rw [List.getElem_range] at ey
    subst ey
    refine ⟨hlt, fun u H' yl => ?_⟩
    obtain ⟨rfl, rfl⟩ := yl
    exact ⟨Z', Post.refl rs, .int _⟩
  · show n ≤ (rngL lo n).length
    unfold rngL
    rw [List.length_map, List.length_range]; exact Nat.le_refl _
/-! ### targets -/
def gNs : List Nat → TGs
  | [] => gNil
  | i :: is => gCons (gName i) (gNs is)
def gT (K : PySem.W.Frag) : Tg → TG
  | .one i => gName i
  | .many is => fun v σ H Q => gTup K is.length (gNs is) v σ H Q ∨ gUnl K is.length (gNs is) v σ H Q
def SlX (Z : Hp) (ρ : List Addr) (g : GE) (σ : L2.St) (P : Nat → Prop) : Prop := g.length = σ.length ∧ ∀ (i : Nat) (d : D), ¬ P i → g[i]? = some (some d) → ∃ v, σ[i]? = some (some v) ∧ RelD Z ρ d v
variable {g g' : GE} {σ : L2.St} {P : Nat → Prop}
theorem SlX.set {i : Nat} {d : D} {v : V} (h : SlX Z ρ g σ P) (r : RelD Z ρ d v) : SlX Z ρ (g.set i (some d)) (σ.set i (some v)) (fun j => P j ∧ j ≠ i) := by
  refine ⟨by rw [List.length_set, List.length_set]; exact h.1, fun j e hp hj => ?_⟩
  by_cases hij : i = j
  · subst hij
    have hl : i < g.length := by
      have := (List.getElem?_eq_some_iff.mp hj).1
      rwa [List.length_set] at this
    rw [List.getElem?_set_self hl] at hj
    cases hj
    exact ⟨v, by rw [List.getElem?_set_self (by rw [← h.1]; exact hl)], r⟩
  · rw [List.getElem?_set_ne hij] at hj
    obtain ⟨v', e', r'⟩ := h.2 j e (fun z => hp ⟨z, fun w => hij w.symm⟩) hj
    exact ⟨v', by rw [List.getElem?_set_ne hij]; exact e', r'⟩
theorem SlX.weak {P' : Nat → Prop} (h : SlX Z ρ g σ P) (w : ∀ i, P i → P' i) : SlX Z ρ g σ P' := ⟨h.1, fun i d hp e => h.2 i d (fun z => hp (w i z)) e⟩
theorem SlX.all (h : SlX Z ρ g σ P) (w : ∀ i, ¬ P i) : SlR Z ρ g σ := ⟨h.1, fun i d e => h.2 i d (w i) e⟩
theorem SlR.x (h : SlR Z ρ g σ) : SlX Z ρ g σ P := ⟨h.1, fun i d _ e => h.2 i d e⟩
theorem SlX.mono (h : SlX Z ρ g σ P) (hz : Le Z Z') (hr : Pre ρ ρ') : SlX Z' ρ' g σ P := ⟨h.1, fun i d hp e => let ⟨v, e', r⟩ := h.2 i d hp e; ⟨v, e', r.mono hz hr⟩⟩
theorem wipe_get (σ : L2.St) : ∀ (vs : List Nat) (j : Nat), (wipe σ vs)[j]? = if j ∈ vs then (σ[j]?).map (fun _ => none) else σ[j]?
  | [], j => by simp [wipe]
  | v :: vs, j => by
    unfold wipe
    by_cases hv : v = j
    · subst hv
      by_cases hl : v < σ.length
      · rw [List.getElem?_set_self (by rw [wipe_length]; exact hl), if_pos List.mem_cons_self, List.getElem?_eq_getElem hl]; rfl
      · rw [List.getElem?_eq_none (by rw [List.length_set, wipe_length]; omega), if_pos List.mem_cons_self, List.getElem?_eq_none (by omega)]; rfl
    · rw [List.getElem?_set_ne hv, wipe_get σ vs j]
      by_cases hm : j ∈ vs
      · rw [if_pos hm, if_pos (List.mem_cons_of_mem _ hm)]
      · rw [if_neg hm, if_neg (by simp only [List.mem_cons, not_or]; exact ⟨fun e => hv e.symm, hm⟩)]
theorem wipe_set {i : Nat} {x : Option V} {vs : List Nat} (h : i ∈ vs) : wipe (σ.set i x) vs = wipe σ vs := by
  refine List.ext_getElem? fun j => ?_
  rw [wipe_get, wipe_get]
  by_cases hj : j ∈ vs
  · rw [if_pos hj, if_pos hj, List.getElem?_set]
    split
    · rename_i e
      subst e
      split
      · rename_i hl; rw [List.getElem?_eq_getElem hl]; rfl
      · rename_i hl; rw [List.getElem?_eq_none (Nat.le_of_not_lt hl)]
    · rfl
  · rw [if_neg hj, if_neg hj, List.getElem?_set_ne (fun e : i = j => hj (by rw [← e]; exact h))]
theorem wipe_wipe {vs : List Nat} : wipe (wipe σ vs) vs = wipe σ vs := by
  refine List.ext_getElem? fun j => ?_
  rw [wipe_get, wipe_get]
  by_cases hj : j ∈ vs
  · rw [if_pos hj, if_pos hj]
    cases σ[j]? <;> rfl
  · rw [if_neg hj, if_neg hj]
theorem SlR.wiped (h : SlR Z ρ g σ) (vs : List Nat) : SlX Z ρ g (wipe σ vs) (· ∈ vs) := by
  refine ⟨by rw [wipe_length]; exact h.1, fun i d hp e => ?_⟩
  obtain ⟨v, e', r⟩ := h.2 i d e
  exact ⟨v, by rw [wipe_get, if_neg hp]; exact e', r⟩
theorem gNs_ok : ∀ (is : List Nat) {ds : List D} {vs : List V} {g : GE} {σ : L2.St} {P : Nat → Prop} {Q : L2.St → Hp → Prop}, RelDs Z ρ ds vs → ds.length = is.length → SlX Z ρ g σ P →
    (∀ σ', SlX Z ρ (setMany is ds g) σ' (fun j => P j ∧ j ∉ is) → (∀ us, (∀ i ∈ is, i ∈ us) → wipe σ' us = wipe σ us) → Q σ' H) → gNs is vs σ H Q
  | [], ds, vs, g, σ, P, Q, r, hl, sx, k => by
    cases ds with
    | nil => cases r; exact ⟨rfl, k σ (sx.weak fun i h => ⟨h, by simp⟩) fun us _ => rfl⟩
    | cons _ _ => cases hl
  | i :: is, ds, vs, g, σ, P, Q, r, hl, sx, k => by
    cases r with
    | nil => cases hl
    | cons r1 r2 =>
      rename_i d ds v vs
      refine ⟨v, vs, rfl, ?_⟩
      refine gNs_ok is r2 (Nat.succ.inj hl) (sx.set r1) fun σ' sx' w => k σ' (sx'.weak fun j h => ⟨h.1.1, ?_⟩) fun us hus => ?_
      · simp only [List.mem_cons, not_or]; exact ⟨h.1.2, h.2⟩
      · rw [w us fun j hj => hus j (List.mem_cons_of_mem _ hj), wipe_set (hus i List.mem_cons_self)]
theorem gT_ok (t : Tg) (rs : Rst tabs ρ Z S H) {x : D} {v : V} {Q : L2.St → Hp → Prop} (rx : RelD Z ρ x v) (h : setT S t x g = some g') (sx : SlX Z ρ g σ P)
    (k : ∀ σ', SlX Z ρ g' σ' (fun j => P j ∧ j ∉ ownT t) → (∀ us, (∀ i ∈ ownT t, i ∈ us) → wipe σ' us = wipe σ us) → Q σ' H) : gT K t v σ H Q := by
  cases t with
  | one i =>
    simp only [setT] at h
    cases h
    exact k _ ((sx.set rx).weak fun j q => ⟨q.1, by simp only [ownT, List.mem_singleton]; exact q.2⟩) fun us hus => wipe_set (hus i (by simp [ownT]))
  | many is =>
    simp only [setT] at h
    split at h
    · rename_i ds hds
      split at h
      · rename_i hl
        cases h
        obtain ⟨p, vs, rfl, hq, rr⟩ := asSeq_rel (K := K) rs rx hds
        rcases hq with hq | hq
        · exact .inr ⟨p, vs, rfl, hq, by rw [← rr.length]; exact hl, gNs_ok is rr hl sx k⟩
        · exact .inl ⟨p, vs, rfl, hq, by rw [← rr.length]; exact hl, gNs_ok is rr hl sx k⟩
      · cases h
    · cases h
end
end Li
end

section
set_option linter.all false
set_option maxRecDepth 100000
set_option maxHeartbeats 4000000
/-! tuple[::-1] -/
namespace HT
open PySem PySem.Calls PyProof.Rows PyProof.V PySem.Spec
section
variable {prog : Program} {w : World} {A : Around} {E : Value → Shared → Prop} {s : Shared}
theorem adjust_rev (n : Nat) : Builtin.Slice.sliceAdjust none none (-1) (n : Int) = ((n : Int) - 1, -1) := by
  unfold Builtin.Slice.sliceAdjust
  simp
theorem places_rev (n : Nat) : Builtin.Slice.slicePlaces ((n : Int) - 1) (-1) (-1) = n := by
  unfold Builtin.Slice.slicePlaces
  rw [if_neg (by decide)]
  by_cases h : ((n : Int) - 1) > -1
  · rw [if_pos h]
    simp
  · rw [if_neg h]; omega
theorem sliceApplied_rev {sl : Addr} {vl vu vs : Value} {n : Nat} {Q : Int × Int × Nat → Shared → Prop} (hs : s.heap.IsSliceOf sl vl vu vs) (pl : IsPart vl none) (pu : IsPart vu none) (ps : IsPart vs (some (-1)))
    (h : Q ((n : Int) - 1, -1, n) s) : wpAny (model prog w) A (Builtin.Slice.sliceApplied (.ref sl) (pure (n : Int))) Q E s := by
  obtain ⟨os, hos, hcs, hds⟩ := id hs
  unfold Builtin.Slice.sliceApplied Builtin.Slice.sliceFields
  refine wpAny_bind (wpAny_bind (wpAny_field hos hds (x := vl) rfl (wpAny_bind (wpAny_field hos hds (x := vu) rfl (wpAny_bind (wpAny_field hos hds (x := vs) rfl (wpAny_pure ?_)))))))
  refine wpAny_bind (slicePart_ ps ?_)
  show wpAny _ _ (if ((-1 : Int) == 0) = true then _ else _) _ _ s
  rw [if_neg (by decide)]
  refine wpAny_bind (slicePart_ pl (wpAny_bind (slicePart_ pu (wpAny_bind (wpAny_pure ?_)))))
  show wpAny _ _ (match Builtin.Slice.sliceAdjust none none (-1) (n : Int) with | (lo, hi) => pure (lo, (-1 : Int), Builtin.Slice.slicePlaces lo hi (-1))) _ _ s
  rw [adjust_rev n]
  show wpAny _ _ (pure ((n : Int) - 1, (-1 : Int), Builtin.Slice.slicePlaces ((n : Int) - 1) (-1) (-1))) _ _ s
  rw [places_rev]
  exact wpAny_pure h
theorem fm_congr {α β : Type} {f g : α → Option β} : ∀ {l : List α}, (∀ x ∈ l, f x = g x) → l.filterMap f = l.filterMap g
  | [], _ => rfl
  | x :: l, h => by
    rw [List.filterMap_cons, List.filterMap_cons, h x List.mem_cons_self, fm_congr fun y hy => h y (List.mem_cons_of_mem _ hy)]
theorem pick_rev (xs : Array Value) : ((List.range xs.size).filterMap fun (m : Nat) => xs[((xs.size : Int) - 1 + (m : Int) * (-1)).toNat]?).toArray = xs.toList.reverse.toArray := by
  have e : ((List.range xs.size).filterMap fun (m : Nat) => xs[((xs.size : Int) - 1 + (m : Int) * (-1)).toNat]?) = (List.range xs.size).filterMap fun m => xs.toList.reverse.toArray[0 + m]? := by
    refine fm_congr fun m hm => ?_
    rw [List.mem_range] at hm
    have : ((xs.size : Int) - 1 + (m : Int) * (-1)).toNat = xs.size - 1 - m := by omega
    rw [this, Nat.zero_add, show xs.toList.reverse.toArray[m]? = xs.toList.reverse[m]? from List.getElem?_toArray, List.getElem?_reverse (by rw [Array.length_toList]; exact hm), Array.length_toList, Array.getElem?_toList]
  rw [e]
  have := pick_run xs.toList.reverse.toArray 0 xs.size
  rw [List.filterMap_map] at this
  have e2 : ((fun x => xs.toList.reverse.toArray[x]?) ∘ fun x => 0 + x) = fun m => xs.toList.reverse.toArray[0 + m]? := rfl
  rw [e2] at this
  rw [this]
  simp only [List.drop_zero]
  rw [List.take_of_length_le (by simp)]
theorem getItem_tuple_rev {t sl : Addr} {items : Array Value} {vl vu vs : Value} {Q : Value → Shared → Prop} (ht : IsTup s.heap t items) (hs : s.heap.IsSliceOf sl vl vu vs) (pl : IsPart vl none) (pu : IsPart vu none) (ps : IsPart vs (some (-1)))
    (h : Q (.ref s.heap.objs.size) { s with heap := s.heap.push { cls := .type "tuple", data := .seq items.toList.reverse.toArray } })
    (hsz : items.size ≤ sizeLine) : wpAny (model prog w) A (getItem (.ref t) (.ref sl)) Q E s := by
  have htake : sizeOk (.seq items.toList.reverse.toArray) := by
    show items.toList.reverse.toArray.size ≤ sizeLine
    rw [List.size_toArray, List.length_reverse, Array.length_toList]
    omega
  obtain ⟨os, hos, hcs, hds⟩ := id hs
  have hTs : s.TypeIs (.ref sl) "slice" := ⟨os, hos, hcs⟩
  unfold getItem
  try with_reducible refine wpAny_holding ?_
  first | refine wpAny_bind (wpAny_pure ?_) | skip
  refine wpAny_bind (wpAny_sequenceKey ht.typeIs (by decide) ?_)
  refine wpAny_bind (wpAny_callSpecial?_slot (name := Str.ofString "__getitem__") ht.typeIs PyProof.Rows.slot_tuple_getitem
    (wpAny_call_entry PyProof.Rows.slot_tuple_getitem ht.typeIs entry_tuple_getitem ?_ (args_tuple_getitem _ _)))
  show wpAny _ _ (Builtin.Tuple.tupleItemsOf (.ref t) >>= _) _ _ s
  refine wpAny_bind (tupleItemsOf_ ht ?_)
  refine wpAny_bind (wpAny_typeOf hTs ?_)
  rw [if_pos (by decide)]
  refine wpAny_bind (sliceApplied_rev hs pl pu ps ?_)
  have hno : ¬ (((((items.size : Nat) : Int) - 1) == 0 && (-1 : Int) == 1 && items.size == items.size) = true) := by
    intro q
    rw [Bool.and_eq_true, Bool.and_eq_true] at q
    exact absurd (eq_of_beq q.1.2) (by decide)
  show wpAny _ _ (if ((((items.size : Nat) : Int) - 1) == 0 && (-1 : Int) == 1 && items.size == items.size) = true then _ else _) _ _ s
  rw [if_neg hno, pick_rev]
  first
    | exact wpAny_bind (m := Builtin.Tuple.tupleExact _) (wpAny_newObj_type (wpAny_pure ⟨_, rfl, wpAny_pure h⟩) htake)
    | exact wpAny_bind (m := Builtin.Tuple.tupleExact _) (wpAny_newObj_type (wpAny_bind (wpAny_pure (wpAny_pure ⟨_, rfl, wpAny_pure h⟩))) htake)
    | exact wpAny_bind (wpAny_bind (m := Builtin.Tuple.tupleExact _) (wpAny_newObj_type (wpAny_pure (wpAny_pure ⟨_, rfl, wpAny_pure h⟩)) htake))
    | exact wpAny_bind (wpAny_bind (m := Builtin.Tuple.tupleExact _) (wpAny_newObj_type (wpAny_pure ⟨_, rfl, wpAny_pure h⟩) htake))
end
end HT
namespace L2
open PySem PySem.Spec PyProof.Rows
section
variable {X : Cx}
/-- list or tuple, reversed -/
def tRevA (K : PySem.W.Frag) (te : TE) : TE := fun σ H Q => te σ H fun x H1 => ∃ a xs, x = .ref a ∧ ((SqL K H1 a xs ∧ ∀ p, H1 p = none → Q (.ref p) (upd H1 p (.lst xs.reverse))) ∨ (SqT K H1 a xs ∧ ∀ p, H1 p = none → Q (.ref p) (upd H1 p (.tup xs.reverse))))
theorem pe_revA {e : Expr} {te : TE} {k : Nat} {p1 p2 p3 pos : Pos} (he : PE X e te) : PE X (.Subscript e (.Slice none none (some (.UnaryOp .USub (.Constant (.int 1) k p1) p2)) p3) pos) (tRevA X.K te) := by
  refine ⟨fun pins s σ H Q I h => ?_⟩
  refine Subscript_ (thn (he.run pins s σ H _ I h) fun v s1 ⟨x, H1, I1, r1, q1⟩ => ?_)
  obtain ⟨a, xs, ex, q⟩ := q1
  subst ex
  cases r1
  have hst : PO X (some (.UnaryOp .USub (.Constant (.int 1) k p1) p2)) (tPart (tUn (rU fun i => .int (-i)) (tC (.int 1)))) := po_some (pe_un un_neg pe_int)
  refine wpAny_Slice (thn (po_none.run pins s1 σ H1 (fun o H2 => o = none ∧ H2 = H1) I1 ⟨rfl, rfl⟩) fun vl s2 ⟨l, H2, I2, pl, el, e2⟩ => ?_)
  subst el e2
  refine thn (po_none.run pins s2 σ H2 (fun o H3 => o = none ∧ H3 = H2) I2 ⟨rfl, rfl⟩) fun vu s3 ⟨u, H3, I3, pu, eu, e3⟩ => ?_
  subst eu e3
  refine thn (hst.run pins s3 σ H3 (fun o H4 => o = some (-1) ∧ H4 = H3) I3 ⟨1, rfl, -1, rfl, rfl, rfl⟩) fun vs s4 ⟨o, H4, I4, ps, eo, e4⟩ => ?_
  subst eo e4
  have I5 : Inv X pins σ H4 { s4 with heap := s4.heap.push { cls := .type "slice", data := .fields #[vl, vu, vs] } } := I4.kept (t' := s4.toks) fun b ob q => Heap.get?_push_of_some _ q
  show wpAny (model X.prog X.w) X.A (subscriptTail e (.Slice none none (some (.UnaryOp .USub (.Constant (.int 1) k p1) p2)) p3) (.ref a) (.ref s4.heap.objs.size)) (EP X pins σ Q) X.xe { s4 with heap := s4.heap.push { cls := .type "slice", data := .fields #[vl, vu, vs] } }
  rcases q with ⟨hx, q⟩ | ⟨hx, q⟩
  · obtain ⟨its, r, ht, hz⟩ := I5.list hx
    have hlen := r.length
    refine tail_any (ops := [.ref a, .ref s4.heap.objs.size]) ht.isList.typeIs (PySem.slot_list_getitem.lookup) ?_ (by with_unfolding_all rfl)
    refine wpAny_getItem_list_slice ht.isList (Heap.IsSliceOf.new _ vl vu vs) pl pu ps (by decide) ?_ (by rw [List.size_toArray]; omega)
    rw [PySem.W.krv_pick]
    refine ⟨.ref _, _, I5.laid (t' := s4.toks) (o := .lst xs.reverse) (fun b ob q => Heap.get?_push_of_some _ q) (Nat.le_refl _) ?_, rfl, q _ (I5.hok.fresh (Nat.le_refl _))⟩
    exact ⟨by rw [List.length_reverse]; exact hz, _, 0, r.reverse, Heap.get?_push_size _ rfl⟩
  · obtain ⟨its, r, ht, hz⟩ := I5.tuple hx
    have hlen := r.length
    refine tail_any (ops := [.ref a, .ref s4.heap.objs.size]) ht.typeIs (PyProof.Rows.slot_tuple_getitem.lookup) ?_ (by with_unfolding_all rfl)
    refine HT.getItem_tuple_rev ht (Heap.IsSliceOf.new _ vl vu vs) pl pu ps ?_ (by rw [List.size_toArray]; omega)
    refine ⟨.ref _, _, I5.laid (t' := s4.toks) (o := .tup xs.reverse) (fun b ob q => Heap.get?_push_of_some _ q) (Nat.le_refl _) ?_, rfl, q _ (I5.hok.fresh (Nat.le_refl _))⟩
    exact ⟨by rw [List.length_reverse]; exact hz, _, r.reverse, IsTup.new _ _⟩
end
end L2
end

section
set_option Elab.async false
set_option linter.all false
set_option maxRecDepth 100000
set_option maxHeartbeats 4000000
namespace Li
open PySem PySem.Spec PyProof.Rows L2 GxR GX
def RelB (_ : Hp) (_ : List Addr) (a b : Bool) : Prop := a = b
def RelO (_ : Hp) (_ : List Addr) (a b : Option Int) : Prop := a = b
def ItR (tabs : List Addr) (Z : Hp) (ρ : List Addr) (a : Itm) (J : It) : Prop := ItS tabs J a.1 a.2 ρ Z
/-- a def's promise -/
def spF (tabs : List Addr) (mg : Str → Option Value) (F : Fn) (f : Nat) : Sp := fun vs H Q E => ∃ ρ Z S ds, Rst tabs ρ Z S H ∧ RelDs Z ρ ds vs ∧ Sat tabs mg E RelD Q ρ Z H (F f ds S)
def bNames : List Str := ["len", "max", "min", "int", "list", "tuple", "sum", "sorted", "abs", "isinstance", "bool", "all", "any", "range", "enumerate", "reversed", "dict", "super"]
structure Good (tabs : List Addr) (F : Fn) (lv : Nat) (c : SC) (E : XK) (X : Cx) : Prop where
  N : X.N = c.N
  nd : X.N.Nodup
  kind : X.env.scope.kind = .function
  names : X.env.scope.names = c.sn
  co : ∀ x, c.co x = true → X.fn x = true
  calm : X.calm = true
  room : Room lv X.A
  roomG : c.gen = true → Room (lv + 1) X.A
  bi : ∀ x ∈ bNames, X.mg x = none
  gi : ∀ x n, c.gi x = some n → ∃ t, X.mg x = some (.int n t)
  fns : ∀ f x, c.ft f = some x → ∃ a fd ps, X.mg x = some (.ref a) ∧ PySem.W.keepIn X.K (.ref a) = true ∧ Binds X.K fd ps [] ∧ FnOk X.prog X.w X.K X.mg X.base (L2.CX X.prog X.w) lv a fd ps (spF tabs X.mg F f)
  pass : Passes (L2.CX X.prog X.w) X E
  tab : c.gen = true → ∃ cd P, X.env.code = .ref cd ∧ GxR.TabB X.base X.mg cd P ∧ P ∈ tabs
section
variable {tabs : List Addr} {mg : Str → Option Value} {E : XK} {α β γ δ : Type} {R : Hp → List Addr → α → β → Prop} {Q Q' : β → Hp → Prop} {σ : L2.St} {H : Hp} {m : GE → Store → Res α}
theorem tG_mono (h : tG tabs mg E R m σ H Q) (k : ∀ b H1, Q b H1 → Q' b H1) : tG tabs mg E R m σ H Q' := by
  obtain ⟨ρ, Z, S, g, rs, sl, q⟩ := h
  exact ⟨ρ, Z, S, g, rs, sl, q.mono k⟩
end
section
variable {tabs : List Addr} {F : Fn} {lv : Nat} {c : SC} {E : XK} {X : Cx} {pos : Pos} {e ea eb ec : Expr} {xs : List Expr}
abbrev Te (tabs : List Addr) (X : Cx) (E : XK) (F : Fn) (ce : CE) : TE := tG tabs X.mg E RelD (ev F ce)
abbrev Ta (tabs : List Addr) (X : Cx) (E : XK) (F : Fn) (es : CEs) : TA := tG tabs X.mg E RelDs (evs F es)
abbrev Tt (tabs : List Addr) (X : Cx) (E : XK) (F : Fn) (ce : CE) : TT := tG tabs X.mg E RelB (evT F ce)
theorem Good.gl (G : Good tabs F lv c E X) {x : Str} (h : glC c x = true) : Gl X x := by
  show X.env.scope.names.lookup x = _
  rw [G.names]
  unfold glC at h
  split at h
  · assumption
  · cases h
theorem Good.vis (G : Good tabs F lv c E X) {x : Str} (h : visC c x = true) : Vis X.env.scope x := by
  unfold Vis
  rw [G.names]
  unfold visC at h
  split at h
  · exact .inl (by assumption)
  · exact .inr (.inl (by assumption))
  · exact .inr (.inr (by assumption))
  · cases h
theorem Good.store (G : Good tabs F lv c E X) {x : Str} (h : storeC c x = true) : L2.Loc X.env.scope x ∧ (X.fn x = true ∨ X.env.scope.names.lookup x = some .local) := by
  unfold L2.Loc
  rw [G.names]
  unfold storeC at h
  split at h
  · exact ⟨.inl (by assumption), .inr (by assumption)⟩
  · exact ⟨.inr (by assumption), .inl (G.co x h)⟩
  · cases h
theorem at_eq {N : List Str} {i : Nat} {x : Str} (h : (match N[i]? with | some y => y == x | none => false) = true) : N[i]? = some x := by
  split at h
  · rename_i y hy; rw [hy, eq_of_beq h]
  · cases h
theorem c_var (G : Good tabs F lv c E X) {i : Nat} {x : Str} (hN : X.N[i]? = some x) (hv : Vis X.env.scope x) (hd : (x == ("__debug__" : Str)) = false) (hcd : (x == ("__classdict__" : Str)) = false) : PE X (.Name x pos) (Te tabs X E F (.var i)) := by
  refine PE.imp (pe_var hN hv hd hcd) fun σ H Q ⟨ρ, Z, S, g, rs, sl, h⟩ => ?_
  simp only [ev] at h
  split at h
  · rename_i d hd
    obtain ⟨v, hv, rv⟩ := sl.2 i d hd
    exact ⟨v, hv, sat_ok rs h rv⟩
  · exact h.elim
theorem c_int {i : Int} {j} : PE X (.Constant (.int i) j pos) (Te tabs X E F (.cst (.int i))) := PE.imp pe_int fun σ H Q ⟨ρ, Z, S, g, rs, sl, h⟩ => by simp only [ev] at h; exact sat_ok rs h (.int _)
theorem c_bl {b : Bool} {j} : PE X (.Constant (.bool b) j pos) (Te tabs X E F (.cst (.bl b))) := PE.imp pe_bl fun σ H Q ⟨ρ, Z, S, g, rs, sl, h⟩ => by simp only [ev] at h; exact sat_ok rs h (.bl _)
theorem c_non {j} : PE X (.Constant .none j pos) (Te tabs X E F (.cst .non)) := PE.imp pe_non fun σ H Q ⟨ρ, Z, S, g, rs, sl, h⟩ => by simp only [ev] at h; exact sat_ok rs h .non
theorem c_str {x : Str} {j} : PE X (.Constant (.str x) j pos) (Te tabs X E F (.cst (.str x))) := PE.imp pe_str fun σ H Q ⟨ρ, Z, S, g, rs, sl, h⟩ => by simp only [ev] at h; exact sat_ok rs h (.str _)
theorem merge_ent : ∀ {kvs acc : List (Key × V)}, ((acc ++ kvs).map (·.1)).Nodup → mergeK acc kvs = acc ++ kvs
  | [], acc, _ => by unfold mergeK; simp
  | p :: r, acc, h => by
    have hn : valV acc p.1 = none := by
      cases e : valV acc p.1 with
      | none => rfl
      | some v =>
        have hm := valV_in e
        rw [List.map_append, List.map_cons, List.nodup_append] at h
        exact absurd rfl (h.2.2 p.1 hm p.1 List.mem_cons_self)
    have e : mergeK acc (p :: r) = mergeK (putK acc p.1 p.2) r := rfl
    rw [e, putK_new _ hn]
    have e2 : acc ++ [(p.1, p.2)] ++ r = acc ++ p :: r := by simp
    rw [merge_ent (by rw [e2]; exact h), e2]
def pairT (q : Str × Fl) : TE × TE := (tC (.str q.1), tC q.2.v)
theorem dct_pps : ∀ {kvs : List (Str × Fl)} {keys : List (Option Expr)} {vals : List Expr} {pos : Pos}, dctX kvs keys vals = true → PPs X pos keys vals (kvs.map pairT) ∧ keys.all (·.isSome) = true ∧ keys.length = vals.length ∧ keys.length = kvs.length
  | [], [], [], pos, _ => ⟨pps_nil, rfl, rfl, rfl⟩
  | (k, .bl b) :: r, some (.Constant (.str k') _ _) :: ks, .Constant (.bool b') _ _ :: vs, pos, h => by
    simp only [dctX, Bool.and_eq_true, beq_iff_eq] at h
    obtain ⟨⟨rfl, rfl⟩, h⟩ := h
    obtain ⟨h1, h2, h3, h4⟩ := dct_pps (pos := pos) h
    exact ⟨pps_cons pe_str pe_bl h1, by simpa using h2, by simp [h3], by simp [h4]⟩
  | (k, .str b) :: r, some (.Constant (.str k') _ _) :: ks, .Constant (.str b') _ _ :: vs, pos, h => by
    simp only [dctX, Bool.and_eq_true, beq_iff_eq] at h
    obtain ⟨⟨rfl, rfl⟩, h⟩ := h
    obtain ⟨h1, h2, h3, h4⟩ := dct_pps (pos := pos) h
    exact ⟨pps_cons pe_str pe_str h1, by simpa using h2, by simp [h3], by simp [h4]⟩
theorem pair_run : ∀ {kvs : List (Str × Fl)} {σ : L2.St} {H : Hp} {Q : List (V × V) → Hp → Prop}, Q (kvs.map fun q => (V.str q.1, q.2.v)) H → tPairs (kvs.map pairT) σ H Q
  | [], _, _, _, h => h
  | q :: r, σ, H, Q, h => by
    show tPairs (r.map pairT) σ H fun ps H3 => Q ((V.str q.1, q.2.v) :: ps) H3
    exact pair_run h
theorem c_dct {kvs : List (Str × Fl)} {keys : List (Option Expr)} {vals : List Expr} (h : dctX kvs keys vals = true) (h15 : kvs.length ≤ 15) (h0 : kvs.isEmpty = false) (nd : (kvs.map (·.1)).Nodup) : PE X (.Dict keys vals pos) (Te tabs X E F (.cst (.dct kvs))) := by
  obtain ⟨h1, h2, h3, h4⟩ := dct_pps (X := X) (pos := pos) h
  refine PE.imp (pe_disp h1 h2 h3 (by rintro rfl; cases kvs with | nil => cases h0 | cons a b => cases h4) (by omega)) fun σ H Q ⟨ρ, Z, S, g, rs, sl, hh⟩ => ?_
  simp only [ev] at hh
  intro p hp
  refine pair_run ⟨upd_same, kvs.map entF, by rw [List.map_map]; rfl, by rw [List.length_map]; exact h15, ?_⟩
  rw [merge_ent (by rw [List.nil_append, List.map_map]; exact nd_inr nd), List.nil_append, upd_upd]
  exact sat_dct rs hh p hp
theorem c_gint (G : Good tabs F lv c E X) {x : Str} {n : Int} (hg : Gl X x) (hd : (x == ("__debug__" : Str)) = false) (hi : c.gi x = some n) : PE X (.Name x pos) (Te tabs X E F (.gint x n)) := by
  obtain ⟨t, ht⟩ := G.gi x n hi
  exact PE.imp (pe_glob (v := .int n) hg ht ⟨t, rfl⟩ hd) fun σ H Q ⟨ρ, Z, S, g, rs, sl, h⟩ => by simp only [ev] at h; exact sat_ok rs h (.int _)
theorem c_bin {a b : CE} (op : BOp) (ha : PE X ea (Te tabs X E F a)) (hb : PE X eb (Te tabs X E F b)) : PE X (.BinOp ea (bopS op) eb pos) (Te tabs X E F (.bin op a b)) := by
  refine PE.imp (pe_op (op_bo op) ha hb) fun σ H Q ⟨ρ, Z, S, g, rs, sl, h⟩ => ?_
  simp only [ev] at h
  refine tG_mono (sat_bind (R1 := RelD) rs sl h) fun x H1 ⟨ρ1, Z1, S1, a, p1, r1, h1⟩ => tG_mono (sat_bind (R1 := RelD) p1.st (sl.post p1) h1) fun y H2 ⟨ρ2, Z2, S2, b, p2, r2, h2⟩ => ?_
  exact rd_bo op p2.st (r1.mono p2.zm p2.pre) r2 h2
theorem c_cmp {a b : CE} (G : Good tabs F lv c E X) (op : COp) (ha : PE X ea (Te tabs X E F a)) (hb : PE X eb (Te tabs X E F b)) (hm : behindInMarks (copS op) eb = false) : PE X (.Compare ea [copS op] [eb] pos) (Te tabs X E F (.cmp op a b)) := by
  refine PE.imp (pe_cmpR (op_co G.room.units op) ha hb hm) fun σ H Q ⟨ρ, Z, S, g, rs, sl, h⟩ => ?_
  simp only [ev] at h
  refine tG_mono (sat_bind (R1 := RelD) rs sl h) fun x H1 ⟨ρ1, Z1, S1, a, p1, r1, h1⟩ => tG_mono (sat_bind (R1 := RelD) p1.st (sl.post p1) h1) fun y H2 ⟨ρ2, Z2, S2, b, p2, r2, h2⟩ => ?_
  exact rd_co op p2.st (r1.mono p2.zm p2.pre) r2 h2
theorem copR_bl {op : COp} {a b d : D} {S S' : Store} (h : copR op a b S = .ok d S') : S' = S ∧ ∃ t, d = .bl t := by
  unfold copR at h
  split at h
  all_goals first
    | (cases h; exact ⟨rfl, _, rfl⟩)
    | (split at h
       · cases h; exact ⟨rfl, _, rfl⟩
       · cases h)
    | cases h
theorem copR_ex {op : COp} {a b : D} {e : Ex} {S S' : Store} (h : copR op a b S = .exc e S') : False := by
  unfold copR at h
  split at h
  all_goals first
    | cases h
    | (split at h <;> cases h)
theorem sat_cop {mg : Str → Option Value} {ρ : List Addr} {Z H : Hp} {S : Store} {α β : Type} {R : Hp → List Addr → α → β → Prop} {Q : β → Hp → Prop} {op : COp} {a b : D} {k : D → Store → Res α} (h : Sat tabs mg E R Q ρ Z H ((copR op a b S).bind k)) : ∃ t, copR op a b S = .ok (.bl t) S ∧ Sat tabs mg E R Q ρ Z H (k (.bl t) S) := by
  cases e : copR op a b S with
  | ok d S' =>
    obtain ⟨rfl, t, rfl⟩ := copR_bl e
    rw [e] at h
    exact ⟨t, rfl, h⟩
  | exc x S' => exact (copR_ex e).elim
  | stuck => rw [e] at h; exact h.elim
theorem sat_of_ok {mg : Str → Option Value} {ρ : List Addr} {Z H : Hp} {S : Store} {Q : VK} {t : Bool} (h : Q (.bl t) H) : ∀ {r : Res D}, r = .ok (.bl t) S → Rst tabs ρ Z S H → (∀ ρ' Z' H', Post tabs ρ Z H ρ' Z' S H' → Q (.bl t) H') → Sat tabs mg E RelD Q ρ Z H r := by
  rintro r rfl rs k
  intro b ρ' Z' H' p rr
  rw [rel_bl rr]
  exact k ρ' Z' H' p
theorem c_cmp2 {a b d : CE} (G : Good tabs F lv c E X) (o1 o2 : COp) (ha : PE X ea (Te tabs X E F a)) (hb : PE X eb (Te tabs X E F b)) (hc : PE X ec (Te tabs X E F d)) (hm : lastMarks [copS o1, copS o2] [eb, ec] = false) :
    PE X (.Compare ea [copS o1, copS o2] [eb, ec] pos) (Te tabs X E F (.cmp2 o1 o2 a b d)) := by
  refine PE.imp (pe_chain (op_co G.room.units o1) (op_co G.room.units o2) ha hb hc hm) fun σ H Q ⟨ρ, Z, S, g, rs, sl, h⟩ => ?_
  simp only [ev] at h
  refine tG_mono (sat_bind (R1 := RelD) rs sl h) fun x H1 ⟨ρ1, Z1, S1, a, p1, r1, h1⟩ => tG_mono (sat_bind (R1 := RelD) p1.st (sl.post p1) h1) fun y H2 ⟨ρ2, Z2, S2, b, p2, r2, h2⟩ => ?_
  obtain ⟨t, et, h3⟩ := sat_cop h2
  refine rd_co o1 (tabs := tabs) (mg := X.mg) (E := E) p2.st (r1.mono p2.zm p2.pre) r2 ?_
  rw [et]
  intro v ρ3 Z3 H3 p3 rr
  refine ⟨t, rel_bl rr, ?_⟩
  cases t with
  | false =>
    simp only [Bool.false_eq_true, if_false]
    exact sat_ok p3.st (h3.trans p3) (.bl _)
  | true =>
    simp only [if_true]
    refine tG_mono (sat_bind (R1 := RelD) p3.st (((sl.post p1).post p2).post p3) (h3.trans p3)) fun y H4 ⟨ρ4, Z4, S4, b4, p4, r4, h4⟩ => ?_
    exact rd_co o2 p4.st ((r2.mono p3.zm p3.pre).mono p4.zm p4.pre) r4 h4
theorem c_not {a : CE} (ha : PE X ea (Te tabs X E F a)) : PE X (.UnaryOp .Not ea pos) (Te tabs X E F (.not_ a)) := by
  refine PE.imp (pe_not ha) fun σ H Q ⟨ρ, Z, S, g, rs, sl, h⟩ => ?_
  simp only [ev] at h
  refine tG_mono (sat_bind (R1 := RelD) rs sl h) fun x H1 ⟨ρ1, Z1, S1, a, p1, r1, h1⟩ => ?_
  split at h1
  · exact ⟨_, rel_bl r1, sat_ok p1.st h1 (.bl _)⟩
  · exact h1.elim
theorem c_neg {a : CE} (ha : PE X ea (Te tabs X E F a)) : PE X (.UnaryOp .USub ea pos) (Te tabs X E F (.neg a)) := by
  refine PE.imp (pe_un un_neg ha) fun σ H Q ⟨ρ, Z, S, g, rs, sl, h⟩ => ?_
  simp only [ev] at h
  refine tG_mono (sat_bind (R1 := RelD) rs sl h) fun x H1 ⟨ρ1, Z1, S1, a, p1, r1, h1⟩ => ?_
  split at h1
  · exact ⟨_, rel_int r1, sat_ok p1.st h1 (.int _)⟩
  · exact h1.elim
theorem c_ite {t a b : CE} (ht : PT X ec (Tt tabs X E F t)) (ha : PE X ea (Te tabs X E F a)) (hb : PE X eb (Te tabs X E F b)) : PE X (.IfExp ec ea eb pos) (Te tabs X E F (.ite t a b)) := by
  refine PE.imp (pe_ifExp ht ha hb) fun σ H Q ⟨ρ, Z, S, g, rs, sl, h⟩ => ?_
  simp only [ev] at h
  refine tG_mono (sat_bind (R1 := RelB) rs sl h) fun x H1 ⟨ρ1, Z1, S1, a, p1, r1, h1⟩ => ?_
  cases (show a = x from r1)
  split
  · rename_i ht; rw [if_pos ht] at h1; exact ⟨ρ1, Z1, S1, g, p1.st, sl.post p1, h1⟩
  · rename_i ht; rw [if_neg ht] at h1; exact ⟨ρ1, Z1, S1, g, p1.st, sl.post p1, h1⟩
theorem c_tup {es : CEs} {k} (ha : PA X xs (Ta tabs X E F es)) : PE X (.Tuple xs k pos) (Te tabs X E F (.tup es)) := by
  refine PE.imp (pe_tup ha) fun σ H Q ⟨ρ, Z, S, g, rs, sl, h⟩ => ?_
  simp only [ev] at h
  refine tG_mono (sat_bind (R1 := RelDs) rs sl h) fun vs H1 ⟨ρ1, Z1, S1, ds, p1, r1, h1⟩ => ?_
  split at h1
  · rename_i hz
    exact ⟨by rw [← r1.length]; exact hz, fun p hp => sat_tup p1.st h1 r1 p hp⟩
  · exact h1.elim
theorem c_lst {es : CEs} (ha : PA X xs (Ta tabs X E F es)) : PE X (.List xs pos) (Te tabs X E F (.lst es)) := by
  refine PE.imp (pe_lst ha) fun σ H Q ⟨ρ, Z, S, g, rs, sl, h⟩ => ?_
  simp only [ev] at h
  refine tG_mono (sat_bind (R1 := RelDs) rs sl h) fun vs H1 ⟨ρ1, Z1, S1, ds, p1, r1, h1⟩ => ?_
  split at h1
  · rename_i hz
    exact ⟨by rw [← r1.length]; exact hz, fun p hp => sat_alloc p1.st h1 r1 p hp⟩
  · exact h1.elim
theorem c_idx {a b : CE} (ha : PE X ea (Te tabs X E F a)) (hb : PE X eb (Te tabs X E F b)) (hp : PlainIx eb) : PE X (.Subscript ea eb pos) (Te tabs X E F (.idx a b)) := by
  refine PE.imp (pe_ix (IxR.or ix_list ix_tup) ha hb hp) fun σ H Q ⟨ρ, Z, S, g, rs, sl, h⟩ => ?_
  simp only [ev] at h
  refine tG_mono (sat_bind (R1 := RelD) rs sl h) fun x H1 ⟨ρ1, Z1, S1, a, p1, r1, h1⟩ => tG_mono (sat_bind (R1 := RelD) p1.st (sl.post p1) h1) fun y H2 ⟨ρ2, Z2, S2, b, p2, r2, h2⟩ => ?_
  exact rd_ix p2.st (r1.mono p2.zm p2.pre) r2 h2
theorem c_sl {a : CE} {lo hi : CO} {l h : Option Expr} {p2 : Pos} (ha : PE X ea (Te tabs X E F a)) (hl : PO X l (tG tabs X.mg E RelO (evO F lo))) (hh : PO X h (tG tabs X.mg E RelO (evO F hi))) : PE X (.Subscript ea (.Slice l h none p2) pos) (Te tabs X E F (.sl a lo hi)) := by
  refine PE.imp (pe_slice (SlR.or sl_list sl_tupA) ha hl hh) fun σ H Q ⟨ρ, Z, S, g, rs, sl, h⟩ => ?_
  simp only [ev] at h
  refine tG_mono (sat_bind (R1 := RelD) rs sl h) fun x H1 ⟨ρ1, Z1, S1, a, p1, r1, h1⟩ => tG_mono (sat_bind (R1 := RelO) p1.st (sl.post p1) h1) fun y H2 ⟨ρ2, Z2, S2, b, p2, r2, h2⟩ =>
    tG_mono (sat_bind (R1 := RelO) p2.st ((sl.post p1).post p2) h2) fun z H3 ⟨ρ3, Z3, S3, b3, p3, r3, h3⟩ => ?_
  cases (show b = y from r2)
  cases (show b3 = z from r3)
  exact rd_sl p3.st ((r1.mono p2.zm p2.pre).mono p3.zm p3.pre) h3
theorem c_rev {a : CE} {k : Nat} {p1 p2 p3 : Pos} (ha : PE X ea (Te tabs X E F a)) : PE X (.Subscript ea (.Slice none none (some (.UnaryOp .USub (.Constant (.int 1) k p1) p2)) p3) pos) (Te tabs X E F (.rev a)) := by
  refine PE.imp (pe_revA ha) fun σ H Q ⟨ρ, Z, S, g, rs, sl, h⟩ => ?_
  simp only [ev] at h
  refine tG_mono (sat_bind (R1 := RelD) rs sl h) fun x H1 ⟨ρ1, Z1, S1, a, p1, r1, h1⟩ => ?_
  unfold revR at h1
  split at h1
  · obtain ⟨p, vs, rfl, hq, rr⟩ := rel_tup (K := X.K) p1.st r1
    exact ⟨p, vs, rfl, .inr ⟨hq, fun q hq' => sat_tup p1.st h1 rr.reverse q hq'⟩⟩
  · split at h1
    · rename_i ys hx
      obtain ⟨p, vs, rfl, hq, rr⟩ := asL_rel (K := X.K) p1.st r1 hx
      exact ⟨p, vs, rfl, .inl ⟨hq, fun q hq' => sat_alloc p1.st h1 rr.reverse q hq'⟩⟩
    · exact h1.elim
theorem c_bi {es : CEs} {p : Pos} (G : Good tabs F lv c E X) (b : Bi) (hg : Gl X (biS b)) (ha : PA X (e :: xs) (Ta tabs X E F es))
    (he : starEach (e :: xs) X.env = (false, eval e X.env) :: starEach xs X.env) (hpl : (backTo pos (starEach xs X.env)).any (·.1) = false) : PE X (.Call (.Name (biS b) p) (e :: xs) [] pos) (Te tabs X E F (.bi b es)) := by
  refine PE.imp (pe_bi b G.calm hg (G.bi _ (by cases b <;> decide)) ha he hpl) fun σ H Q ⟨ρ, Z, S, g, rs, sl, h⟩ => ?_
  simp only [ev] at h
  refine tG_mono (sat_bind (R1 := RelDs) rs sl h) fun vs H1 ⟨ρ1, Z1, S1, ds, p1, r1, h1⟩ => ?_
  exact rd_bi b p1.st r1 h1
theorem sat_frz {mg : Str → Option Value} {ρ : List Addr} {Z H : Hp} {S : Store} {Q : VK} {r : Res D} (rs : Rst tabs ρ Z S H) (h : Sat tabs mg E RelD Q ρ Z H (frzR S r)) : Sat tabs mg E RelD Q ρ Z H r := by
  cases r with
  | ok d S' =>
    intro b ρ' Z' H' p rr
    unfold frzR at h
    rw [Res.bind_ok] at h
    split at h
    · rename_i d' hd
      split at h
      · rename_i ok
        obtain ⟨Z2, p2, r2⟩ := frz_post rs p ok hd rr
        exact h b ρ Z2 H' p2 r2
      · exact h.elim
    · exact h.elim
  | exc x S' => exact h
  | stuck => exact h
theorem c_call {es : CEs} {p : Pos} {x : Str} {f : Nat} (G : Good tabs F lv c E X) (hf : c.ft f = some x) (hg : Gl X x) (hd : (x == ("__debug__" : Str)) = false) (ha : PA X (e :: xs) (Ta tabs X E F es))
    (he : starEach (e :: xs) X.env = (false, eval e X.env) :: starEach xs X.env) (hpl : (backTo pos (starEach xs X.env)).any (·.1) = false) : PE X (.Call (.Name x p) (e :: xs) [] pos) (Te tabs X E F (.callR f es)) := by
  obtain ⟨a, fd, ps, hm, hk, hb, FO⟩ := G.fns f x hf
  refine PE.imp (pe_call FO G.room hg hm hk hb .nil G.pass ha hd he hpl) fun σ H Q ⟨ρ, Z, S, g, rs, sl, h⟩ => ?_
  simp only [ev] at h
  refine tG_mono (sat_bind (R1 := RelDs) rs sl h) fun vs H1 ⟨ρ1, Z1, S1, ds, p1, r1, h1⟩ => ?_
  rw [List.append_nil]
  exact ⟨ρ1, Z1, S1, ds, p1.st, r1, h1⟩
theorem c_callZ {es : CEs} {p : Pos} {x : Str} {f : Nat} (G : Good tabs F lv c E X) (hf : c.ft f = some x) (hg : Gl X x) (hd : (x == ("__debug__" : Str)) = false) (ha : PA X (e :: xs) (Ta tabs X E F es))
    (he : starEach (e :: xs) X.env = (false, eval e X.env) :: starEach xs X.env) (hpl : (backTo pos (starEach xs X.env)).any (·.1) = false) : PE X (.Call (.Name x p) (e :: xs) [] pos) (Te tabs X E F (.call f es)) := by
  obtain ⟨a, fd, ps, hm, hk, hb, FO⟩ := G.fns f x hf
  refine PE.imp (pe_call FO G.room hg hm hk hb .nil G.pass ha hd he hpl) fun σ H Q ⟨ρ, Z, S, g, rs, sl, h⟩ => ?_
  simp only [ev] at h
  refine tG_mono (sat_bind (R1 := RelDs) rs sl h) fun vs H1 ⟨ρ1, Z1, S1, ds, p1, r1, h1⟩ => ?_
  rw [List.append_nil]
  exact ⟨ρ1, Z1, S1, ds, p1.st, r1, sat_frz p1.st h1⟩
/-! ### dicts of the store -/
theorem relK_cons {κ : Type} {Z : Hp} {ρ : List Addr} {p : κ × Li.D} {r : List (κ × Li.D)} {kvs' : List (κ × V)} (h : RelK Z ρ (p :: r) kvs') : ∃ q s, kvs' = q :: s ∧ p.1 = q.1 ∧ RelD Z ρ p.2 q.2 ∧ RelK Z ρ r s := by
  cases kvs' with
  | nil => have h1 := h.1; simp at h1
  | cons q s =>
    have h1 := h.1
    have h2 := h.2
    simp only [List.map_cons, List.cons.injEq] at h1 h2
    cases h2 with
    | cons a b => exact ⟨q, s, rfl, h1.1, a, h1.2, b⟩
theorem relK_mk {κ : Type} {Z : Hp} {ρ : List Addr} {p : κ × Li.D} {q : κ × V} {r : List (κ × Li.D)} {s : List (κ × V)} (h1 : p.1 = q.1) (h2 : RelD Z ρ p.2 q.2) (h3 : RelK Z ρ r s) : RelK Z ρ (p :: r) (q :: s) := by
  refine ⟨by simp only [List.map_cons, h1, h3.1], ?_⟩
  simp only [List.map_cons]
  exact .cons h2 h3.2
theorem relK_nil {κ : Type} {Z : Hp} {ρ : List Addr} {kvs' : List (κ × V)} (h : RelK Z ρ [] kvs') : kvs' = [] := by
  have h1 := h.1
  cases kvs' with
  | nil => rfl
  | cons q s => simp at h1
theorem getKD_rel {Z : Hp} {ρ : List Addr} {κ : Type} [DecidableEq κ] {k : κ} {d : Li.D} : ∀ {kvs : List (κ × Li.D)} {kvs' : List (κ × V)}, RelK Z ρ kvs kvs' → getKD kvs k = some d → ∃ v, valV kvs' k = some v ∧ RelD Z ρ d v
  | [], _, _, h => by cases h
  | p :: r, kvs', hr, h => by
    obtain ⟨q, s, rfl, h1, h2, h3⟩ := relK_cons hr
    unfold getKD at h
    split at h
    · rename_i e
      cases h
      exact ⟨q.2, valV_pos (by rw [← h1]; exact e), h2⟩
    · rename_i e
      obtain ⟨v, hv, rv⟩ := getKD_rel h3 h
      exact ⟨v, by rw [valV_neg (by rw [← h1]; exact e)]; exact hv, rv⟩
theorem relK_any {Z : Hp} {ρ : List Addr} {κ : Type} [DecidableEq κ] {k : κ} : ∀ {kvs : List (κ × Li.D)} {kvs' : List (κ × V)}, RelK Z ρ kvs kvs' → (kvs.any fun kv => decide (kv.1 = k)) = (kvs'.any fun kv => decide (kv.1 = k))
  | [], kvs', h => by rw [relK_nil h]; rfl
  | p :: r, kvs', h => by
    obtain ⟨q, s, rfl, h1, h2, h3⟩ := relK_cons h
    rw [List.any_cons, List.any_cons, relK_any h3, h1]
theorem relK_map {Z : Hp} {ρ : List Addr} {κ : Type} [DecidableEq κ] {k : κ} {d : Li.D} {v : V} (rd : RelD Z ρ d v) : ∀ {kvs : List (κ × Li.D)} {kvs' : List (κ × V)}, RelK Z ρ kvs kvs' → RelK Z ρ (kvs.map fun kv => if kv.1 = k then (kv.1, d) else kv) (kvs'.map fun kv => if kv.1 = k then (kv.1, v) else kv)
  | [], kvs', h => by
    obtain rfl := relK_nil h
    exact ⟨rfl, .nil⟩
  | p :: r, kvs', h => by
    obtain ⟨q, s, rfl, h1, h2, h3⟩ := relK_cons h
    have ih := relK_map (k := k) rd h3
    by_cases e : p.1 = k
    · have e2 : q.1 = k := by rw [← h1]; exact e
      simp only [List.map_cons, if_pos e, if_pos e2]
      exact relK_mk h1 rd ih
    · have e2 : ¬ q.1 = k := by rw [← h1]; exact e
      simp only [List.map_cons, if_neg e, if_neg e2]
      exact relK_mk h1 h2 ih
theorem relK_snoc {Z : Hp} {ρ : List Addr} {κ : Type} [DecidableEq κ] {k : κ} {d : Li.D} {v : V} (rd : RelD Z ρ d v) : ∀ {kvs : List (κ × Li.D)} {kvs' : List (κ × V)}, RelK Z ρ kvs kvs' → RelK Z ρ (kvs ++ [(k, d)]) (kvs' ++ [(k, v)])
  | [], kvs', h => by rw [relK_nil h]; exact relK_mk (p := (k, d)) (q := (k, v)) rfl rd ⟨rfl, .nil⟩
  | p :: r, kvs', h => by
    obtain ⟨q, s, rfl, h1, h2, h3⟩ := relK_cons h
    exact relK_mk h1 h2 (relK_snoc rd h3)
theorem putKD_rel {Z : Hp} {ρ : List Addr} {κ : Type} [DecidableEq κ] {k : κ} {d : Li.D} {v : V} (rd : RelD Z ρ d v) {kvs : List (κ × Li.D)} {kvs' : List (κ × V)} (h : RelK Z ρ kvs kvs') : RelK Z ρ (putKD kvs k d) (putK kvs' k v) := by
  unfold putKD putK
  rw [relK_any h]
  split
  · exact relK_map rd h
  · exact relK_snoc rd h
theorem relK_len {κ : Type} {Z : Hp} {ρ : List Addr} {kvs : List (κ × Li.D)} {kvs' : List (κ × V)} (h : RelK Z ρ kvs kvs') : kvs.length = kvs'.length := by
  have := congrArg List.length h.1
  simpa using this
theorem keysD_rel {Z : Hp} {ρ : List Addr} : ∀ {xs : List Li.D} {k : List Key} {us : List V}, keysD xs = some k → RelDs Z ρ xs us → us = k.map kV
  | [], k, us, h, r => by cases h; cases r; rfl
  | d :: xs, k, us, h, r => by
    cases r with
    | cons r1 r2 =>
      simp only [keysD] at h
      split at h
      · rename_i k0 ks h0 hs
        cases h
        rw [keysD_rel hs r2]
        cases d <;> simp [keyD] at h0 <;> subst h0 <;> cases r1 <;> rfl
      · cases h
theorem tkey_rel {tabs : List Addr} {Z H : Hp} {ρ : List Addr} {S : Store} {y : Li.D} {v : V} {k : List Key} (rs : Rst tabs ρ Z S H) (r : RelD Z ρ y v) (h : tkey y = some k) : ∃ b, v = .ref b ∧ H b = some (.tup (k.map kV)) := by
  cases y with
  | tup xs =>
    cases r with
    | tup hz hr => exact ⟨_, rfl, by rw [rs.zle _ _ hz, keysD_rel h hr]⟩
  | _ => cases h
theorem c_dnt : PE X (.Dict [] [] pos) (Te tabs X E F .dnt) := by
  refine PE.imp pe_dnewT fun σ H Q ⟨ρ, Z, S, g, rs, sl, h⟩ => ?_
  simp only [ev] at h
  intro p hp
  refine h (.ref p) _ _ _ (rs.newT hp (ds := []) (vs := []) ⟨rfl, .nil⟩) (.ref ?_)
  rw [List.getElem?_append_right (by rw [rs.len]; exact Nat.le_refl _), rs.len, Nat.sub_self]; rfl
theorem tabT_rel {tabs : List Addr} {Z H : Hp} {ρ : List Addr} {S : Store} {x : Li.D} {v : V} {kvs : List (List Key × Li.D)} (rs : Rst tabs ρ Z S H) (r : RelD Z ρ x v) (h : tabT x S = some kvs) : ∃ a p kvs', x = .ref a ∧ v = .ref p ∧ S[a]? = some (.dtt kvs) ∧ ρ[a]? = some p ∧ H p = some (.dT kvs') ∧ RelK Z ρ kvs kvs' := by
  unfold tabT at h
  split at h
  · split at h
    · rename_i hs
      cases h
      cases r with
      | ref hp =>
        obtain ⟨_, kvs', e, rk⟩ := rs.ob _ _ _ hs hp
        exact ⟨_, _, kvs', rfl, rfl, hs, hp, e, rk⟩
    · cases h
  · cases h
theorem c_dgt (G : Good tabs F lv c E X) {a b : CE} (ha : PE X ea (Te tabs X E F a)) (hb : PE X eb (Te tabs X E F b)) (hn : NoSl eb) : PE X (.Subscript ea eb pos) (Te tabs X E F (.dgt a b)) := by
  refine PE.imp (pe_dget (by have := G.room.units; omega) ha hb hn) fun σ H Q ⟨ρ, Z, S, g, rs, sl, h⟩ => ?_
  simp only [ev] at h
  refine tG_mono (sat_bind (R1 := RelD) rs sl h) fun x H1 ⟨ρ1, Z1, S1, dx, p1, r1, h1⟩ => tG_mono (sat_bind (R1 := RelD) p1.st (sl.post p1) h1) fun y H2 ⟨ρ2, Z2, S2, dy, p2, r2, h2⟩ => ?_
  cases e : getT dx dy S2 with
  | none => rw [e] at h2; exact h2.elim
  | some d =>
    rw [e] at h2
    unfold getT at e
    split at e
    · rename_i kvs k ht hk
      obtain ⟨a, p, kvs', rfl, rfl, hs, hp, eH, rk⟩ := tabT_rel p2.st (r1.mono p2.zm p2.pre) ht
      obtain ⟨b, rfl, eb⟩ := tkey_rel p2.st r2 hk
      obtain ⟨v, hv, rv⟩ := getKD_rel rk e
      refine ⟨p, v, rfl, ?_, h2 v _ _ _ (Post.refl p2.st) rv⟩
      rw [← hv]
      exact DGet.t eH eb
    · cases e
theorem c_dgk (G : Good tabs F lv c E X) {a : CE} {k : Str} {j} {p : Pos} (ha : PE X ea (Te tabs X E F a)) : PE X (.Subscript ea (.Constant (.str k) j p) pos) (Te tabs X E F (.dgk a k)) := by
  refine PE.imp (pe_dget (by have := G.room.units; omega) ha pe_str (by intro v p2; rfl)) fun σ H Q ⟨ρ, Z, S, g, rs, sl, h⟩ => ?_
  simp only [ev] at h
  refine tG_mono (sat_bind (R1 := RelD) rs sl h) fun x H1 ⟨ρ1, Z1, S1, dx, p1, r1, h1⟩ => ?_
  cases e : getK dx k S1 with
  | none => rw [e] at h1; exact h1.elim
  | some d =>
    rw [e] at h1
    unfold getK at e
    split at e
    · split at e
      · rename_i kvs hs
        cases r1 with
        | ref hp =>
          obtain ⟨_, kvs', ek, rk⟩ := p1.st.ob _ _ _ hs hp
          obtain ⟨v, hv, rv⟩ := getKD_rel rk e
          refine ⟨_, v, rfl, ?_, h1 v _ _ _ (Post.refl p1.st) rv⟩
          rw [← hv]
          exact DGet.k (k := .inr k) ek
      · cases e
    · cases e
/-- the pairs of a display -/
def trD (tabs : List Addr) (X : Cx) (E : XK) (F : Fn) : List Str → CEs → List (TE × TE)
  | k :: ks, .cons e es => (tC (.str k), Te tabs X E F e) :: trD tabs X E F ks es
  | _, _ => []
theorem trD_mono {tabs : List Addr} {X : Cx} {E : XK} {F : Fn} {σ : L2.St} : ∀ {ks : List Str} {es : CEs} {H : Hp} {Q Q' : List (V × V) → Hp → Prop}, tPairs (trD tabs X E F ks es) σ H Q → (∀ ps H1, Q ps H1 → Q' ps H1) → tPairs (trD tabs X E F ks es) σ H Q'
  | [], .nil, H, Q, Q', h, k => k _ _ h
  | [], .cons e es, H, Q, Q', h, k => k _ _ h
  | _ :: _, .nil, H, Q, Q', h, k => k _ _ h
  | kk :: ks, .cons e es, H, Q, Q', h, k => by
    have h : tG tabs X.mg E RelD (ev F e) σ H fun v H1 => tPairs (trD tabs X E F ks es) σ H1 fun ps H3 => Q ((.str kk, v) :: ps) H3 := h
    exact tG_mono h fun v H1 h1 => trD_mono h1 fun ps H3 h3 => k _ _ h3
theorem keyX_all : ∀ {ks : List Str} {keys : List (Option Expr)}, keyX ks keys = true → keys.all (·.isSome) = true ∧ keys.length = ks.length
  | [], [], _ => ⟨rfl, rfl⟩
  | k :: r, some (.Constant (.str k') j p) :: keys, h => by
    simp only [keyX, Bool.and_eq_true] at h
    obtain ⟨a, b⟩ := keyX_all h.2
    exact ⟨by simpa using a, by simp [b]⟩
theorem disp_run {tabs : List Addr} {X : Cx} {E : XK} {F : Fn} {σ : L2.St} {g : GE} {D : Addr} {H0 : Hp} {ρ0 : List Addr} {Z0 : Hp} (hD : H0 D = none) : ∀ {ks : List Str} {es : CEs} {S : Store} {ρ : List Addr} {Z H : Hp} {ds : List Li.D} {S1 : Store},
    evs F es g S = .ok ds S1 → ds.length = ks.length → Post tabs ρ0 Z0 H0 ρ Z S H → SlR Z ρ g σ → D ∉ ρ → Z D = none → H D = some (.dK []) →
    tPairs (trD tabs X E F ks es) σ H fun ps H2 => ∃ ρ' Z' vs, Post tabs ρ0 Z0 H0 ρ' Z' S1 H2 ∧ D ∉ ρ' ∧ Z' D = none ∧ H2 D = some (.dK []) ∧ RelDs Z' ρ' ds vs ∧ Pre ρ ρ' ∧ Le Z Z' ∧ ps = (ks.zip vs).map fun p => (V.str p.1, p.2)
  | [], .nil, S, ρ, Z, H, ds, S1, he, hl, p, sl, n1, n2, n3 => by
    simp only [evs] at he
    cases he
    exact ⟨ρ, Z, [], p, n1, n2, n3, .nil, Pre.refl _, Le.refl _, rfl⟩
  | [], .cons e es, S, ρ, Z, H, ds, S1, he, hl, p, sl, n1, n2, n3 => by
    have : ds = [] := List.length_eq_zero_iff.mp hl
    subst this
    simp only [evs] at he
    cases e1 : ev F e g S with
    | ok d S' =>
      rw [e1, Res.bind_ok] at he
      cases e2 : evs F es g S' with
      | ok ds' S2 => rw [e2, Res.bind_ok] at he; cases he
      | exc x S2 => rw [e2] at he; cases he
      | stuck => rw [e2] at he; cases he
    | exc x S' => rw [e1] at he; cases he
    | stuck => rw [e1] at he; cases he
  | k :: ks, .nil, S, ρ, Z, H, ds, S1, he, hl, p, sl, n1, n2, n3 => by
    simp only [evs] at he
    cases he
    cases hl
  | k :: ks, .cons e es, S, ρ, Z, H, ds, S1, he, hl, p, sl, n1, n2, n3 => by
    simp only [evs] at he
    cases e1 : ev F e g S with
    | ok d S' =>
      rw [e1, Res.bind_ok] at he
      cases e2 : evs F es g S' with
      | ok ds' S2 =>
        rw [e2, Res.bind_ok] at he
        cases he
        show tG tabs X.mg E RelD (ev F e) σ H fun v H1 => tPairs (trD tabs X E F ks es) σ H1 _
        refine ⟨ρ, Z, S, g, p.st, sl, ?_⟩
        rw [e1]
        intro v ρ1 Z1 H1 p1 r1
        have hHD : H D ≠ none := by rw [n3]; intro z; cases z
        have m1 : D ∉ ρ1 := fun z => hHD (p1.fresh D z n1)
        have m2 : Z1 D = none := p1.zf D n2 hHD fun vs z => by rw [n3] at z; cases z
        have m3 : H1 D = some (.dK []) := p1.ev D _ n3 n1 fun q z => by cases z
        have ih := disp_run (tabs := tabs) (X := X) (E := E) (F := F) (σ := σ) (g := g) (D := D) (H0 := H0) (ρ0 := ρ0) (Z0 := Z0) hD (ks := ks) (es := es) e2 (by simpa using hl) (p.trans p1) (sl.post p1) m1 m2 m3
        refine trD_mono ih fun ps H2 ⟨ρ2, Z2, vs, q1, q2, q3, q4, q5, q6, q7, q8⟩ => ?_
        exact ⟨ρ2, Z2, v :: vs, q1, q2, q3, q4, .cons (r1.mono q7 q6) q5, p1.pre.trans q6, p1.zm.trans q7, by rw [q8]; rfl⟩
      | exc x S2 => rw [e2] at he; cases he
      | stuck => rw [e2] at he; cases he
    | exc x S' => rw [e1] at he; cases he
    | stuck => rw [e1] at he; cases he
theorem mkK_rel {Z : Hp} {ρ : List Addr} : ∀ {ks : List Str} {ds : List Li.D} {vs : List V}, ds.length = ks.length → RelDs Z ρ ds vs → RelK Z ρ (mkK ks ds) ((ks.zip vs).map fun p => (.inr p.1, p.2))
  | [], ds, vs, hl, r => by
    have : ds = [] := List.length_eq_zero_iff.mp hl
    subst this
    cases r
    exact ⟨rfl, .nil⟩
  | k :: ks, [], vs, hl, r => by cases hl
  | k :: ks, d :: ds, vs, hl, r => by
    cases r with
    | cons a b =>
      exact relK_mk (p := (.inr k, d)) (q := (.inr k, _)) rfl a (mkK_rel (by simpa using hl) b)
theorem c_dsp {ks : List Str} {es : CEs} {keys : List (Option Expr)} {vals : List Expr} (hk : keyX ks keys = true) (hp : PPs X pos keys vals (trD tabs X E F ks es)) (h15 : ks.length ≤ 15) (h0 : ks.isEmpty = false) (nd : ks.Nodup) (hl : ks.length = vals.length) : PE X (.Dict keys vals pos) (Te tabs X E F (.dsp ks es)) := by
  obtain ⟨h1, h2⟩ := keyX_all hk
  refine PE.imp (pe_disp hp h1 (by omega) (by rintro rfl; cases ks with | nil => cases h0 | cons a b => cases h2) (by omega)) fun σ H Q ⟨ρ, Z, S, g, rs, sl, hh⟩ => ?_
  simp only [ev] at hh
  cases e1 : evs F es g S with
  | exc x S' => rw [e1] at hh; exact hh.elim
  | stuck => rw [e1] at hh; exact hh.elim
  | ok ds S1 =>
    rw [e1, Res.noexc_ok, Res.bind_ok] at hh
    split at hh
    · rename_i hz
      intro D hD
      have nD : D ∉ ρ := fun z => by
        obtain ⟨_, u, e, _⟩ := rs.mem_there z
        rw [hD] at e; cases e
      have nZ : Z D = none := by
        cases e : Z D with
        | none => rfl
        | some o => rw [rs.zle D o e] at hD; cases hD
      have p0 := (Post.refl rs).updF hD nD nZ (fun q => by rw [hD]; intro z; cases z) (o := .dK []) (fun q z => by cases z)
      refine trD_mono (disp_run hD e1 hz p0 sl nD nZ upd_same) fun ps H2 ⟨ρ', Z', vs, q1, q2, q3, q4, q5, q6, q7, q8⟩ => ?_
      have hlv : vs.length = ks.length := by rw [← q5.length]; exact hz
      have hkeys : ((ks.zip vs).map fun p => ((.inr p.1, p.2) : Key × V)).map (·.1) = ks.map .inr := by
        rw [List.map_map]
        have : (ks.zip vs).map (fun p => p.1) = ks := by rw [List.map_fst_zip]; omega
        conv => rhs; rw [← this]
        rw [List.map_map]; rfl
      refine ⟨q4, (ks.zip vs).map fun p => (.inr p.1, p.2), by rw [q8, List.map_map]; rfl, by rw [List.length_map, List.length_zip]; omega, ?_⟩
      rw [merge_ent (by rw [List.nil_append, hkeys]; exact nd.map _ fun a b hab h => hab (by cases h; rfl)), List.nil_append]
      have p3 := q1.updF hD q2 q3 (fun q => by rw [q4]; intro z; cases z) (o := .dK ((ks.zip vs).map fun p => (.inr p.1, p.2))) (fun q z => by cases z)
      have p4 := p3.adoptD hD q2 q3 upd_same (mkK_rel hz q5)
      exact hh (.ref D) _ _ _ p4 (.ref (by rw [List.getElem?_append_right (by rw [q1.st.len]; exact Nat.le_refl _), q1.st.len, Nat.sub_self]; rfl))
    · exact hh.elim
end
end Li
end

section
set_option Elab.async false
set_option linter.all false
set_option maxRecDepth 100000
set_option maxHeartbeats 4000000
namespace Li
open PySem PySem.Spec PyProof.Rows L2 GxR GX
section
variable {tabs : List Addr} {F : Fn} {lv : Nat} {c : SC} {E : XK} {X : Cx} {pos : Pos} {e ea eb ec : Expr} {xs : List Expr}
abbrev E0 : XK := fun _ _ _ => False
/-- no star -/
def nst : Expr → Bool
  | .Starred _ _ => false
  | _ => true
theorem star_nst {e : Expr} (h : nst e = true) (es : List Expr) (env : Env) : starEach (e :: es) env = (false, eval e env) :: starEach es env := by
  cases e <;> first | rfl | cases h
theorem star_any {es : List Expr} (h : es.all nst = true) (p : Pos) (env : Env) : (backTo p (starEach es env)).any (·.1) = false := by
  induction es with
  | nil => rfl
  | cons e es ih =>
    rw [List.all_cons, Bool.and_eq_true] at h
    rw [star_nst h.1]
    show (false || (backTo p (starEach es env)).any (·.1)) = false
    rw [ih h.2]; rfl
theorem base_rcv {eo : Expr} (h : rcvE eo = true) (attr : Str) (env : Env) : attributeBase eo attr env (eval eo env) = eval eo env := by
  cases eo <;> first | rfl | cases h
theorem c_append {a : CE} {es : CEs} {eo : Expr} {ap cp : Pos} (hr : rcvE eo = true) (ho : PE X eo (Te tabs X E F a)) (he : PA X [e] (Ta tabs X E F es)) (hn : nst e = true) (hl : (ap.endLine == cp.line) = true) :
    PE X (.Call (.Attribute eo "append" ap) [e] [] cp) (Te tabs X E F (.mt .append a es)) := by
  have hst := star_nst hn [] X.env
  refine PE.imp (pe_bm (T := "list") (id := "list.append") PySem.F.plainAttrs_list PySem.F.slot_list_append PySem.F.type_list_append mt_append ho he (base_rcv hr _ _) (by rw [hst]; rfl) hl hst rfl) fun σ H Q ⟨ρ, Z, S, g, rs, sl, h⟩ => ?_
  simp only [ev] at h
  refine tG_mono (sat_bind (R1 := RelD) rs sl h) fun x H1 ⟨ρ1, Z1, S1, a, p1, r1, h1⟩ => ?_
  split at h1
  · rename_i ys hy
    obtain ⟨q, vs, rfl, hq, rv⟩ := asM_rel p1.st r1 hy
    refine ⟨.inl ⟨rfl, vs, .inl (.inl hq)⟩, ?_⟩
    refine tG_mono (sat_bind (R1 := RelDs) p1.st (sl.post p1) h1) fun y H2 ⟨ρ2, Z2, S2, b, p2, r2, h2⟩ => ?_
    exact rd_mt .append p2.st (r1.mono p2.zm p2.pre) r2 h2
  · exact h1.elim
theorem c_insert {a : CE} {es : CEs} {eo e2 : Expr} {ap cp : Pos} (hr : rcvE eo = true) (ho : PE X eo (Te tabs X E F a)) (he : PA X [e, e2] (Ta tabs X E F es)) (hn : nst e = true) (hn2 : nst e2 = true) (hl : (ap.endLine == cp.line) = true) :
    PE X (.Call (.Attribute eo "insert" ap) [e, e2] [] cp) (Te tabs X E F (.mt .insert a es)) := by
  have hst := star_nst hn [e2] X.env
  have hst2 := star_nst hn2 [] X.env
  refine PE.imp (pe_bm (T := "list") (id := "list.insert") PySem.F.plainAttrs_list PySem.F.slot_list_insert PySem.F.type_list_insert mt_insert ho he (base_rcv hr _ _) (by rw [hst, hst2]; rfl) hl hst (by rw [hst2]; rfl)) fun σ H Q ⟨ρ, Z, S, g, rs, sl, h⟩ => ?_
  simp only [ev] at h
  refine tG_mono (sat_bind (R1 := RelD) rs sl h) fun x H1 ⟨ρ1, Z1, S1, a, p1, r1, h1⟩ => ?_
  split at h1
  · rename_i ys hy
    obtain ⟨q, vs, rfl, hq, rv⟩ := asM_rel p1.st r1 hy
    refine ⟨.inl ⟨rfl, vs, .inl (.inl hq)⟩, ?_⟩
    refine tG_mono (sat_bind (R1 := RelDs) p1.st (sl.post p1) h1) fun y H2 ⟨ρ2, Z2, S2, b, p2, r2, h2⟩ => ?_
    exact rd_mt .insert p2.st (r1.mono p2.zm p2.pre) r2 h2
  · exact h1.elim
theorem c_pop {a : CE} {eo : Expr} {ap cp : Pos} (hr : rcvE eo = true) (ho : PE X eo (Te tabs X E F a)) (hl : (ap.endLine == cp.line) = true) :
    PE X (.Call (.Attribute eo "pop" ap) [] [] cp) (Te tabs X E F (.mt .pop a .nil)) := by
  refine PE.imp (pe_bm0 (T := "list") (id := "list.pop") PySem.F.plainAttrs_list PySem.F.slot_list_pop PySem.F.type_list_pop mt_pop ho (base_rcv hr _ _) hl) fun σ H Q ⟨ρ, Z, S, g, rs, sl, h⟩ => ?_
  simp only [ev, evs] at h
  refine tG_mono (sat_bind (R1 := RelD) rs sl h) fun x H1 ⟨ρ1, Z1, S1, a, p1, r1, h1⟩ => ?_
  split at h1
  · rename_i ys hy
    obtain ⟨q, vs, rfl, hq, rv⟩ := asM_rel p1.st r1 hy
    exact ⟨.inl ⟨rfl, vs, .inl (.inl hq)⟩, rd_mt .pop p1.st r1 .nil h1⟩
  · exact h1.elim
theorem c_isi {a : CE} {x y : Str} {p q : Pos} (G : Good tabs F lv c E X) (k : Kd) (hg : Gl X "isinstance") (hk : Gl X (kdS k)) (he : PE X e (Te tabs X E F a)) (hn : nst e = true) :
    PE X (.Call (.Name "isinstance" p) [e, .Name (kdS k) q] [] pos) (Te tabs X E F (.isi k a)) := by
  have hst := star_nst hn [.Name (kdS k) q] X.env
  have hty : PE X (.Name (kdS k) q) (tC (.ty (kdT k))) := by
    cases k with
    | bool => exact pe_bltn hk (G.bi _ (by decide)) PyProof.Rows.boot_bool rfl
    | list => exact pe_bltn hk (G.bi _ (by decide)) PyProof.Rows.boot_list rfl
    | tuple => exact pe_bltn hk (G.bi _ (by decide)) PyProof.Rows.boot_tuple rfl
    | dict => exact pe_bltn hk (G.bi _ (by decide)) (by decide +kernel) rfl
  refine PE.imp (pe_callB call_isi hg (G.bi _ (by decide)) PyProof.Rows.boot_isinstance (pa_cons he (pa_cons hty pa_nil) hst) (by decide) (by decide) hst) fun σ H Q ⟨ρ, Z, S, g, rs, sl, h⟩ => ?_
  simp only [ev] at h
  refine tG_mono (sat_bind (R1 := RelD) rs sl h) fun x H1 ⟨ρ1, Z1, S1, a, p1, r1, h1⟩ => ?_
  exact rd_is k p1.st r1 h1
/-! ### several expressions -/
theorem a_nil : PA X [] (Ta tabs X E F .nil) := PA.imp pa_nil fun σ H Q ⟨ρ, Z, S, g, rs, sl, h⟩ => by simp only [evs] at h; exact sat_ok rs h .nil
theorem a_cons {a : CE} {es : CEs} (ha : PE X e (Te tabs X E F a)) (hr : PA X xs (Ta tabs X E F es)) (hn : nst e = true) : PA X (e :: xs) (Ta tabs X E F (.cons a es)) := by
  refine PA.imp (pa_cons ha hr (star_nst hn _ _)) fun σ H Q ⟨ρ, Z, S, g, rs, sl, h⟩ => ?_
  simp only [evs] at h
  refine tG_mono (sat_bind (R1 := RelD) rs sl h) fun x H1 ⟨ρ1, Z1, S1, a, p1, r1, h1⟩ => tG_mono (sat_bind (R1 := RelDs) p1.st (sl.post p1) h1) fun y H2 ⟨ρ2, Z2, S2, b, p2, r2, h2⟩ => ?_
  exact sat_ok p2.st h2 (.cons (r1.mono p2.zm p2.pre) r2)
theorem o_non : PO X none (tG tabs X.mg E RelO (evO F .non)) := PO.imp po_none fun σ H Q ⟨ρ, Z, S, g, rs, sl, h⟩ => by simp only [evO] at h; exact sat_ok rs h rfl
theorem o_som {a : CE} (ha : PE X e (Te tabs X E F a)) : PO X (some e) (tG tabs X.mg E RelO (evO F (.som a))) := by
  refine PO.imp (po_some ha) fun σ H Q ⟨ρ, Z, S, g, rs, sl, h⟩ => ?_
  simp only [evO] at h
  refine tG_mono (sat_bind (R1 := RelD) rs sl h) fun x H1 ⟨ρ1, Z1, S1, a, p1, r1, h1⟩ => ?_
  split at h1
  · exact ⟨_, rel_int r1, sat_ok p1.st h1 rfl⟩
  · exact h1.elim
theorem ts_non : PTs X [] (tG tabs X.mg E RelB (evC F .non)) := PTs.imp pts_nil fun σ H Q ⟨ρ, Z, S, g, rs, sl, h⟩ => by simp only [evC] at h; exact sat_ok rs h rfl
theorem ts_som {a : CE} (ha : PT X e (Tt tabs X E F a)) : PTs X [e] (tG tabs X.mg E RelB (evC F (.som a))) := PTs.imp (pts_one ha) fun σ H Q ⟨ρ, Z, S, g, rs, sl, h⟩ => ⟨ρ, Z, S, g, rs, sl, by simp only [evC] at h; exact h⟩
/-! ### and, or -/
theorem and_one {a : CE} (ha : PE X e (Te tabs X E F a)) : PE X (.BoolOp .And [e] pos) (tG tabs X.mg E RelD (evAnd F (.cons a .nil))) := PE.imp (pe_one ha) fun σ H Q ⟨ρ, Z, S, g, rs, sl, h⟩ => ⟨ρ, Z, S, g, rs, sl, by simp only [evAnd] at h; exact h⟩
theorem or_one {a : CE} (ha : PE X e (Te tabs X E F a)) : PE X (.BoolOp .Or [e] pos) (tG tabs X.mg E RelD (evOr F (.cons a .nil))) := PE.imp (pe_one ha) fun σ H Q ⟨ρ, Z, S, g, rs, sl, h⟩ => ⟨ρ, Z, S, g, rs, sl, by simp only [evOr] at h; exact h⟩
theorem and_cons {a b : CE} {es : CEs} (ha : PE X e (Te tabs X E F a)) (hr : PE X (.BoolOp .And (eb :: xs) pos) (tG tabs X.mg E RelD (evAnd F (.cons b es)))) : PE X (.BoolOp .And (e :: eb :: xs) pos) (tG tabs X.mg E RelD (evAnd F (.cons a (.cons b es)))) := by
  refine PE.imp (pe_and ha hr) fun σ H Q ⟨ρ, Z, S, g, rs, sl, h⟩ => ?_
  rw [evAnd] at h
  rotate_left
  · intro z; cases z
  refine tG_mono (sat_bind (R1 := RelD) rs sl h) fun x H1 ⟨ρ1, Z1, S1, a, p1, r1, h1⟩ => ?_
  split at h1
  · exact ⟨true, rel_bl r1, by rw [if_pos rfl]; exact ⟨ρ1, Z1, S1, g, p1.st, sl.post p1, h1⟩⟩
  · exact ⟨false, rel_bl r1, by rw [if_neg Bool.false_ne_true]; exact sat_ok p1.st h1 (.bl _)⟩
  · exact h1.elim
theorem or_cons {a b : CE} {es : CEs} (ha : PE X e (Te tabs X E F a)) (hr : PE X (.BoolOp .Or (eb :: xs) pos) (tG tabs X.mg E RelD (evOr F (.cons b es)))) : PE X (.BoolOp .Or (e :: eb :: xs) pos) (tG tabs X.mg E RelD (evOr F (.cons a (.cons b es)))) := by
  refine PE.imp (pe_or ha hr) fun σ H Q ⟨ρ, Z, S, g, rs, sl, h⟩ => ?_
  rw [evOr] at h
  rotate_left
  · intro z; cases z
  refine tG_mono (sat_bind (R1 := RelD) rs sl h) fun x H1 ⟨ρ1, Z1, S1, a, p1, r1, h1⟩ => ?_
  split at h1
  · exact ⟨false, rel_bl r1, by rw [if_neg Bool.false_ne_true]; exact ⟨ρ1, Z1, S1, g, p1.st, sl.post p1, h1⟩⟩
  · exact ⟨true, rel_bl r1, by rw [if_pos rfl]; exact sat_ok p1.st h1 (.bl _)⟩
  · exact h1.elim
theorem wand_one {a : CE} (ha : PT X e (Tt tabs X E F a)) : PW X (.BoolOp .And [e] pos) (tG tabs X.mg E RelB (evTA F (.cons a .nil))) := PW.imp (pw_and1 ha) fun σ H Q ⟨ρ, Z, S, g, rs, sl, h⟩ => ⟨ρ, Z, S, g, rs, sl, by simp only [evTA] at h; exact h⟩
theorem wor_one {a : CE} (ha : PT X e (Tt tabs X E F a)) : PW X (.BoolOp .Or [e] pos) (tG tabs X.mg E RelB (evTO F (.cons a .nil))) := PW.imp (pw_or1 ha) fun σ H Q ⟨ρ, Z, S, g, rs, sl, h⟩ => ⟨ρ, Z, S, g, rs, sl, by simp only [evTO] at h; exact h⟩
theorem wand_cons {a b : CE} {es : CEs} (ha : PT X e (Tt tabs X E F a)) (hr : PW X (.BoolOp .And (eb :: xs) pos) (tG tabs X.mg E RelB (evTA F (.cons b es)))) : PW X (.BoolOp .And (e :: eb :: xs) pos) (tG tabs X.mg E RelB (evTA F (.cons a (.cons b es)))) := by
  refine PW.imp (pw_and ha hr) fun σ H Q ⟨ρ, Z, S, g, rs, sl, h⟩ => ?_
  rw [evTA] at h
  rotate_left
  · intro z; cases z
  refine tG_mono (sat_bind (R1 := RelB) rs sl h) fun x H1 ⟨ρ1, Z1, S1, a, p1, r1, h1⟩ => ?_
  cases (show a = x from r1)
  split
  · rename_i ht; rw [if_pos ht] at h1; exact ⟨ρ1, Z1, S1, g, p1.st, sl.post p1, h1⟩
  · rename_i ht; rw [if_neg ht] at h1; exact sat_ok p1.st h1 rfl
theorem wor_cons {a b : CE} {es : CEs} (ha : PT X e (Tt tabs X E F a)) (hr : PW X (.BoolOp .Or (eb :: xs) pos) (tG tabs X.mg E RelB (evTO F (.cons b es)))) : PW X (.BoolOp .Or (e :: eb :: xs) pos) (tG tabs X.mg E RelB (evTO F (.cons a (.cons b es)))) := by
  refine PW.imp (pw_or ha hr) fun σ H Q ⟨ρ, Z, S, g, rs, sl, h⟩ => ?_
  rw [evTO] at h
  rotate_left
  · intro z; cases z
  refine tG_mono (sat_bind (R1 := RelB) rs sl h) fun x H1 ⟨ρ1, Z1, S1, a, p1, r1, h1⟩ => ?_
  cases (show a = x from r1)
  split
  · rename_i ht; rw [if_pos ht] at h1; exact sat_ok p1.st h1 rfl
  · rename_i ht; rw [if_neg ht] at h1; exact ⟨ρ1, Z1, S1, g, p1.st, sl.post p1, h1⟩
theorem t_not {a : CE} (ha : PT X e (Tt tabs X E F a)) : PT X (.UnaryOp .Not e pos) (Tt tabs X E F (.not_ a)) := by
  refine PT.imp (pt_not ha) fun σ H Q ⟨ρ, Z, S, g, rs, sl, h⟩ => ?_
  rw [evT] at h
  refine tG_mono (sat_bind (R1 := RelB) rs sl h) fun x H1 ⟨ρ1, Z1, S1, a, p1, r1, h1⟩ => ?_
  cases (show a = x from r1)
  exact sat_ok p1.st h1 rfl
/-- the truth of a value -/
theorem t_val {m : GE → Store → Res D} {k : GE → Store → Res Bool} (ha : PE X e (tG tabs X.mg E RelD m)) (hk : ∀ g S, k g S = (m g S).bind fun d S1 => match truD S1 d with | some b => .ok b S1 | none => .stuck)
    (he : ∀ whole, isTrue e X.env whole = (do let v ← whole; standAt e.pos; holding [v] (truthy v))) : PT X e (tG tabs X.mg E RelB k) := by
  refine PT.imp (pt_truth ha he) fun σ H Q ⟨ρ, Z, S, g, rs, sl, h⟩ => ?_
  rw [hk] at h
  refine tG_mono (sat_bind (R1 := RelD) rs sl h) fun x H1 ⟨ρ1, Z1, S1, a, p1, r1, h1⟩ => ?_
  split at h1
  · rename_i b hb
    exact ⟨b, tru_rel p1.st r1 hb, sat_ok p1.st h1 rfl⟩
  · exact h1.elim
end
end Li
end

section
set_option Elab.async false
set_option linter.all false
set_option maxRecDepth 100000
set_option maxHeartbeats 4000000
namespace Li
open PySem PySem.Spec PyProof.Rows L2 GxR GX
open Classical
theorem Res.bind_assoc {α β γ : Type} (r : Res α) (f : α → Store → Res β) (g : β → Store → Res γ) : (r.bind f).bind g = r.bind fun a S => (f a S).bind g := by cases r <;> rfl
section
variable {tabs : List Addr} {F : Fn} {lv : Nat} {c : SC} {E : XK} {X : Cx} {pos : Pos} {e ea eb ec tg : Expr} {xs : List Expr}
/-! ### iterables -/
def iSeq (K : PySem.W.Frag) (tl : TE) : TI := fun σ H R => tl σ H fun x H1 => ∃ a, x = .ref a ∧ ((∃ xs, SqL K H1 a xs ∧ R (Itl K a) H1) ∨ (∃ xs, SqT K H1 a xs ∧ R (Itt K a) H1))
theorem pi_seq {l : Expr} {tl : TE} (hl : PE X l tl) : PI X tg l (iSeq X.K tl) := by
  refine ⟨fun pins s σ H R I h => ?_⟩
  refine thn (hl.run pins s σ H _ I h) fun v s1 ⟨x, H1, I1, r1, q1⟩ => ?_
  obtain ⟨a, e, q⟩ := q1
  subst e
  cases r1
  have fp : ∀ b ∈ [s1.heap.objs.size], FpOk X pins H1 b := fun b hb => by
    have e : b = s1.heap.objs.size := by simpa using hb
    subst e
    exact I1.fpOk (Nat.le_refl _) (I1.hok.fresh (Nat.le_refl _))
  rcases q with ⟨xs, hq, q⟩ | ⟨xs, hq, q⟩
  · obtain ⟨its, rv, p, hz⟩ := I1.list hq
    refine wpAny_pyIter_list p.isList ?_
    exact ⟨s1.heap.objs.size, [s1.heap.objs.size], _, _, H1, rfl, I1.kept (t' := s1.toks) fun b o e => Heap.get?_push_of_some _ e, turn_list a _, ⟨_, Heap.get?_push_size _ rfl, rfl, rfl⟩, fp, q⟩
  · obtain ⟨its, rv, p, hz⟩ := I1.tuple hq
    refine wpAny_pyIter_tuple (show s1.heap.IsTuple a its.toArray from p) ?_
    exact ⟨s1.heap.objs.size, [s1.heap.objs.size], _, _, H1, rfl, I1.kept (t' := s1.toks) fun b o e => Heap.get?_push_of_some _ e, turn_tuple a _, ⟨_, Heap.get?_push_size _ rfl, rfl, rfl⟩, fp, q⟩
abbrev Ti (tabs : List Addr) (X : Cx) (E : XK) (F : Fn) (it : CI) : TI := tG tabs X.mg E (ItR tabs) (evI F it)
theorem seqI_rel {K : PySem.W.Frag} {mg : Str → Option Value} {ρ : List Addr} {Z H : Hp} {S : Store} {d : D} {v : V} {α β : Type} {R : Hp → List Addr → α → β → Prop} {Q : β → Hp → Prop} {k : Itm → Store → Res α} (rs : Rst tabs ρ Z S H) (r : RelD Z ρ d v) (h : Sat tabs mg E R Q ρ Z H ((seqI d S).bind k)) :
    ∃ p ys G, v = .ref p ∧ Sat tabs mg E R Q ρ Z H (k (ys, G) S) ∧ asSeq S d = some ys ∧ (∀ S', G S' → asSeq S' d = some ys) ∧ (((∃ vs, SqL K H p vs) ∧ asT d = none ∧ ItS tabs (Itl K p) ys G ρ Z) ∨ ((∃ vs, SqT K H p vs) ∧ ItS tabs (Itt K p) ys G ρ Z)) := by
  cases r with
  | tup hz hr =>
    rename_i ys p vs
    exact ⟨p, ys, _, rfl, h, rfl, fun _ _ => rfl, .inr ⟨⟨vs, .inl (.inl (rs.zle _ _ hz))⟩, its_tup (.tup hz hr)⟩⟩
  | lst hz hr =>
    rename_i ys p vs
    exact ⟨p, ys, _, rfl, h, rfl, fun _ _ => rfl, .inl ⟨⟨vs, .inl (.inl (rs.zle _ _ hz))⟩, rfl, (its_list (.lst hz hr)).weak fun _ _ => rfl⟩⟩
  | frz hz hr =>
    rename_i ys p vs o
    exact ⟨p, ys, _, rfl, h, rfl, fun _ _ => rfl, .inl ⟨⟨vs, .inl (.inr ⟨_, rs.zle _ _ hz⟩)⟩, rfl, (its_list (.frz hz hr)).weak fun _ _ => rfl⟩⟩
  | ref hp =>
    rename_i a p
    simp only [seqI] at h
    split at h
    · rename_i ys hy
      obtain ⟨_, vs, ev, rv⟩ := rs.ob a _ p hy hp
      have hG : ∀ S' : Store, S'[a]? = some (.lst ys) → asL S' (.ref a) = some ys := fun S' e => by simp only [asL]; rw [e]
      exact ⟨p, ys, _, rfl, h, hG S hy, fun S' e => hG S' e, .inl ⟨⟨vs, .inl (.inl ev)⟩, rfl, (its_list (.ref hp)).weak hG⟩⟩
    · exact h.elim
  | non => exact h.elim
  | bl b => exact h.elim
  | int i => exact h.elim
  | str x => exact h.elim
  | dct _ => exact h.elim
  | dfz _ => exact h.elim
theorem i_seq {a : CE} (ha : PE X e (Te tabs X E F a)) : PI X tg e (Ti tabs X E F (.seq a)) := by
  refine PI.imp (pi_seq ha) fun σ H R ⟨ρ, Z, S, g, rs, sl, h⟩ => ?_
  simp only [evI] at h
  refine tG_mono (sat_bind (R1 := RelD) rs sl h) fun x H1 ⟨ρ1, Z1, S1, a, p1, r1, h1⟩ => ?_
  have h1 : Sat tabs X.mg E (ItR tabs) R ρ1 Z1 H1 ((seqI a S1).bind fun p S => .ok p S) := by
    cases e : seqI a S1 <;> (rw [e] at h1; exact h1)
  obtain ⟨p, ys, G, rfl, h2, _, _, q⟩ := seqI_rel (K := X.K) p1.st r1 h1
  refine ⟨p, rfl, ?_⟩
  rcases q with ⟨⟨vs, hq⟩, _, it⟩ | ⟨⟨vs, hq⟩, it⟩
  · exact .inl ⟨vs, hq, sat_ok p1.st h2 it⟩
  · exact .inr ⟨vs, hq, sat_ok p1.st h2 it⟩
theorem i_rng1 {a : CE} {p : Pos} (hg : Gl X "range") (hm : X.mg "range" = none) (ha : PE X e (Te tabs X E F a)) (hn : nst e = true) : PI X tg (.Call (.Name "range" p) [e] [] pos) (Ti tabs X E F (.rng1 a)) := by
  have hst := star_nst hn [] X.env
  refine PI.imp (pi_range1 hg hm (pa_cons ha pa_nil hst) hst) fun σ H R ⟨ρ, Z, S, g, rs, sl, h⟩ => ?_
  simp only [evI] at h
  refine tG_mono (sat_bind (R1 := RelD) rs sl h) fun x H1 ⟨ρ1, Z1, S1, a, p1, r1, h1⟩ => ?_
  split at h1
  · rename_i j
    split at h1
    · rename_i hj
      rw [rel_int r1]
      exact ⟨j, rfl, hj.1, hj.2, sat_ok p1.st h1 its_rng⟩
    · exact h1.elim
  · exact h1.elim
theorem i_rng2 {a b : CE} {p : Pos} (hg : Gl X "range") (hm : X.mg "range" = none) (ha : PE X ea (Te tabs X E F a)) (hb : PE X eb (Te tabs X E F b)) (hn : nst ea = true) (hn2 : nst eb = true) : PI X tg (.Call (.Name "range" p) [ea, eb] [] pos) (Ti tabs X E F (.rng2 a b)) := by
  have hst2 := star_nst hn2 [] X.env
  have hst := star_nst hn [eb] X.env
  refine PI.imp (pi_range2 hg hm (pa_cons ha (pa_cons hb pa_nil hst2) hst) (by rw [hst, hst2]; rfl) hst2) fun σ H R ⟨ρ, Z, S, g, rs, sl, h⟩ => ?_
  simp only [evI] at h
  refine tG_mono (sat_bind (R1 := RelD) rs sl h) fun x H1 ⟨ρ1, Z1, S1, a, p1, r1, h1⟩ => tG_mono (sat_bind (R1 := RelD) p1.st (sl.post p1) h1) fun y H2 ⟨ρ2, Z2, S2, b, p2, r2, h2⟩ => ?_
  split at h2
  · split at h2
    · rename_i hj
      rw [rel_int r1, rel_int r2]
      exact ⟨_, _, rfl, ⟨hj.1.1, hj.1.2, hj.2.1, hj.2.2⟩, sat_ok p2.st h2 its_rng⟩
    · exact h2.elim
  · exact h2.elim
theorem its_rrgL {l lo : Int} {n : Nat} {G : Store → Prop} {ρ : List Addr} {Z : Hp} (hlo : 0 < n → lo = l + (n : Int) - 1) : ItS tabs (Itc lo (-1) n) (rngL l n).reverse G ρ Z := by
  refine ⟨fun {ρ' Z' H S i x} q z rs g e => ?_, fun {ρ' Z' H S} q z rs g => ?_⟩
  · have hl : (rngL l n).length = n := by unfold rngL; simp
    have hi : i < n := by
      have := (List.getElem?_eq_some_iff.mp e).1
      rw [List.length_reverse, hl] at this; exact this
    rw [List.getElem?_reverse (by rw [hl]; exact hi), hl] at e
    unfold rngL at e
    rw [List.getElem?_map, List.getElem?_range (by omega)] at e
    cases e
    refine ⟨hi, fun u H' yl => ?_⟩
    obtain ⟨rfl, rfl⟩ := yl
    refine ⟨Z', Post.refl rs, ?_⟩
    have hlo := hlo (by omega)
    have : lo + ((i : Nat) : Int) * (-1) = l + ((n - 1 - i : Nat) : Int) := by omega
    rw [this]
    exact .int _
  · show n ≤ _
    unfold rngL; simp
theorem its_rrg {lo : Int} {n : Nat} {G : Store → Prop} {ρ : List Addr} {Z : Hp} (hlo : lo = (n : Int) - 1) : ItS tabs (Itc lo (-1) n) (rngL 0 n).reverse G ρ Z := its_rrgL (by omega)
theorem i_rrg2 {a b : CE} {p p2 pos2 : Pos} (hg : Gl X "range") (hm : X.mg "range" = none) (hg2 : Gl X "reversed") (hm2 : X.mg "reversed" = none) (ha : PE X ea (Te tabs X E F a)) (hb : PE X eb (Te tabs X E F b)) (hn : nst ea = true) (hn2 : nst eb = true) : PI X tg (.Call (.Name "reversed" p2) [.Call (.Name "range" p) [ea, eb] [] pos2] [] pos) (Ti tabs X E F (.rrg2 a b)) := by
  have hst2 := star_nst hn2 [] X.env
  have hst := star_nst hn [eb] X.env
  refine PI.imp (pi_revR hg2 hm2 (prg_2 hg hm ha hb hst hst2 (by rw [hst2]; rfl)) rfl) fun σ H R ⟨ρ, Z, S, g, rs, sl, h⟩ => ?_
  simp only [evI] at h
  refine tG_mono (sat_bind (R1 := RelD) rs sl h) fun x H1 ⟨ρ1, Z1, S1, a, p1, r1, h1⟩ => tG_mono (sat_bind (R1 := RelD) p1.st (sl.post p1) h1) fun y H2 ⟨ρ2, Z2, S2, b, p2, r2, h2⟩ => ?_
  split at h2
  · split at h2
    · rename_i hj
      rw [rel_int r1, rel_int r2]
      exact ⟨_, _, rfl, rfl, hj.1.1, hj.1.2, hj.2.1, hj.2.2, sat_ok p2.st h2 (its_rrgL fun _ => rfl)⟩
    · exact h2.elim
  · exact h2.elim
theorem i_rngd {a b : CE} {k : Nat} {p q1 q2 : Pos} (hg : Gl X "range") (hm : X.mg "range" = none) (ha : PE X ea (Te tabs X E F a)) (hb : PE X eb (Te tabs X E F b)) (hn : nst ea = true) (hn2 : nst eb = true) : PI X tg (.Call (.Name "range" p) [ea, eb, .UnaryOp .USub (.Constant (.int 1) k q1) q2] [] pos) (Ti tabs X E F (.rngd a b)) := by
  have hst3 : starEach [.UnaryOp .USub (.Constant (.int 1) k q1) q2] X.env = _ := star_nst (e := .UnaryOp .USub (.Constant (.int 1) k q1) q2) rfl [] X.env
  have hst2 := star_nst hn2 [.UnaryOp .USub (.Constant (.int 1) k q1) q2] X.env
  have hst := star_nst hn [eb, .UnaryOp .USub (.Constant (.int 1) k q1) q2] X.env
  have hc : PE X (.UnaryOp .USub (.Constant (.int 1) k q1) q2) (Te tabs X E F (.neg (.cst (.int 1)))) := c_neg c_int
  refine PI.imp (pi_range3 hg hm (pa_cons ha (pa_cons hb (pa_cons hc pa_nil hst3) hst2) hst) hst (by rw [hst2, hst3]; rfl)) fun σ H R ⟨ρ, Z, S, g, rs, sl, h⟩ => ?_
  simp only [evI] at h
  refine tG_mono (sat_bind (R1 := RelD) rs sl h) fun x H1 ⟨ρ1, Z1, S1, a, p1, r1, h1⟩ => tG_mono (sat_bind (R1 := RelD) p1.st (sl.post p1) h1) fun y H2 ⟨ρ2, Z2, S2, b, p2, r2, h2⟩ => ?_
  have sl2 := (sl.post p1).post p2
  refine ⟨ρ2, Z2, S2, g, p2.st, sl2, ?_⟩
  simp only [ev, Res.bind_ok]
  intro v ρ3 Z3 H3 p3 rv
  split at h2
  · split at h2
    · rename_i hj
      rw [rel_int (r1.mono p2.zm p2.pre), rel_int r2, rel_int rv]
      exact ⟨_, _, _, _, rfl, RgC.neg hj.1.1 hj.1.2 hj.2.1 hj.2.2, sat_ok p3.st (Sat.trans p3 h2) (its_rrgL (by omega))⟩
    · exact h2.elim
  · exact h2.elim
theorem i_rrg {a : CE} {p p2 pos2 : Pos} (hg : Gl X "range") (hm : X.mg "range" = none) (hg2 : Gl X "reversed") (hm2 : X.mg "reversed" = none) (ha : PE X e (Te tabs X E F a)) (hn : nst e = true) : PI X tg (.Call (.Name "reversed" p2) [.Call (.Name "range" p) [e] [] pos2] [] pos) (Ti tabs X E F (.rrg a)) := by
  have hst := star_nst hn [] X.env
  refine PI.imp (pi_revR hg2 hm2 (prg_1 hg hm ha hst) rfl) fun σ H R ⟨ρ, Z, S, g, rs, sl, h⟩ => ?_
  simp only [evI] at h
  refine tG_mono (sat_bind (R1 := RelD) rs sl h) fun x H1 ⟨ρ1, Z1, S1, a, p1, r1, h1⟩ => ?_
  split at h1
  · rename_i j
    split at h1
    · rename_i hj
      rw [rel_int r1]
      refine ⟨j, rfl, by omega, by omega, hj.1, hj.2, ?_⟩
      rw [show (j - 0).toNat = j.toNat by rw [Int.sub_zero]]
      exact sat_ok p1.st h1 (its_rrg (by omega))
    · exact h1.elim
  · exact h1.elim
theorem rel_rg {Z : Hp} {ρ : List Addr} (i j : Int) : RelDs Z ρ (rngL i (j - i).toNat) (rgV i j) := by
  have e1 : rngL i (j - i).toNat = ((List.range (j - i).toNat).map fun k : Nat => i + (k : Int)).map D.int := by unfold rngL; rw [List.map_map]; rfl
  have e2 : rgV i j = ((List.range (j - i).toNat).map fun k : Nat => i + (k : Int)).map V.int := by unfold rgV; rw [List.map_map]; rfl
  rw [e1, e2]
  exact RelDs.intsR _
theorem c_lrg {a b : CE} {p p2 pos2 : Pos} (hc : X.calm = true) (hg : Gl X "range") (hm : X.mg "range" = none) (hg2 : Gl X "list") (hm2 : X.mg "list" = none) (ha : PE X ea (Te tabs X E F a)) (hb : PE X eb (Te tabs X E F b)) (hn : nst ea = true) (hn2 : nst eb = true) : PE X (.Call (.Name "list" p2) [.Call (.Name "range" p) [ea, eb] [] pos2] [] pos) (Te tabs X E F (.lrg a b)) := by
  have hst2 := star_nst hn2 [] X.env
  have hst := star_nst hn [eb] X.env
  refine PE.imp (pe_listRg hc hg2 hm2 (prg_2 hg hm ha hb hst hst2 (by rw [hst2]; rfl)) rfl) fun σ H Q ⟨ρ, Z, S, g, rs, sl, h⟩ => ?_
  simp only [ev] at h
  refine tG_mono (sat_bind (R1 := RelD) rs sl h) fun x H1 ⟨ρ1, Z1, S1, a, p1, r1, h1⟩ => tG_mono (sat_bind (R1 := RelD) p1.st (sl.post p1) h1) fun y H2 ⟨ρ2, Z2, S2, b, p2, r2, h2⟩ => ?_
  split at h2
  · split at h2
    · rename_i hj
      rw [rel_int r1, rel_int r2]
      exact ⟨_, _, rfl, rfl, hj, fun q hq => sat_alloc p2.st h2 (rel_rg _ _) q hq⟩
    · exact h2.elim
  · exact h2.elim
theorem i_enum {a : CE} {p tpos : Pos} {elts : List Expr} {kk : Nat} (hg : Gl X "enumerate") (hm : X.mg "enumerate" = none) (ha : PE X e (Te tabs X E F a)) (hn : nst e = true) : PI X (.Tuple elts kk tpos) (.Call (.Name "enumerate" p) [e] [] pos) (Ti tabs X E F (.enum a)) := by
  have hst := star_nst hn [] X.env
  refine PI.imp (pi_enumA hg hm (pa_cons ha pa_nil hst) hst) fun σ H R ⟨ρ, Z, S, g, rs, sl, h⟩ => ?_
  simp only [evI] at h
  refine tG_mono (sat_bind (R1 := RelD) rs sl h) fun x H1 ⟨ρ1, Z1, S1, a, p1, r1, h1⟩ => ?_
  split at h1
  · rename_i ys hy
    cases hT : asT a with
    | some zs =>
      cases a with
      | tup zs =>
        have hy : some zs = some ys := hy
        cases hy
        obtain ⟨p, vs, rfl, hq, rr⟩ := rel_tup (K := X.K) p1.st r1
        exact ⟨p, rfl, .inr ⟨vs, hq, sat_ok p1.st h1 ((its_enumT r1).weak fun _ _ => trivial)⟩⟩
      | _ => cases hT
    | none =>
      have hL : ∀ S' : Store, asSeq S' a = asL S' a := fun S' => by unfold asSeq; rw [hT]
      rw [hL] at hy
      obtain ⟨p, vs, rfl, hq, rr⟩ := asL_rel (K := X.K) p1.st r1 hy
      exact ⟨p, rfl, .inl ⟨vs, hq, sat_ok p1.st h1 ((its_enum r1).weak fun S' g => by rw [← hL]; exact g)⟩⟩
  · exact h1.elim
theorem i_rvs {a : CE} {p : Pos} (hg : Gl X "reversed") (hm : X.mg "reversed" = none) (ha : PE X e (Te tabs X E F a)) (hn : nst e = true) : PI X tg (.Call (.Name "reversed" p) [e] [] pos) (Ti tabs X E F (.rvs a)) := by
  have hst := star_nst hn [] X.env
  refine PI.imp (RT.pi_revA hg hm ha hst) fun σ H R ⟨ρ, Z, S, g, rs, sl, h⟩ => ?_
  simp only [evI] at h
  refine tG_mono (sat_bind (R1 := RelD) rs sl h) fun x H1 ⟨ρ1, Z1, S1, a, p1, r1, h1⟩ => ?_
  split at h1
  · rename_i ys hy
    cases hT : asT a with
    | some zs =>
      cases a with
      | tup zs =>
        have hy : some zs = some ys := hy
        cases hy
        obtain ⟨p, vs, rfl, hq, rr⟩ := rel_tup (K := X.K) p1.st r1
        exact ⟨p, vs, rfl, .inr ⟨hq, sat_ok p1.st h1 (by rw [← rr.length]; exact (its_revT r1).weak fun _ _ => trivial)⟩⟩
      | _ => cases hT
    | none =>
      have hL : ∀ S' : Store, asSeq S' a = asL S' a := fun S' => by unfold asSeq; rw [hT]
      rw [hL] at hy
      obtain ⟨p, vs, rfl, hq, rr⟩ := asL_rel (K := X.K) p1.st r1 hy
      exact ⟨p, vs, rfl, .inl ⟨hq, sat_ok p1.st h1 (by rw [← rr.length]; exact (its_rev r1).weak fun S' g => by rw [← hL]; exact g)⟩⟩
  · exact h1.elim
theorem dKey_rel {Z : Hp} {ρ : List Addr} : ∀ k : List Key, RelDs Z ρ (k.map dKey) (k.map kV)
  | [] => .nil
  | .inl i :: k => .cons (.int i) (dKey_rel k)
  | .inr x :: k => .cons (.str x) (dKey_rel k)
theorem its_dfz {p : Addr} {o : Obj} {ks : List (List Key)} {G : Store → Prop} {ρ : List Addr} {Z : Hp} (hz : Z p = some (.frz o (.dT (ks.map fun k => (k, V.bl true))))) : ItS tabs (Itkt p o (ks.map fun k => (k, V.bl true))) (ks.map dTup) G ρ Z := by
  refine ⟨fun {ρ' Z' H S i x} q z rs g e => ?_, fun {ρ' Z' H S} q z rs g => ?_⟩
  · have hH := rs.zle _ _ (z _ _ hz)
    rw [List.getElem?_map] at e
    obtain ⟨k, hk, rfl⟩ := Option.map_eq_some_iff.mp e
    refine ⟨⟨hH, by rw [List.length_map]; exact (List.getElem?_eq_some_iff.mp hk).1⟩, fun v H' yl => ?_⟩
    obtain ⟨rfl, k', w, b, hk', rfl, hb⟩ := yl
    rw [List.getElem?_map, hk] at hk'
    cases hk'
    exact ⟨_, rs.tupIn hb, .tup upd_same (dKey_rel k)⟩
  · exact ⟨rs.zle _ _ (z _ _ hz), by rw [List.length_map, List.length_map]; exact Nat.le_refl _⟩
theorem i_dit {a : CE} (ha : PE X e (Te tabs X E F a)) : PI X tg e (Ti tabs X E F (.dit a)) := by
  refine PI.imp (pi_keys ha) fun σ H R ⟨ρ, Z, S, g, rs, sl, h⟩ => ?_
  simp only [evI] at h
  refine tG_mono (sat_bind (R1 := RelD) rs sl h) fun x H1 ⟨ρ1, Z1, S1, a, p1, r1, h1⟩ => ?_
  split at h1
  · cases r1 with
    | dfz hz => exact ⟨_, _, rfl, .inr ⟨_, p1.st.zle _ _ hz, sat_ok p1.st h1 (its_dfz hz)⟩⟩
  · exact h1.elim
theorem c_rvt {a : CE} {p p2 pos2 : Pos} (hc : X.calm = true) (hg : Gl X "tuple") (hm : X.mg "tuple" = none) (hg2 : Gl X "reversed") (hm2 : X.mg "reversed" = none) (ha : PE X e (Te tabs X E F a)) (hn : nst e = true) : PE X (.Call (.Name "tuple" p) [.Call (.Name "reversed" p2) [e] [] pos2] [] pos) (Te tabs X E F (.rvt a)) := by
  have hst := star_nst hn [] X.env
  refine PE.imp (RT.pe_tupRevA hc hg hm hg2 hm2 ha hst rfl) fun σ H Q ⟨ρ, Z, S, g, rs, sl, h⟩ => ?_
  simp only [ev] at h
  refine tG_mono (sat_bind (R1 := RelD) rs sl h) fun x H1 ⟨ρ1, Z1, S1, a, p1, r1, h1⟩ => ?_
  split at h1
  · rename_i ys hy
    obtain ⟨p, vs, rfl, hq, rr⟩ := asSeq_rel (K := X.K) p1.st r1 hy
    exact ⟨p, vs, rfl, hq, fun q hqn => sat_tup p1.st h1 rr.reverse q hqn⟩
  · exact h1.elim
/-! ### comparisons as tests -/
theorem t_cmp {a b : CE} (G : Good tabs F lv c E X) (op : COp) (ha : PE X ea (Te tabs X E F a)) (hb : PE X eb (Te tabs X E F b)) (hm : behindInMarks (copS op) eb = false) : PT X (.Compare ea [copS op] [eb] pos) (Tt tabs X E F (.cmp op a b)) := by
  refine PT.imp (pt_cmpR (op_co G.room.units op) ha hb hm) fun σ H Q ⟨ρ, Z, S, g, rs, sl, h⟩ => ?_
  simp only [evT, ev, Res.bind_assoc] at h
  refine tG_mono (sat_bind (R1 := RelD) rs sl h) fun x H1 ⟨ρ1, Z1, S1, a, p1, r1, h1⟩ => tG_mono (sat_bind (R1 := RelD) p1.st (sl.post p1) h1) fun y H2 ⟨ρ2, Z2, S2, b, p2, r2, h2⟩ => ?_
  obtain ⟨t, et, h3⟩ := sat_cop h2
  refine rd_co op (tabs := tabs) (mg := X.mg) (E := E) p2.st (r1.mono p2.zm p2.pre) r2 ?_
  rw [et]
  intro v ρ3 Z3 H3 p3 rr
  simp only [truD] at h3
  exact ⟨t, rel_bl rr, h3 t ρ3 Z3 H3 p3 rfl⟩
theorem t_cmp2 {a b d : CE} (G : Good tabs F lv c E X) (o1 o2 : COp) (ha : PE X ea (Te tabs X E F a)) (hb : PE X eb (Te tabs X E F b)) (hc : PE X ec (Te tabs X E F d)) (hm : lastMarks [copS o1, copS o2] [eb, ec] = false) :
    PT X (.Compare ea [copS o1, copS o2] [eb, ec] pos) (Tt tabs X E F (.cmp2 o1 o2 a b d)) := by
  refine PT.imp (pt_chain (op_co G.room.units o1) (op_co G.room.units o2) ha hb hc hm) fun σ H Q ⟨ρ, Z, S, g, rs, sl, h⟩ => ?_
  simp only [evT, ev, Res.bind_assoc] at h
  refine tG_mono (sat_bind (R1 := RelD) rs sl h) fun x H1 ⟨ρ1, Z1, S1, a, p1, r1, h1⟩ => tG_mono (sat_bind (R1 := RelD) p1.st (sl.post p1) h1) fun y H2 ⟨ρ2, Z2, S2, b, p2, r2, h2⟩ => ?_
  obtain ⟨t, et, h3⟩ := sat_cop h2
  refine rd_co o1 (tabs := tabs) (mg := X.mg) (E := E) p2.st (r1.mono p2.zm p2.pre) r2 ?_
  rw [et]
  intro v ρ3 Z3 H3 p3 rr
  refine ⟨t, rel_bl rr, ?_⟩
  cases t with
  | false =>
    simp only [Bool.false_eq_true, if_false]
    simp only [Res.bind_ok, truD] at h3
    exact ⟨false, rfl, h3 false ρ3 Z3 H3 p3 rfl⟩
  | true =>
    simp only [if_true]
    simp only [Res.bind_assoc] at h3
    refine tG_mono (sat_bind (R1 := RelD) p3.st (((sl.post p1).post p2).post p3) (h3.trans p3)) fun y H4 ⟨ρ4, Z4, S4, b4, p4, r4, h4⟩ => ?_
    obtain ⟨t', et', h5⟩ := sat_cop h4
    refine rd_co o2 (tabs := tabs) (mg := X.mg) (E := E) p4.st ((r2.mono p3.zm p3.pre).mono p4.zm p4.pre) r4 ?_
    rw [et']
    intro v ρ5 Z5 H5 p5 rr5
    simp only [truD] at h5
    exact ⟨t', rel_bl rr5, h5 t' ρ5 Z5 H5 p5 rfl⟩
end
end Li
end

section
set_option Elab.async false
set_option linter.all false
set_option maxRecDepth 100000
set_option maxHeartbeats 4000000
namespace Li
open PySem PySem.Spec PyProof.Rows L2 GxR GX
open Classical
section
variable {tabs : List Addr} {mg : Str → Option Value} {E E' : XK} {K : PySem.W.Frag} {α β γ δ : Type} {R1 : Hp → List Addr → γ → δ → Prop} {ρ ρ1 : List Addr} {Z Z1 H H1 : Hp} {S S1 : Store} {g : GE} {σ : L2.St}
theorem tG_run {m : GE → Store → Res γ} {a : γ} {Q : δ → Hp → Prop} (rs : Rst tabs ρ Z S H) (sl : SlR Z ρ g σ) (e : m g S = .ok a S1) (k : ∀ b ρ' Z' H', Post tabs ρ Z H ρ' Z' S1 H' → R1 Z' ρ' a b → Q b H') : tG tabs mg E R1 m σ H Q :=
  ⟨ρ, Z, S, g, rs, sl, by rw [e]; exact k⟩
theorem turn_el {ec : GE → Store → Res Bool} {ee : GE → Store → Res D} {t : Tg} {vs : List Nat} (hv : ∀ i, i ∈ vs ↔ i ∈ ownT t) (rs : Rst tabs ρ Z S H) (sl : SlR Z ρ g σ) {x : D} {v : V} {o : Option D} {KY : V → Hp → Prop} {KN : Hp → Prop} (rx : RelD Z ρ x v) (hs : stepG ec ee t g x S = .ok o S1)
    (hN : o = none → ∀ ρ' Z' H', Post tabs ρ Z H ρ' Z' S1 H' → KN H') (hY : ∀ d, o = some d → ∀ ρ' Z' H' y, Post tabs ρ Z H ρ' Z' S1 H' → RelD Z' ρ' d y → KY y H') :
    gT K t v (wipe σ vs) H fun σ2 H2 => wipe σ2 vs = wipe σ vs ∧ tG tabs mg E RelB ec σ2 H2 fun b H3 => if b = true then tG tabs mg E' RelD ee σ2 H3 KY else KN H3 := by
  unfold stepG at hs
  split at hs
  · rename_i g' hg
    refine gT_ok t rs rx hg (sl.wiped vs) fun σ' sx hw => ⟨by rw [hw vs fun i hi => (hv i).mpr hi, wipe_wipe], ?_⟩
    have sl' : SlR Z ρ g' σ' := sx.all fun i hi => hi.2 ((hv i).mp hi.1)
    cases e1 : ec g' S with
    | exc _ _ => rw [e1] at hs; cases hs
    | stuck => rw [e1] at hs; cases hs
    | ok b S2 =>
      rw [e1, Res.bind_ok] at hs
      refine tG_run rs sl' e1 fun b' ρ' Z' H' p rb => ?_
      cases (show b = b' from rb)
      cases b with
      | false =>
        rw [if_neg Bool.false_ne_true] at hs ⊢
        cases hs
        exact hN rfl ρ' Z' H' p
      | true =>
        rw [if_pos rfl] at hs ⊢
        cases e2 : ee g' S2 with
        | exc _ _ => rw [e2] at hs; cases hs
        | stuck => rw [e2] at hs; cases hs
        | ok d S3 =>
          rw [e2, Res.bind_ok] at hs
          cases hs
          exact tG_run p.st (sl'.post p) e2 fun y ρ2 Z2 H2 p2 r2 => hY d rfl ρ2 Z2 H2 y (p.trans p2) r2
  · cases hs
theorem lcGo_nil {G : Store → Prop} {step : D → Store → Res (Option D)} {ds : List D} {S S2 : Store} (h : lcGo G step [] S = .ok ds S2) : G S ∧ ds = [] ∧ S2 = S := by
  unfold lcGo at h
  split at h
  · cases h; exact ⟨by assumption, rfl, rfl⟩
  · cases h
theorem lcGo_cons {G : Store → Prop} {step : D → Store → Res (Option D)} {x : D} {xs ds : List D} {S S2 : Store} (h : lcGo G step (x :: xs) S = .ok ds S2) : G S ∧ ∃ o S1 rest, step x S = .ok o S1 ∧ lcGo G step xs S1 = .ok rest S2 ∧ ds = (match o with | some d => d :: rest | none => rest) := by
  rw [lcGo] at h
  split at h
  · rename_i hG
    refine ⟨hG, ?_⟩
    cases e : step x S with
    | exc _ _ => rw [e] at h; cases h
    | stuck => rw [e] at h; cases h
    | ok o S1 =>
      rw [e, Res.bind_ok] at h
      cases e2 : lcGo G step xs S1 with
      | exc _ _ => rw [e2] at h; cases h
      | stuck => rw [e2] at h; cases h
      | ok rest S3 =>
        rw [e2, Res.bind_ok] at h
        cases h
        exact ⟨o, S1, rest, rfl, e2, rfl⟩
  · cases h
theorem noexc_ok {α β : Type} {R : Hp → List Addr → α → β → Prop} {Q : β → Hp → Prop} {r : Res γ} {k : γ → Store → Res α} (h : Sat tabs mg E R Q ρ Z H (r.noexc.bind k)) : ∃ a S2, r = .ok a S2 ∧ Sat tabs mg E R Q ρ Z H (k a S2) := by
  cases r with
  | ok a S2 => exact ⟨a, S2, rfl, h⟩
  | exc _ _ => exact h.elim
  | stuck => exact h.elim
theorem lc_reads {ei : GE → Store → Res Itm} {ec : GE → Store → Res Bool} {ee : GE → Store → Res D} {t : Tg} {vs : List Nat} {Q : VK} (hv : ∀ i, i ∈ vs ↔ i ∈ ownT t)
    (h : tG tabs mg E RelD (fun g S => (ei g S).bind fun p S1 => (lcGo p.2 (stepG ec ee t g) p.1 S1).noexc.bind fun ds S2 => if ds.length ≤ sizeLine then alloc (.lst ds) S2 else .stuck) σ H Q) :
    tLc (tG tabs mg E (ItR tabs) ei) (gT K t) (tG tabs mg E0 RelB ec) (tG tabs mg E0 RelD ee) vs σ H Q := by
  obtain ⟨ρ, Z, S, g, rs, sl, h⟩ := h
  refine tG_mono (sat_bind (R1 := ItR tabs) rs sl h) fun J H1 ⟨ρ1, Z1, S1, ⟨xs, G⟩, p1, it, h1⟩ => ?_
  have it : ItS tabs J xs G ρ1 Z1 := it
  obtain ⟨ds, S2, hgo, h2⟩ := noexc_ok h1
  have hgo : lcGo G (stepG ec ee t g) xs S1 = .ok ds S2 := hgo
  split at h2
  · rename_i hz
    intro D hD
    have nD1 : D ∉ ρ1 := fun z => by
      obtain ⟨_, u, e, _⟩ := p1.st.mem_there z
      rw [hD] at e; cases e
    have nZ1 : Z1 D = none := by
      cases e : Z1 D with
      | none => rfl
      | some o => rw [p1.st.zle D o e] at hD; cases hD
    refine ⟨fun i m H' => m + i = xs.length ∧ ∃ ρ' Z' S' acc aD rest, Post tabs ρ1 Z1 H1 ρ' Z' S' H' ∧ D ∉ ρ' ∧ Z' D = none ∧ H' D = some (.lst acc) ∧ RelDs Z' ρ' aD acc ∧ lcGo G (stepG ec ee t g) (xs.drop i) S' = .ok rest S2 ∧ ds = aD ++ rest, ⟨xs.length, rfl, ρ1, Z1, S1, [], [], ds, ?_, nD1, nZ1, upd_same, .nil, hgo, rfl⟩, ?_⟩
    · exact (Post.refl p1.st).updF hD nD1 nZ1 (fun q => by rw [hD]; intro z; cases z) (fun q z => by cases z)
    · intro i m H' ⟨hm, ρ', Z', S', acc, aD, rest, p, nD, nZ, hDH, hr, hg, hds⟩
      by_cases hi : i < xs.length
      · obtain ⟨x, hx⟩ : ∃ x, xs[i]? = some x := ⟨_, List.getElem?_eq_getElem hi⟩
        have hd : xs.drop i = x :: xs.drop (i + 1) := by
          rw [List.drop_eq_getElem_cons hi]
          rw [List.getElem?_eq_getElem hi] at hx
          cases hx; rfl
        rw [hd] at hg
        obtain ⟨hG, o, Sa, rest', hst, hgo', hrest⟩ := lcGo_cons hg
        obtain ⟨hgo1, hyl⟩ := it.go p.pre p.zm p.st hG hx
        refine .inr ⟨hgo1, fun H' => (m - 1) + (i + 1) = xs.length ∧ ∃ ρ' Z' S' acc aD rest, Post tabs ρ1 Z1 H1 ρ' Z' S' H' ∧ D ∉ ρ' ∧ Z' D = none ∧ H' D = some (.lst acc) ∧ RelDs Z' ρ' aD acc ∧ lcGo G (stepG ec ee t g) (xs.drop (i + 1)) S' = .ok rest S2 ∧ ds = aD ++ rest, fun H'' w => ⟨m - 1, by omega, w⟩, fun v H2 hy => ?_⟩
        obtain ⟨Z2, p2, rv⟩ := hyl v H2 hy
        have nD2 : H' D ≠ none := by rw [hDH]; intro z; cases z
        have keep : ∀ {ρ3 : List Addr} {Z3 H3 : Hp} {S3 : Store}, Post tabs ρ' Z' H' ρ3 Z3 S3 H3 → D ∉ ρ3 ∧ Z3 D = none ∧ H3 D = some (.lst acc) := fun q => ⟨fun hm' => nD2 (q.fresh D hm' nD), q.zf D nZ nD2 (by rw [hDH]; intro vs z; cases z), q.ev D _ hDH nD fun q z => by cases z⟩
        refine turn_el hv p2.st ((((sl.post p1).post p)).post p2) rv hst (fun ho ρ3 Z3 H3 p3 => ?_) (fun d ho ρ3 Z3 H3 y p3 ry => ?_)
        · have pp := p2.trans p3
          obtain ⟨k1, k2, k3⟩ := keep pp
          refine ⟨by omega, ρ3, Z3, Sa, acc, aD, rest', p.trans pp, k1, k2, k3, hr.mono pp.zm pp.pre, hgo', ?_⟩
          rw [hds, hrest, ho]
        · have pp := p2.trans p3
          obtain ⟨k1, k2, k3⟩ := keep pp
          have hlen : ds.length = aD.length + (rest'.length + 1) := by rw [hds, hrest, ho, List.length_append, List.length_cons]
          refine ⟨acc, k3, by rw [← hr.length]; omega, by omega, ρ3, Z3, Sa, acc ++ [y], aD ++ [d], rest', ?_, k1, k2, upd_same, (hr.mono pp.zm pp.pre).append (.cons ry .nil), hgo', ?_⟩
          · exact (p.trans pp).updF hD k1 k2 (fun q => by rw [k3]; intro z; cases z) (fun q z => by cases z)
          · rw [hds, hrest, ho, List.append_assoc]; rfl
      · have hd : xs.drop i = [] := List.drop_eq_nil_of_le (by omega)
        rw [hd] at hg
        obtain ⟨hG, hrest, hS⟩ := lcGo_nil hg
        subst hrest
        subst hS
        rw [List.append_nil] at hds
        subst hds
        have he : i = xs.length := by omega
        subst he
        refine .inl ⟨it.stop p.pre p.zm p.st hG, ?_⟩
        exact h2 _ _ _ _ (p.adopt hD nD nZ hDH hr) (.ref (by rw [List.getElem?_append_right (by rw [p.st.len]; exact Nat.le_refl _), p.st.len, Nat.sub_self]; rfl))
  · exact h2.elim
/-! ### all, any, sum of a generator expression -/
inductive RunB (G : Store → Prop) (step : D → Store → Res (Option D)) (stop : Bool) (Se : Store) (r : Bool) : List D → Store → List Bool → Prop
  | nil {S0 : Store} (hg : G S0) (e : S0 = Se) (b : r = !stop) : RunB G step stop Se r [] S0 []
  | skip {x : D} {xs : List D} {S0 S2 : Store} {ys : List Bool} (hg : G S0) (hs : step x S0 = .ok none S2) (h : RunB G step stop Se r xs S2 ys) : RunB G step stop Se r (x :: xs) S0 ys
  | stop {x : D} {xs : List D} {S0 : Store} (hg : G S0) (hs : step x S0 = .ok (some (.bl stop)) Se) (b : r = stop) : RunB G step stop Se r (x :: xs) S0 [stop]
  | next {x : D} {xs : List D} {S0 S2 : Store} {ys : List Bool} (hg : G S0) (hs : step x S0 = .ok (some (.bl (!stop))) S2) (h : RunB G step stop Se r xs S2 ys) : RunB G step stop Se r (x :: xs) S0 ((!stop) :: ys)
theorem allGo_run {G : Store → Prop} {step : D → Store → Res (Option D)} {stop : Bool} {Se : Store} {d : D} : ∀ {xs : List D} {S : Store}, allGo G step stop xs S = .ok d Se → ∃ r ys, d = .bl r ∧ RunB G step stop Se r xs S ys
  | [], S, h => by
    rw [allGo] at h
    split at h
    · cases h; exact ⟨_, _, rfl, .nil (by assumption) rfl rfl⟩
    · cases h
  | x :: xs, S, h => by
    rw [allGo] at h
    split at h
    · rename_i hG
      cases e : step x S with
      | exc _ _ => rw [e] at h; cases h
      | stuck => rw [e] at h; cases h
      | ok o S1 =>
        rw [e, Res.bind_ok] at h
        cases o with
        | none =>
          obtain ⟨r, ys, e1, q⟩ := allGo_run (xs := xs) h
          exact ⟨r, ys, e1, .skip hG e q⟩
        | some y =>
          cases y with
          | bl b =>
            simp only at h
            split at h
            · rename_i hb
              subst hb
              cases h
              exact ⟨_, _, rfl, .stop hG e rfl⟩
            · rename_i hb
              obtain ⟨r, ys, e1, q⟩ := allGo_run (xs := xs) h
              have hb' : b = !stop := by cases b <;> cases stop <;> simp_all
              subst hb'
              exact ⟨r, _, e1, .next hG e q⟩
          | _ => cases h
    · cases h
theorem qb_reads {ei : GE → Store → Res Itm} {ec : GE → Store → Res Bool} {ee : GE → Store → Res D} {t : Tg} {vs : List Nat} {Q : VK} {P : Addr} {stop : Bool} (hP : P ∈ tabs) (hv : ∀ i, i ∈ vs ↔ i ∈ ownT t)
    (h : tG tabs mg E RelD (fun g S => (ei g S).bind fun p S1 => (allGo p.2 (stepG ec ee t g) stop p.1 S1).noexc) σ H Q) :
    tGen P (fun y => y = .bl stop) (tG tabs mg E (ItR tabs) ei) (gT K t) (tG tabs mg E0 RelB ec) (tG tabs mg E0 RelD ee) vs bools (fun H => Q (.bl stop) H) (fun _ H => Q (.bl (!stop)) H) σ H := by
  obtain ⟨ρ, Z, S, g, rs, sl, h⟩ := h
  refine tG_mono (sat_bind (R1 := ItR tabs) rs sl h) fun J H1 ⟨ρ1, Z1, S1, ⟨xs, G⟩, p1, it, h1⟩ => ?_
  have it : ItS tabs J xs G ρ1 Z1 := it
  have h1 : Sat tabs mg E RelD Q ρ1 Z1 H1 ((allGo G (stepG ec ee t g) stop xs S1).noexc.bind fun a S => .ok a S) := by
    have h1 : Sat tabs mg E RelD Q ρ1 Z1 H1 (allGo G (stepG ec ee t g) stop xs S1).noexc := h1
    cases e : (allGo G (stepG ec ee t g) stop xs S1).noexc <;> (rw [e] at h1; exact h1)
  obtain ⟨d, Se, hgo, h2⟩ := noexc_ok h1
  obtain ⟨r, ys, hd, run⟩ := allGo_run hgo
  subst hd
  refine ⟨p1.st.tab P hP, fun H2 tb => ⟨ys.map V.bl, fun i j m H' => m + i = xs.length ∧ ∃ ρ' Z' S' rest, Post tabs ρ1 Z1 H1 ρ' Z' S' H' ∧ ys.drop j = rest ∧ j ≤ ys.length ∧ RunB G (stepG ec ee t g) stop Se r (xs.drop i) S' rest, fun y hy => ?_, ⟨xs.length, rfl, ρ1, Z1, S1, ys, p1.st.tabbed (p1.st.tab P hP) tb, rfl, Nat.zero_le _, run⟩, ?_⟩⟩
  · obtain ⟨b, _, rfl⟩ := List.mem_map.mp hy; exact ⟨b, rfl⟩
  · intro i j m H' ⟨hm, ρ', Z', S', rest, p, hys, hj, rn⟩
    by_cases hi : i < xs.length
    · obtain ⟨x, hx⟩ : ∃ x, xs[i]? = some x := ⟨_, List.getElem?_eq_getElem hi⟩
      have hd : xs.drop i = x :: xs.drop (i + 1) := by
        rw [List.drop_eq_getElem_cons hi]
        rw [List.getElem?_eq_getElem hi] at hx
        cases hx; rfl
      rw [hd] at rn
      have hdrop : ∀ {y : Bool} {ys' : List Bool}, ys.drop j = y :: ys' → (ys.map V.bl)[j]? = some (.bl y) ∧ ys.drop (j + 1) = ys' ∧ j + 1 ≤ ys.length := fun {y ys'} e => by
        have hl : j < ys.length := by
          by_cases hl : j < ys.length
          · exact hl
          · rw [List.drop_eq_nil_of_le (by omega)] at e; cases e
        rw [List.drop_eq_getElem_cons hl] at e
        cases e
        exact ⟨by rw [List.getElem?_map, List.getElem?_eq_getElem hl]; rfl, rfl, hl⟩
      have go : ∀ {o : Option D} {Sa : Store}, G S' → stepG ec ee t g x S' = .ok o Sa →
          (o = none → ∀ ρ3 Z3 H3, Post tabs ρ1 Z1 H1 ρ3 Z3 Sa H3 → (m - 1) + (i + 1) = xs.length ∧ ∃ ρ' Z' S' rest, Post tabs ρ1 Z1 H1 ρ' Z' S' H3 ∧ ys.drop j = rest ∧ j ≤ ys.length ∧ RunB G (stepG ec ee t g) stop Se r (xs.drop (i + 1)) S' rest) →
          (∀ dd, o = some dd → ∀ ρ3 Z3 H3 y, Post tabs ρ1 Z1 H1 ρ3 Z3 Sa H3 → RelD Z3 ρ3 dd y → (ys.map V.bl)[j]? = some y ∧ (y = .bl stop → Q (.bl stop) H3) ∧ (¬ y = .bl stop → (m - 1) + (i + 1) = xs.length ∧ ∃ ρ' Z' S' rest, Post tabs ρ1 Z1 H1 ρ' Z' S' H3 ∧ ys.drop (j + 1) = rest ∧ j + 1 ≤ ys.length ∧ RunB G (stepG ec ee t g) stop Se r (xs.drop (i + 1)) S' rest)) →
          J.go i H' ∧ ∃ Nx : Nat → Hp → Prop, (∀ j' H', Nx j' H' → ∃ m', m' < m ∧ m' + (i + 1) = xs.length ∧ ∃ ρ' Z' S' rest, Post tabs ρ1 Z1 H1 ρ' Z' S' H' ∧ ys.drop j' = rest ∧ j' ≤ ys.length ∧ RunB G (stepG ec ee t g) stop Se r (xs.drop (i + 1)) S' rest) ∧
            ∀ x H'', J.yld i H' x H'' → gT K t x (wipe σ vs) H'' fun σ2 H2 => wipe σ2 vs = wipe σ vs ∧ tG tabs mg E0 RelB ec σ2 H2 fun b H3 =>
              if b = true then tG tabs mg E0 RelD ee σ2 H3 fun y H4 => (ys.map V.bl)[j]? = some y ∧ (y = .bl stop → Q (.bl stop) H4) ∧ (¬ y = .bl stop → Nx (j + 1) H4) else Nx j H3 := fun {o Sa} hG hst kN kY => by
        obtain ⟨hgo1, hyl⟩ := it.go p.pre p.zm p.st hG hx
        refine ⟨hgo1, fun j' H3 => (m - 1) + (i + 1) = xs.length ∧ ∃ ρ' Z' S' rest, Post tabs ρ1 Z1 H1 ρ' Z' S' H3 ∧ ys.drop j' = rest ∧ j' ≤ ys.length ∧ RunB G (stepG ec ee t g) stop Se r (xs.drop (i + 1)) S' rest, fun j' H3 w => ⟨m - 1, by omega, w⟩, fun v H2 hy => ?_⟩
        obtain ⟨Z2, p2, rv⟩ := hyl v H2 hy
        exact turn_el hv p2.st (((sl.post p1).post p).post p2) rv hst (fun ho ρ3 Z3 H3 p3 => kN ho ρ3 Z3 H3 (p.trans (p2.trans p3))) (fun d ho ρ3 Z3 H3 y p3 ry => kY d ho ρ3 Z3 H3 y (p.trans (p2.trans p3)) ry)
      cases rn with
      | skip hG hst hr =>
        exact .inr (go hG hst (fun _ ρ3 Z3 H3 p3 => ⟨by omega, ρ3, Z3, _, _, p3, hys, hj, hr⟩) (fun dd ho => by cases ho))
      | stop hG hst hb =>
        refine .inr (go hG hst (fun ho => by cases ho) (fun dd ho ρ3 Z3 H3 y p3 ry => ?_))
        cases ho
        rw [rel_bl ry]
        obtain ⟨q1, q2, q3⟩ := hdrop hys
        exact ⟨q1, fun _ => by subst hb; exact h2 _ ρ3 Z3 H3 p3 (.bl _), fun n => absurd rfl n⟩
      | next hG hst hr =>
        refine .inr (go hG hst (fun ho => by cases ho) (fun dd ho ρ3 Z3 H3 y p3 ry => ?_))
        cases ho
        rw [rel_bl ry]
        obtain ⟨q1, q2, q3⟩ := hdrop hys
        exact ⟨q1, fun e => (by cases stop <;> cases e), fun _ => ⟨by omega, ρ3, Z3, _, _, p3, q2, q3, hr⟩⟩
    · have hd : xs.drop i = [] := List.drop_eq_nil_of_le (by omega)
      rw [hd] at rn
      have he : i = xs.length := by omega
      subst he
      cases rn with
      | nil hG e hb =>
        refine .inl ⟨it.stop p.pre p.zm p.st hG, ?_, ?_⟩
        · rw [List.length_map]
          have := congrArg List.length hys
          rw [List.length_drop, List.length_nil] at this
          omega
        · subst e; subst hb; exact h2 _ ρ' Z' H' p (.bl _)
/-! any over ints -/
inductive RunJ (G : Store → Prop) (step : D → Store → Res (Option D)) (Se : Store) (r : Bool) : List D → Store → List Int → Prop
  | nil {S0 : Store} (hg : G S0) (e : S0 = Se) (b : r = false) : RunJ G step Se r [] S0 []
  | skip {x : D} {xs : List D} {S0 S2 : Store} {ys : List Int} (hg : G S0) (hs : step x S0 = .ok none S2) (h : RunJ G step Se r xs S2 ys) : RunJ G step Se r (x :: xs) S0 ys
  | stop {x : D} {xs : List D} {S0 : Store} {n : Int} (hg : G S0) (hs : step x S0 = .ok (some (.int n)) Se) (hn : n ≠ 0) (b : r = true) : RunJ G step Se r (x :: xs) S0 [n]
  | next {x : D} {xs : List D} {S0 S2 : Store} {ys : List Int} (hg : G S0) (hs : step x S0 = .ok (some (.int 0)) S2) (h : RunJ G step Se r xs S2 ys) : RunJ G step Se r (x :: xs) S0 (0 :: ys)
theorem anyIGo_run {G : Store → Prop} {step : D → Store → Res (Option D)} {Se : Store} {d : D} : ∀ {xs : List D} {S : Store}, anyIGo G step xs S = .ok d Se → ∃ r ys, d = .bl r ∧ RunJ G step Se r xs S ys
  | [], S, h => by
    rw [anyIGo] at h
    split at h
    · cases h; exact ⟨_, _, rfl, .nil (by assumption) rfl rfl⟩
    · cases h
  | x :: xs, S, h => by
    rw [anyIGo] at h
    split at h
    · rename_i hG
      cases e : step x S with
      | exc _ _ => rw [e] at h; cases h
      | stuck => rw [e] at h; cases h
      | ok o S1 =>
        rw [e, Res.bind_ok] at h
        cases o with
        | none =>
          obtain ⟨r, ys, e1, q⟩ := anyIGo_run (xs := xs) h
          exact ⟨r, ys, e1, .skip hG e q⟩
        | some y =>
          cases y with
          | int b =>
            simp only at h
            split at h
            · rename_i hb
              subst hb
              obtain ⟨r, ys, e1, q⟩ := anyIGo_run (xs := xs) h
              exact ⟨r, _, e1, .next hG e q⟩
            · rename_i hb
              cases h
              exact ⟨_, _, rfl, .stop hG e hb rfl⟩
          | _ => cases h
    · cases h
theorem qi_reads {ei : GE → Store → Res Itm} {ec : GE → Store → Res Bool} {ee : GE → Store → Res D} {t : Tg} {vs : List Nat} {Q : VK} {P : Addr} (hP : P ∈ tabs) (hv : ∀ i, i ∈ vs ↔ i ∈ ownT t)
    (h : tG tabs mg E RelD (fun g S => (ei g S).bind fun p S1 => (anyIGo p.2 (stepG ec ee t g) p.1 S1).noexc) σ H Q) :
    tGen P istop (tG tabs mg E (ItR tabs) ei) (gT K t) (tG tabs mg E0 RelB ec) (tG tabs mg E0 RelD ee) vs intsV (fun H => Q (.bl true) H) (fun _ H => Q (.bl false) H) σ H := by
  obtain ⟨ρ, Z, S, g, rs, sl, h⟩ := h
  refine tG_mono (sat_bind (R1 := ItR tabs) rs sl h) fun J H1 ⟨ρ1, Z1, S1, ⟨xs, G⟩, p1, it, h1⟩ => ?_
  have it : ItS tabs J xs G ρ1 Z1 := it
  have h1 : Sat tabs mg E RelD Q ρ1 Z1 H1 ((anyIGo G (stepG ec ee t g) xs S1).noexc.bind fun a S => .ok a S) := by
    have h1 : Sat tabs mg E RelD Q ρ1 Z1 H1 (anyIGo G (stepG ec ee t g) xs S1).noexc := h1
    cases e : (anyIGo G (stepG ec ee t g) xs S1).noexc <;> (rw [e] at h1; exact h1)
  obtain ⟨d, Se, hgo, h2⟩ := noexc_ok h1
  obtain ⟨r, ys, hd, run⟩ := anyIGo_run hgo
  subst hd
  refine ⟨p1.st.tab P hP, fun H2 tb => ⟨ys.map V.int, fun i j m H' => m + i = xs.length ∧ ∃ ρ' Z' S' rest, Post tabs ρ1 Z1 H1 ρ' Z' S' H' ∧ ys.drop j = rest ∧ j ≤ ys.length ∧ RunJ G (stepG ec ee t g) Se r (xs.drop i) S' rest, fun y hy => ?_, ⟨xs.length, rfl, ρ1, Z1, S1, ys, p1.st.tabbed (p1.st.tab P hP) tb, rfl, Nat.zero_le _, run⟩, ?_⟩⟩
  · obtain ⟨b, _, rfl⟩ := List.mem_map.mp hy; exact ⟨b, rfl⟩
  · intro i j m H' ⟨hm, ρ', Z', S', rest, p, hys, hj, rn⟩
    by_cases hi : i < xs.length
    · obtain ⟨x, hx⟩ : ∃ x, xs[i]? = some x := ⟨_, List.getElem?_eq_getElem hi⟩
      have hd : xs.drop i = x :: xs.drop (i + 1) := by
        rw [List.drop_eq_getElem_cons hi]
        rw [List.getElem?_eq_getElem hi] at hx
        cases hx; rfl
      rw [hd] at rn
      have hdrop : ∀ {y : Int} {ys' : List Int}, ys.drop j = y :: ys' → (ys.map V.int)[j]? = some (.int y) ∧ ys.drop (j + 1) = ys' ∧ j + 1 ≤ ys.length := fun {y ys'} e => by
        have hl : j < ys.length := by
          by_cases hl : j < ys.length
          · exact hl
          · rw [List.drop_eq_nil_of_le (by omega)] at e; cases e
        rw [List.drop_eq_getElem_cons hl] at e
        cases e
        exact ⟨by rw [List.getElem?_map, List.getElem?_eq_getElem hl]; rfl, rfl, hl⟩
      have go : ∀ {o : Option D} {Sa : Store}, G S' → stepG ec ee t g x S' = .ok o Sa →
          (o = none → ∀ ρ3 Z3 H3, Post tabs ρ1 Z1 H1 ρ3 Z3 Sa H3 → (m - 1) + (i + 1) = xs.length ∧ ∃ ρ' Z' S' rest, Post tabs ρ1 Z1 H1 ρ' Z' S' H3 ∧ ys.drop j = rest ∧ j ≤ ys.length ∧ RunJ G (stepG ec ee t g) Se r (xs.drop (i + 1)) S' rest) →
          (∀ dd, o = some dd → ∀ ρ3 Z3 H3 y, Post tabs ρ1 Z1 H1 ρ3 Z3 Sa H3 → RelD Z3 ρ3 dd y → (ys.map V.int)[j]? = some y ∧ (istop y → Q (.bl true) H3) ∧ (¬ istop y → (m - 1) + (i + 1) = xs.length ∧ ∃ ρ' Z' S' rest, Post tabs ρ1 Z1 H1 ρ' Z' S' H3 ∧ ys.drop (j + 1) = rest ∧ j + 1 ≤ ys.length ∧ RunJ G (stepG ec ee t g) Se r (xs.drop (i + 1)) S' rest)) →
          J.go i H' ∧ ∃ Nx : Nat → Hp → Prop, (∀ j' H', Nx j' H' → ∃ m', m' < m ∧ m' + (i + 1) = xs.length ∧ ∃ ρ' Z' S' rest, Post tabs ρ1 Z1 H1 ρ' Z' S' H' ∧ ys.drop j' = rest ∧ j' ≤ ys.length ∧ RunJ G (stepG ec ee t g) Se r (xs.drop (i + 1)) S' rest) ∧
            ∀ x H'', J.yld i H' x H'' → gT K t x (wipe σ vs) H'' fun σ2 H2 => wipe σ2 vs = wipe σ vs ∧ tG tabs mg E0 RelB ec σ2 H2 fun b H3 =>
              if b = true then tG tabs mg E0 RelD ee σ2 H3 fun y H4 => (ys.map V.int)[j]? = some y ∧ (istop y → Q (.bl true) H4) ∧ (¬ istop y → Nx (j + 1) H4) else Nx j H3 := fun {o Sa} hG hst kN kY => by
        obtain ⟨hgo1, hyl⟩ := it.go p.pre p.zm p.st hG hx
        refine ⟨hgo1, fun j' H3 => (m - 1) + (i + 1) = xs.length ∧ ∃ ρ' Z' S' rest, Post tabs ρ1 Z1 H1 ρ' Z' S' H3 ∧ ys.drop j' = rest ∧ j' ≤ ys.length ∧ RunJ G (stepG ec ee t g) Se r (xs.drop (i + 1)) S' rest, fun j' H3 w => ⟨m - 1, by omega, w⟩, fun v H2 hy => ?_⟩
        obtain ⟨Z2, p2, rv⟩ := hyl v H2 hy
        exact turn_el hv p2.st (((sl.post p1).post p).post p2) rv hst (fun ho ρ3 Z3 H3 p3 => kN ho ρ3 Z3 H3 (p.trans (p2.trans p3))) (fun d ho ρ3 Z3 H3 y p3 ry => kY d ho ρ3 Z3 H3 y (p.trans (p2.trans p3)) ry)
      cases rn with
      | skip hG hst hr =>
        exact .inr (go hG hst (fun _ ρ3 Z3 H3 p3 => ⟨by omega, ρ3, Z3, _, _, p3, hys, hj, hr⟩) (fun dd ho => by cases ho))
      | stop hG hst hn0 hb =>
        refine .inr (go hG hst (fun ho => by cases ho) (fun dd ho ρ3 Z3 H3 y p3 ry => ?_))
        cases ho
        rw [rel_int ry]
        obtain ⟨q1, q2, q3⟩ := hdrop hys
        exact ⟨q1, fun _ => by subst hb; exact h2 _ ρ3 Z3 H3 p3 (.bl _), fun n => absurd ⟨_, rfl, hn0⟩ n⟩
      | next hG hst hr =>
        refine .inr (go hG hst (fun ho => by cases ho) (fun dd ho ρ3 Z3 H3 y p3 ry => ?_))
        cases ho
        rw [rel_int ry]
        obtain ⟨q1, q2, q3⟩ := hdrop hys
        exact ⟨q1, fun ⟨z, e1, e2⟩ => by cases e1; exact absurd rfl e2, fun _ => ⟨by omega, ρ3, Z3, _, _, p3, q2, q3, hr⟩⟩
    · have hd : xs.drop i = [] := List.drop_eq_nil_of_le (by omega)
      rw [hd] at rn
      have he : i = xs.length := by omega
      subst he
      cases rn with
      | nil hG e hb =>
        refine .inl ⟨it.stop p.pre p.zm p.st hG, ?_, ?_⟩
        · rw [List.length_map]
          have := congrArg List.length hys
          rw [List.length_drop, List.length_nil] at this
          omega
        · subst e; subst hb; exact h2 _ ρ' Z' H' p (.bl _)
theorem sum_fit {zs : List Int} (h : sumFit zs) : ∀ j z, zs[j]? = some z → InLong z ∧ InLong ((zs.take (j + 1)).sum) := by
  have bd : ∀ l : List Int, (∀ z ∈ l, -(2 ^ 40) ≤ z ∧ z ≤ 2 ^ 40) → -((l.length : Int) * 2 ^ 40) ≤ l.sum ∧ l.sum ≤ (l.length : Int) * 2 ^ 40 := by
    intro l
    induction l with
    | nil => intro _; simp
    | cons a l ih =>
      intro hl
      have h1 := hl a List.mem_cons_self
      have h2 := ih fun z hz => hl z (List.mem_cons_of_mem _ hz)
      rw [List.sum_cons, List.length_cons]
      push_cast
      omega
  intro j z hz
  have h1 := h.2 z (List.mem_of_getElem? hz)
  have h2 := bd (zs.take (j + 1)) fun w hw => h.2 w (List.mem_of_mem_take hw)
  have h3 : (zs.take (j + 1)).length ≤ 1000000 := by rw [List.length_take]; have := h.1; omega
  unfold InLong
  omega
theorem sum_reads {ei : GE → Store → Res Itm} {ec : GE → Store → Res Bool} {ee : GE → Store → Res D} {t : Tg} {vs : List Nat} {Q : VK} {P : Addr} (hP : P ∈ tabs) (hv : ∀ i, i ∈ vs ↔ i ∈ ownT t)
    (h : tG tabs mg E RelD (fun g S => (ei g S).bind fun p S1 => (lcGo p.2 (stepG ec ee t g) p.1 S1).noexc.bind fun ds S2 => match intsD ds with
      | some zs => if sumFit zs then .ok (.int zs.sum) S2 else .stuck
      | none => .stuck) σ H Q) :
    tSumG P (tG tabs mg E (ItR tabs) ei) (gT K t) (tG tabs mg E0 RelB ec) (tG tabs mg E0 RelD ee) vs σ H Q := by
  obtain ⟨ρ, Z, S, g, rs, sl, h⟩ := h
  refine tG_mono (sat_bind (R1 := ItR tabs) rs sl h) fun J H1 ⟨ρ1, Z1, S1, ⟨xs, G⟩, p1, it, h1⟩ => ?_
  have it : ItS tabs J xs G ρ1 Z1 := it
  obtain ⟨ds, Se, hgo, h2⟩ := noexc_ok h1
  have hgo : lcGo G (stepG ec ee t g) xs S1 = .ok ds Se := hgo
  split at h2
  · rename_i zs hzs
    have hds := intsD_some hzs
    subst hds
    split at h2
    · rename_i hfit
      refine ⟨p1.st.tab P hP, fun H2 tb => ⟨zs.map V.int, fun i j m H' => m + i = xs.length ∧ ∃ ρ' Z' S', Post tabs ρ1 Z1 H1 ρ' Z' S' H' ∧ j ≤ zs.length ∧ lcGo G (stepG ec ee t g) (xs.drop i) S' = .ok ((zs.drop j).map D.int) Se, ⟨zs, rfl, sum_fit hfit⟩, ⟨xs.length, rfl, ρ1, Z1, S1, p1.st.tabbed (p1.st.tab P hP) tb, Nat.zero_le _, hgo⟩, ?_⟩⟩
      intro i j m H' ⟨hm, ρ', Z', S', p, hj, hg⟩
      by_cases hi : i < xs.length
      · obtain ⟨x, hx⟩ : ∃ x, xs[i]? = some x := ⟨_, List.getElem?_eq_getElem hi⟩
        have hd : xs.drop i = x :: xs.drop (i + 1) := by
          rw [List.drop_eq_getElem_cons hi]
          rw [List.getElem?_eq_getElem hi] at hx
          cases hx; rfl
        rw [hd] at hg
        obtain ⟨hG, o, Sa, rest', hst, hgo', hrest⟩ := lcGo_cons hg
        obtain ⟨hgo1, hyl⟩ := it.go p.pre p.zm p.st hG hx
        refine .inr ⟨hgo1, fun j' H' => (m - 1) + (i + 1) = xs.length ∧ ∃ ρ' Z' S', Post tabs ρ1 Z1 H1 ρ' Z' S' H' ∧ j' ≤ zs.length ∧ lcGo G (stepG ec ee t g) (xs.drop (i + 1)) S' = .ok ((zs.drop j').map D.int) Se, fun j' H'' w => ⟨m - 1, by omega, w⟩, fun v H2 hy => ?_⟩
        obtain ⟨Z2, p2, rv⟩ := hyl v H2 hy
        refine turn_el hv p2.st (((sl.post p1).post p).post p2) rv hst (fun ho ρ3 Z3 H3 p3 => ?_) (fun d ho ρ3 Z3 H3 y p3 ry => ?_)
        · subst ho
          have hrest : (zs.drop j).map D.int = rest' := hrest
          rw [hrest]
          exact ⟨by omega, ρ3, Z3, Sa, p.trans (p2.trans p3), hj, hgo'⟩
        · subst ho
          have hrest : (zs.drop j).map D.int = d :: rest' := hrest
          have hl : j < zs.length := by
            by_cases hl : j < zs.length
            · exact hl
            · rw [List.drop_eq_nil_of_le (by omega)] at hrest; cases hrest
          rw [List.drop_eq_getElem_cons hl, List.map_cons] at hrest
          cases hrest
          rw [rel_int ry]
          exact ⟨by rw [List.getElem?_map, List.getElem?_eq_getElem hl]; rfl, fun z => z.elim, fun _ => ⟨by omega, ρ3, Z3, Sa, p.trans (p2.trans p3), hl, hgo'⟩⟩
      · have hd : xs.drop i = [] := List.drop_eq_nil_of_le (by omega)
        rw [hd] at hg
        obtain ⟨hG, hrest, hS⟩ := lcGo_nil hg
        have he : i = xs.length := by omega
        subst he
        subst hS
        refine .inl ⟨it.stop p.pre p.zm p.st hG, ?_, fun zs' ez => ?_⟩
        · rw [List.length_map]
          have := congrArg List.length hrest
          rw [List.length_map, List.length_drop, List.length_nil] at this
          omega
        · have e : zs' = zs := by
            have := congrArg (List.map fun v => match v with | V.int i => i | _ => 0) ez
            simpa [Function.comp_def] using this.symm
          rw [e]
          exact h2 _ ρ' Z' H' p (.int _)
    · exact h2.elim
  · exact h2.elim
end
end Li
end

section
set_option Elab.async false
set_option linter.all false
set_option maxRecDepth 100000
set_option maxHeartbeats 4000000
namespace Li
open PySem PySem.Spec PyProof.Rows L2 GxR GX
open Classical
section
variable {tabs : List Addr} {mg : Str → Option Value} {E E' : XK} {K : PySem.W.Frag} {α β γ δ : Type} {R1 : Hp → List Addr → γ → δ → Prop} {ρ ρ1 : List Addr} {Z Z1 H H1 : Hp} {S S1 : Store} {g : GE} {σ : L2.St}
theorem wipG_get : ∀ (is : List Nat) (g : GE) (j : Nat) (d : D), (wipG g is)[j]? = some (some d) → j ∉ is ∧ g[j]? = some (some d)
  | [], g, j, d, h => ⟨by simp, h⟩
  | i :: is, g, j, d, h => by
    obtain ⟨h1, h2⟩ := wipG_get is (g.set i none) j d h
    by_cases hij : i = j
    · subst hij
      by_cases hl : i < g.length
      · rw [List.getElem?_set_self hl] at h2; cases h2
      · rw [List.getElem?_eq_none (by rw [List.length_set]; omega)] at h2; cases h2
    · rw [List.getElem?_set_ne hij] at h2
      exact ⟨fun m => (List.mem_cons.mp m).elim (fun e => hij e.symm) h1, h2⟩
theorem wipG_len : ∀ (is : List Nat) (g : GE), (wipG g is).length = g.length
  | [], _ => rfl
  | i :: is, g => by
    have := wipG_len is (g.set i none)
    rw [List.length_set] at this
    exact this
theorem SlX.wip {P : Nat → Prop} (w : List Nat) (h : SlX Z ρ g σ P) : SlX Z ρ (wipG g w) σ (fun i => P i ∧ i ∉ w) :=
  ⟨by rw [wipG_len]; exact h.1, fun i d hp e => by
    obtain ⟨e1, e2⟩ := wipG_get w g i d e
    exact h.2 i d (fun z => hp ⟨z, e1⟩) e2⟩
theorem bind_ok {γ : Type} {r : Res γ} {k : γ → Store → Res α} {a : α} {S2 : Store} (h : r.bind k = .ok a S2) : ∃ c S1, r = .ok c S1 ∧ k c S1 = .ok a S2 := by
  cases r with
  | ok c S1 => exact ⟨c, S1, rfl, h⟩
  | exc _ _ => cases h
  | stuck => cases h
theorem in2_ok {ei : GE → Store → Res Itm} {t1 : Tg} {w : List Nat} {k : GE → Itm → Store → Res α} {x : D} {a : α} {S2 : Store} (h : in2 ei t1 w g k x S = .ok a S2) : ∃ g' q S1, setT S t1 x (wipG g w) = some g' ∧ ei g' S = .ok q S1 ∧ k g' q S1 = .ok a S2 := by
  unfold in2 at h
  split at h
  · rename_i g' hg
    obtain ⟨q, S1, e1, e2⟩ := bind_ok h
    exact ⟨g', q, S1, hg, e1, e2⟩
  · cases h
theorem lcGo2_nil {G : Store → Prop} {step : D → Store → Res (List D)} {ds : List D} {S S2 : Store} (h : lcGo2 G step [] S = .ok ds S2) : G S ∧ ds = [] ∧ S2 = S := by
  unfold lcGo2 at h
  split at h
  · cases h; exact ⟨by assumption, rfl, rfl⟩
  · cases h
theorem lcGo2_cons {G : Store → Prop} {step : D → Store → Res (List D)} {x : D} {xs ds : List D} {S S2 : Store} (h : lcGo2 G step (x :: xs) S = .ok ds S2) : G S ∧ ∃ o S1 rest, step x S = .ok o S1 ∧ lcGo2 G step xs S1 = .ok rest S2 ∧ ds = o ++ rest := by
  rw [lcGo2] at h
  split at h
  · rename_i hG
    obtain ⟨o, S1, e1, h⟩ := bind_ok h
    obtain ⟨rest, S3, e2, h⟩ := bind_ok h
    cases h
    exact ⟨hG, o, S1, rest, e1, e2, rfl⟩
  · cases h
theorem drop_at {xs : List D} {i : Nat} (hi : i < xs.length) : ∃ x, xs[i]? = some x ∧ xs.drop i = x :: xs.drop (i + 1) :=
  ⟨xs[i], List.getElem?_eq_getElem hi, List.drop_eq_getElem_cons hi⟩
/-- the outer store of a two-clause turn -/
theorem turn_o {t1 : Tg} {w vs : List Nat} {g' : GE} {x : D} {v : V} {k : L2.St → Hp → Prop} {kn : Hp → Prop} (hv : ∀ i, i ∈ vs → i ∈ ownT t1 ∨ i ∈ w) (hv2 : ∀ i ∈ ownT t1, i ∈ vs) (rs : Rst tabs ρ Z S H) (sl : SlR Z ρ g σ) (rx : RelD Z ρ x v) (hg : setT S t1 x (wipG g w) = some g')
    (hk : ∀ σ2 ρ' Z' H', Post tabs ρ Z H ρ' Z' S H' → SlR Z' ρ' g' σ2 → k σ2 H') :
    gT K t1 v (wipe σ vs) H fun σ2 H2 => wipe σ2 vs = wipe σ vs ∧ tG tabs mg E RelB (fun _ S => .ok true S) σ2 H2 fun b H3 => if b = true then k σ2 H3 else kn H3 := by
  refine gT_ok t1 rs rx hg ((sl.wiped vs).wip w) fun σ' sx hw => ⟨by rw [hw vs hv2, wipe_wipe], ?_⟩
  have sl' : SlR Z ρ g' σ' := sx.all fun i hi => (hv i hi.1.1).elim hi.2 hi.1.2
  refine ⟨ρ, Z, S, g', rs, sl', fun b ρ' Z' H' p rb => ?_⟩
  cases (show true = b from rb)
  rw [if_pos rfl]
  exact hk σ' ρ' Z' H' p (sl'.post p)
theorem lc2_reads {ei ei2 : GE → Store → Res Itm} {ee : GE → Store → Res D} {t1 t2 : Tg} {vs vs1 : List Nat} {Q : VK} (hv : ∀ i, i ∈ vs ↔ i ∈ ownT t1 ∨ i ∈ ownT t2) (hv1 : ∀ i, i ∈ vs1 ↔ i ∈ ownT t2)
    (h : tG tabs mg E RelD (fun g S => (ei g S).bind fun p S1 => (lcGo2 p.2 (in2 ei2 t1 (ownT t2) g fun g' q S2 => lcGo q.2 (stepG (fun _ S => .ok true S) ee t2 g') q.1 S2) p.1 S1).noexc.bind fun ds S2 => if ds.length ≤ sizeLine then alloc (.lst ds) S2 else .stuck) σ H Q) :
    tLc2 (tG tabs mg E (ItR tabs) ei) (gT K t1) (tG tabs mg E0 RelB fun _ S => .ok true S) (tG tabs mg E0 (ItR tabs) ei2) (gT K t2) (tG tabs mg E0 RelB fun _ S => .ok true S) (tG tabs mg E0 RelD ee) vs vs1 σ H Q := by
  obtain ⟨ρ, Z, S, g, rs, sl, h⟩ := h
  refine tG_mono (sat_bind (R1 := ItR tabs) rs sl h) fun J H1 ⟨ρ1, Z1, S1, ⟨xs, G⟩, p1, it, h1⟩ => ?_
  have it : ItS tabs J xs G ρ1 Z1 := it
  obtain ⟨ds, S2, hgo, h2⟩ := noexc_ok h1
  generalize hst : (in2 ei2 t1 (ownT t2) g fun g' (q : Itm) S2 => lcGo q.2 (stepG (fun _ S => .ok true S) ee t2 g') q.1 S2) = step at hgo
  have hgo : lcGo2 G step xs S1 = .ok ds S2 := hgo
  split at h2
  · rename_i hz
    intro D hD
    have nD1 : D ∉ ρ1 := fun z => by
      obtain ⟨_, u, e, _⟩ := p1.st.mem_there z
      rw [hD] at e; cases e
    have nZ1 : Z1 D = none := by
      cases e : Z1 D with
      | none => rfl
      | some o => rw [p1.st.zle D o e] at hD; cases hD
    refine ⟨fun i m H' => m + i = xs.length ∧ ∃ ρ' Z' S' acc aD rest, Post tabs ρ1 Z1 H1 ρ' Z' S' H' ∧ D ∉ ρ' ∧ Z' D = none ∧ H' D = some (.lst acc) ∧ RelDs Z' ρ' aD acc ∧ lcGo2 G step (xs.drop i) S' = .ok rest S2 ∧ ds = aD ++ rest, ⟨xs.length, rfl, ρ1, Z1, S1, [], [], ds, ?_, nD1, nZ1, upd_same, .nil, hgo, rfl⟩, ?_⟩
    · exact (Post.refl p1.st).updF hD nD1 nZ1 (fun q => by rw [hD]; intro z; cases z) (fun q z => by cases z)
    · intro i m H' ⟨hm, ρ', Z', S', acc, aD, rest, p, nD, nZ, hDH, hr, hg, hds⟩
      by_cases hi : i < xs.length
      · obtain ⟨x, hx, hd⟩ := drop_at hi
        rw [hd] at hg
        obtain ⟨hG, o, Sa, rest', hstep, hgo', hrest⟩ := lcGo2_cons hg
        obtain ⟨hgo1, hyl⟩ := it.go p.pre p.zm p.st hG hx
        refine .inr ⟨hgo1, fun H' => (m - 1) + (i + 1) = xs.length ∧ ∃ ρ' Z' S' acc aD rest, Post tabs ρ1 Z1 H1 ρ' Z' S' H' ∧ D ∉ ρ' ∧ Z' D = none ∧ H' D = some (.lst acc) ∧ RelDs Z' ρ' aD acc ∧ lcGo2 G step (xs.drop (i + 1)) S' = .ok rest S2 ∧ ds = aD ++ rest, fun H'' w => ⟨m - 1, by omega, w⟩, fun v H2 hy => ?_⟩
        obtain ⟨Z2, p2, rv⟩ := hyl v H2 hy
        have keep : ∀ {ρ2 ρ3 : List Addr} {Z2 Z3 H2 H3 : Hp} {S3 : Store} {acc : List V}, D ∉ ρ2 → Z2 D = none → H2 D = some (.lst acc) → Post tabs ρ2 Z2 H2 ρ3 Z3 S3 H3 → D ∉ ρ3 ∧ Z3 D = none ∧ H3 D = some (.lst acc) := fun nD nZ hDH q => ⟨(fun hm' => nomatch ((q.fresh D hm' nD).symm.trans hDH)), q.zf D nZ (by rw [hDH]; intro z; cases z) (by rw [hDH]; intro vs z; cases z), q.ev D _ hDH nD (fun q z => by cases z)⟩
        rw [← hst] at hstep
        obtain ⟨g', ⟨ys, G1⟩, Sb, hgg, hei, hin⟩ := in2_ok hstep
        have hin : lcGo G1 (stepG (fun _ S => .ok true S) ee t2 g') ys Sb = .ok o Sa := hin
        refine turn_o (fun i hi => (hv i).mp hi) (fun i hi => (hv i).mpr (.inl hi)) p2.st ((((sl.post p1).post p)).post p2) rv hgg fun σ2 ρ3 Z3 H3 p3 sl3 => ?_
        have pp := p.trans (p2.trans p3)
        obtain ⟨k1, k2, k3⟩ := keep nD nZ hDH (p2.trans p3)
        have hr3 := hr.mono (p2.trans p3).zm (p2.trans p3).pre
        refine tG_run (R1 := ItR tabs) p3.st sl3 hei fun J1 ρ4 Z4 H4 p4 it4 => ?_
        have it4 : ItS tabs J1 ys G1 ρ4 Z4 := it4
        obtain ⟨k1, k2, k3⟩ := keep k1 k2 k3 p4
        have hr4 := hr3.mono p4.zm p4.pre
        have sl4 := sl3.post p4
        refine ⟨fun j k H' => k + j = ys.length ∧ ∃ ρ' Z' S' acc aD rest, Post tabs ρ1 Z1 H1 ρ' Z' S' H' ∧ Pre ρ4 ρ' ∧ Le Z4 Z' ∧ D ∉ ρ' ∧ Z' D = none ∧ H' D = some (.lst acc) ∧ RelDs Z' ρ' aD acc ∧ lcGo G1 (stepG (fun _ S => .ok true S) ee t2 g') (ys.drop j) S' = .ok rest Sa ∧ ds = aD ++ (rest ++ rest'), ⟨ys.length, rfl, ρ4, Z4, Sb, acc, aD, o, pp.trans p4, Pre.refl _, Le.refl _, k1, k2, k3, hr4, hin, by rw [hds, hrest]⟩, ?_⟩
        intro j k H5 ⟨hk, ρ5, Z5, S5, acc5, aD5, rst, p5, pr5, ze5, nD5, nZ5, hD5, hr5, hg5, hds5⟩
        by_cases hj : j < ys.length
        · obtain ⟨y, hy5, hd5⟩ := drop_at hj
          rw [hd5] at hg5
          obtain ⟨hG5, o5, S6, rst', hst5, hgo5, hrst⟩ := lcGo_cons hg5
          obtain ⟨hgo6, hyl6⟩ := it4.go pr5 ze5 p5.st hG5 hy5
          refine .inr ⟨hgo6, fun H' => (k - 1) + (j + 1) = ys.length ∧ ∃ ρ' Z' S' acc aD rest, Post tabs ρ1 Z1 H1 ρ' Z' S' H' ∧ Pre ρ4 ρ' ∧ Le Z4 Z' ∧ D ∉ ρ' ∧ Z' D = none ∧ H' D = some (.lst acc) ∧ RelDs Z' ρ' aD acc ∧ lcGo G1 (stepG (fun _ S => .ok true S) ee t2 g') (ys.drop (j + 1)) S' = .ok rest Sa ∧ ds = aD ++ (rest ++ rest'), fun H'' w => ⟨k - 1, by omega, w⟩, fun v6 H6 hy6 => ?_⟩
          obtain ⟨Z6, p6, rv6⟩ := hyl6 v6 H6 hy6
          refine turn_el hv1 p6.st ((sl4.mono ze5 pr5).post p6) rv6 hst5 (fun ho ρ7 Z7 H7 p7 => ?_) (fun d ho ρ7 Z7 H7 y7 p7 ry7 => ?_)
          · have p67 := p6.trans p7
            obtain ⟨k1, k2, k3⟩ := keep nD5 nZ5 hD5 p67
            refine ⟨by omega, ρ7, Z7, S6, acc5, aD5, rst', p5.trans p67, pr5.trans p67.pre, ze5.trans p67.zm, k1, k2, k3, hr5.mono p67.zm p67.pre, hgo5, ?_⟩
            rw [hds5, hrst, ho]
          · have p67 := p6.trans p7
            obtain ⟨k1, k2, k3⟩ := keep nD5 nZ5 hD5 p67
            have hlen : ds.length = aD5.length + ((rst'.length + 1) + rest'.length) := by rw [hds5, hrst, ho, List.length_append, List.length_append, List.length_cons]
            refine ⟨acc5, k3, by rw [← hr5.length]; omega, by omega, ρ7, Z7, S6, acc5 ++ [y7], aD5 ++ [d], rst', ?_, pr5.trans p67.pre, ze5.trans p67.zm, k1, k2, upd_same, (hr5.mono p67.zm p67.pre).append (.cons ry7 .nil), hgo5, ?_⟩
            · exact (p5.trans p67).updF hD k1 k2 (fun q => by rw [k3]; intro z; cases z) (fun q z => by cases z)
            · rw [hds5, hrst, ho]; simp
        · have hd5 : ys.drop j = [] := List.drop_eq_nil_of_le (by omega)
          rw [hd5] at hg5
          obtain ⟨hG5, hrst, hS5⟩ := lcGo_nil hg5
          subst hrst
          subst hS5
          have he : j = ys.length := by omega
          subst he
          exact .inl ⟨it4.stop pr5 ze5 p5.st hG5, by omega, ρ5, Z5, _, acc5, aD5, rest', p5, nD5, nZ5, hD5, hr5, hgo', by rw [hds5, List.nil_append]⟩
      · have hd : xs.drop i = [] := List.drop_eq_nil_of_le (by omega)
        rw [hd] at hg
        obtain ⟨hG, hrest, hS⟩ := lcGo2_nil hg
        subst hrest
        subst hS
        rw [List.append_nil] at hds
        subst hds
        have he : i = xs.length := by omega
        subst he
        refine .inl ⟨it.stop p.pre p.zm p.st hG, ?_⟩
        exact h2 _ _ _ _ (p.adopt hD nD nZ hDH hr) (.ref (by rw [List.getElem?_append_right (by rw [p.st.len]; exact Nat.le_refl _), p.st.len, Nat.sub_self]; rfl))
  · exact h2.elim
/-! ### dicts by comprehensions -/
theorem tkeys_app : ∀ {a b : List D} {ks : List (List Key)}, tkeys (a ++ b) = some ks → ∃ ka kb, tkeys a = some ka ∧ tkeys b = some kb ∧ ks = ka ++ kb
  | [], b, ks, h => ⟨[], ks, rfl, h, rfl⟩
  | d :: a, b, ks, h => by
    simp only [List.cons_append, tkeys] at h
    split at h
    · rename_i k r h1 h2
      cases h
      obtain ⟨ka, kb, e1, e2, rfl⟩ := tkeys_app h2
      exact ⟨k :: ka, kb, by simp only [tkeys, h1, e1], e2, rfl⟩
    · cases h
theorem tkeys_snoc : ∀ {a : List D} {d : D} {ka : List (List Key)} {k : List Key}, tkeys a = some ka → tkey d = some k → tkeys (a ++ [d]) = some (ka ++ [k])
  | [], d, ka, k, h, h2 => by cases h; simp only [List.nil_append, tkeys, h2]
  | x :: a, d, ka, k, h, h2 => by
    simp only [tkeys] at h
    split at h
    · rename_i k0 r h1 h3
      cases h
      simp only [List.cons_append, tkeys, h1, tkeys_snoc h3 h2]
    · cases h
theorem tkeys_one {d : D} {b : List D} {ks : List (List Key)} (h : tkeys (d :: b) = some ks) : ∃ k, tkey d = some k := by
  simp only [tkeys] at h
  split at h
  · exact ⟨_, by assumption⟩
  · cases h
def kvT (ks : List (List Key)) : List (List Key × V) := ks.map fun k => (k, V.bl true)
theorem put_kvT (ks : List (List Key)) (k : List Key) : putK (kvT ks) k (.bl true) = kvT (if (ks.any fun x => decide (x = k)) = true then ks else ks ++ [k]) := by
  unfold putK kvT
  have e : ((ks.map fun k => (k, V.bl true)).any fun kv => decide (kv.1 = k)) = (ks.any fun x => decide (x = k)) := by rw [List.any_map]; rfl
  rw [e]
  split
  · rw [List.map_map]
    refine List.map_congr_left fun x hx => ?_
    show (if x = k then (x, V.bl true) else (x, V.bl true)) = _
    split <;> rfl
  · rw [List.map_append]; rfl
theorem addKs_snoc (ks : List (List Key)) (k : List Key) : addKs [] (ks ++ [k]) = if ((addKs [] ks).any fun x => decide (x = k)) = true then addKs [] ks else addKs [] ks ++ [k] := by
  unfold addKs; rw [List.foldl_append]; rfl
theorem addKs_len : ∀ (ks acc : List (List Key)), (addKs acc ks).length ≤ acc.length + ks.length
  | [], acc => by show acc.length ≤ _; omega
  | k :: ks, acc => by
    have h : addKs acc (k :: ks) = addKs (if (acc.any fun x => decide (x = k)) = true then acc else acc ++ [k]) ks := rfl
    rw [h]
    refine Nat.le_trans (addKs_len ks _) ?_
    split
    · simp only [List.length_cons]; omega
    · simp only [List.length_cons, List.length_append, List.length_nil]; omega
/-- a turn without a test: the outer store, an element -/
theorem turn_o2 {t1 : Tg} {w vs : List Nat} {g' : GE} {x : D} {v : V} {k : L2.St → Hp → Prop} (hv : ∀ i, i ∈ vs → i ∈ ownT t1 ∨ i ∈ w) (hv2 : ∀ i ∈ ownT t1, i ∈ vs) (rs : Rst tabs ρ Z S H) (sl : SlR Z ρ g σ) (rx : RelD Z ρ x v) (hg : setT S t1 x (wipG g w) = some g')
    (hk : ∀ σ2, SlR Z ρ g' σ2 → k σ2 H) : gT K t1 v (wipe σ vs) H fun σ2 H2 => wipe σ2 vs = wipe σ vs ∧ k σ2 H2 := by
  refine gT_ok t1 rs rx hg ((sl.wiped vs).wip w) fun σ' sx hw => ⟨by rw [hw vs hv2, wipe_wipe], ?_⟩
  exact hk σ' (sx.all fun i hi => (hv i hi.1.1).elim hi.2 hi.1.2)
theorem turn_x {ee : GE → Store → Res D} {t : Tg} {vs : List Nat} (hv : ∀ i, i ∈ vs ↔ i ∈ ownT t) (rs : Rst tabs ρ Z S H) (sl : SlR Z ρ g σ) {x : D} {v : V} (rx : RelD Z ρ x v) {o : Option D} {S1 : Store} (hs : stepG (fun _ S => .ok true S) ee t g x S = .ok o S1) {KY : VK}
    (hY : ∀ d, o = some d → ∀ ρ' Z' H' y, Post tabs ρ Z H ρ' Z' S1 H' → RelD Z' ρ' d y → KY y H') :
    gT K t v (wipe σ vs) H fun σ2 H2 => wipe σ2 vs = wipe σ vs ∧ tG tabs mg E' RelD ee σ2 H2 KY := by
  unfold stepG at hs
  split at hs
  · rename_i g' hg
    refine gT_ok t rs rx hg (sl.wiped vs) fun σ' sx hw => ⟨by rw [hw vs fun i hi => (hv i).mpr hi, wipe_wipe], ?_⟩
    have sl' : SlR Z ρ g' σ' := sx.all fun i hi => hi.2 ((hv i).mp hi.1)
    rw [Res.bind_ok, if_pos rfl] at hs
    cases e2 : ee g' S with
    | exc _ _ => rw [e2] at hs; cases hs
    | stuck => rw [e2] at hs; cases hs
    | ok d S3 =>
      rw [e2, Res.bind_ok] at hs
      cases hs
      exact tG_run rs sl' e2 fun y ρ2 Z2 H2 p2 r2 => hY d rfl ρ2 Z2 H2 y p2 r2
  · cases hs
theorem dc2_reads {ei ei2 : GE → Store → Res Itm} {ee : GE → Store → Res D} {t1 t2 : Tg} {vs vs1 : List Nat} {Q : VK} (hv : ∀ i, i ∈ vs ↔ i ∈ ownT t1 ∨ i ∈ ownT t2) (hv1 : ∀ i, i ∈ vs1 ↔ i ∈ ownT t2)
    (h : tG tabs mg E RelD (fun g S => (ei g S).bind fun p S1 => (lcGo2 p.2 (in2 ei2 t1 (ownT t2) g fun g' q S2 => lcGo q.2 (stepG (fun _ S => .ok true S) ee t2 g') q.1 S2) p.1 S1).noexc.bind fun ds S2 => match tkeys ds with
      | some ks => if ks.length < sizeLine then .ok (.dfz (addKs [] ks)) S2 else .stuck
      | none => .stuck) σ H Q) :
    DcT.tDc2 (tG tabs mg E (ItR tabs) ei) (gT K t1) (tG tabs mg E0 (ItR tabs) ei2) (gT K t2) (tG tabs mg E0 RelD ee) (tC (.bl true)) vs vs1 σ H fun x H1 => ∃ D kvs, x = .ref D ∧ H1 D = some (.dT kvs) ∧ ∀ o, Q x (upd H1 D (.frz o (.dT kvs))) := by
  obtain ⟨ρ, Z, S, g, rs, sl, h⟩ := h
  refine tG_mono (sat_bind (R1 := ItR tabs) rs sl h) fun J H1 ⟨ρ1, Z1, S1, ⟨xs, G⟩, p1, it, h1⟩ => ?_
  have it : ItS tabs J xs G ρ1 Z1 := it
  obtain ⟨ds, S2, hgo, h2⟩ := noexc_ok h1
  generalize hst : (in2 ei2 t1 (ownT t2) g fun g' (q : Itm) S2 => lcGo q.2 (stepG (fun _ S => .ok true S) ee t2 g') q.1 S2) = step at hgo
  have hgo : lcGo2 G step xs S1 = .ok ds S2 := hgo
  split at h2
  · rename_i ks hks
    split at h2
    · rename_i hz
      intro D hD
      have nD1 : D ∉ ρ1 := fun z => by
        obtain ⟨_, u, e, _⟩ := p1.st.mem_there z
        rw [hD] at e; cases e
      have nZ1 : Z1 D = none := by
        cases e : Z1 D with
        | none => rfl
        | some o => rw [p1.st.zle D o e] at hD; cases hD
      have keep : ∀ {ρ2 ρ3 : List Addr} {Z2 Z3 H2 H3 : Hp} {S3 : Store} {acc : List (List Key × V)}, D ∉ ρ2 → Z2 D = none → H2 D = some (.dT acc) → Post tabs ρ2 Z2 H2 ρ3 Z3 S3 H3 → D ∉ ρ3 ∧ Z3 D = none ∧ H3 D = some (.dT acc) := fun nD nZ hDH q =>
        ⟨(fun hm' => nomatch ((q.fresh D hm' nD).symm.trans hDH)), q.zf D nZ (by rw [hDH]; intro z; cases z) (by rw [hDH]; intro vs z; cases z), q.ev D _ hDH nD (fun q z => by cases z)⟩
      let I : List Li.D → Store → Hp → List Addr → Hp → Prop := fun aD S' H' ρ' Z' => Post tabs ρ1 Z1 H1 ρ' Z' S' H' ∧ D ∉ ρ' ∧ Z' D = none ∧ ∃ ka, tkeys aD = some ka ∧ H' D = some (.dT (kvT (addKs [] ka)))
      refine ⟨fun i m H' => m + i = xs.length ∧ ∃ ρ' Z' S' aD rest, I aD S' H' ρ' Z' ∧ lcGo2 G step (xs.drop i) S' = .ok rest S2 ∧ ds = aD ++ rest, ⟨xs.length, rfl, ρ1, Z1, S1, [], ds, ⟨?_, nD1, nZ1, [], rfl, upd_same⟩, hgo, rfl⟩, ?_⟩
      · exact (Post.refl p1.st).updF hD nD1 nZ1 (fun q => by rw [hD]; intro z; cases z) (fun q z => by cases z)
      · intro i m H' ⟨hm, ρ', Z', S', aD, rest, ⟨p, nD, nZ, ka, hka, hDH⟩, hg, hds⟩
        by_cases hi : i < xs.length
        · obtain ⟨x, hx, hd⟩ := drop_at hi
          rw [hd] at hg
          obtain ⟨hG, o, Sa, rest', hstep, hgo', hrest⟩ := lcGo2_cons hg
          obtain ⟨hgo1, hyl⟩ := it.go p.pre p.zm p.st hG hx
          refine .inr ⟨hgo1, fun H' => (m - 1) + (i + 1) = xs.length ∧ ∃ ρ' Z' S' aD rest, I aD S' H' ρ' Z' ∧ lcGo2 G step (xs.drop (i + 1)) S' = .ok rest S2 ∧ ds = aD ++ rest, fun H'' w => ⟨m - 1, by omega, w⟩, fun v H2 hy => ?_⟩
          obtain ⟨Z2, p2, rv⟩ := hyl v H2 hy
          rw [← hst] at hstep
          obtain ⟨g', ⟨ys, G1⟩, Sb, hgg, hei, hin⟩ := in2_ok hstep
          have hin : lcGo G1 (stepG (fun _ S => .ok true S) ee t2 g') ys Sb = .ok o Sa := hin
          refine turn_o2 (fun i hi => (hv i).mp hi) (fun i hi => (hv i).mpr (.inl hi)) p2.st ((((sl.post p1).post p)).post p2) rv hgg fun σ2 sl3 => ?_
          obtain ⟨k1, k2, k3⟩ := keep nD nZ hDH p2
          refine tG_run (R1 := ItR tabs) p2.st sl3 hei fun J1 ρ4 Z4 H4 p4 it4 => ?_
          have it4 : ItS tabs J1 ys G1 ρ4 Z4 := it4
          obtain ⟨k1, k2, k3⟩ := keep k1 k2 k3 p4
          have sl4 := sl3.post p4
          refine ⟨fun j k H' => k + j = ys.length ∧ ∃ ρ' Z' S' aD rest, I aD S' H' ρ' Z' ∧ Pre ρ4 ρ' ∧ Le Z4 Z' ∧ lcGo G1 (stepG (fun _ S => .ok true S) ee t2 g') (ys.drop j) S' = .ok rest Sa ∧ ds = aD ++ (rest ++ rest'), ⟨ys.length, rfl, ρ4, Z4, Sb, aD, o, ⟨p.trans (p2.trans p4), k1, k2, ka, hka, k3⟩, Pre.refl _, Le.refl _, hin, by rw [hds, hrest]⟩, ?_⟩
          intro j k H5 ⟨hk, ρ5, Z5, S5, aD5, rst, ⟨p5, nD5, nZ5, ka5, hka5, hD5⟩, pr5, ze5, hg5, hds5⟩
          by_cases hj : j < ys.length
          · obtain ⟨y, hy5, hd5⟩ := drop_at hj
            rw [hd5] at hg5
            obtain ⟨hG5, o5, S6, rst', hst5, hgo5, hrst⟩ := lcGo_cons hg5
            obtain ⟨hgo6, hyl6⟩ := it4.go pr5 ze5 p5.st hG5 hy5
            refine .inr ⟨hgo6, fun H' => (k - 1) + (j + 1) = ys.length ∧ ∃ ρ' Z' S' aD rest, I aD S' H' ρ' Z' ∧ Pre ρ4 ρ' ∧ Le Z4 Z' ∧ lcGo G1 (stepG (fun _ S => .ok true S) ee t2 g') (ys.drop (j + 1)) S' = .ok rest Sa ∧ ds = aD ++ (rest ++ rest'), fun H'' w => ⟨k - 1, by omega, w⟩, fun v6 H6 hy6 => ?_⟩
            obtain ⟨Z6, p6, rv6⟩ := hyl6 v6 H6 hy6
            refine turn_x hv1 p6.st ((sl4.mono ze5 pr5).post p6) rv6 hst5 fun d ho ρ7 Z7 H7 y7 p7 ry7 => ?_
            have p67 := p6.trans p7
            obtain ⟨k1, k2, k3⟩ := keep nD5 nZ5 hD5 p67
            have e6 : ds = aD5 ++ ([d] ++ (rst' ++ rest')) := by rw [hds5, hrst, ho]; rfl
            have hks2 := hks
            rw [e6] at hks2
            obtain ⟨k0, kb, e7, e8, e9⟩ := tkeys_app hks2
            rw [hka5] at e7
            cases e7
            obtain ⟨kk, ekk⟩ := tkeys_one e8
            obtain ⟨b, rfl, hb⟩ := tkey_rel p7.st ry7 ekk
            have hsz : (kvT (addKs [] ka5)).length < sizeLine := by
              unfold kvT
              rw [List.length_map]
              have h1 := addKs_len ka5 []
              have h2 : ks.length = ka5.length + kb.length := by rw [e9, List.length_append]
              simp only [List.length_nil] at h1
              omega
            refine ⟨_, kk, b, rfl, hb, k3, hsz, by omega, ρ7, Z7, S6, aD5 ++ [d], rst', ⟨?_, k1, k2, ka5 ++ [kk], tkeys_snoc hka5 ekk, ?_⟩, pr5.trans p67.pre, ze5.trans p67.zm, hgo5, ?_⟩
            · exact (p5.trans p67).updF hD k1 k2 (fun q => by rw [k3]; intro z; cases z) (fun q z => by cases z)
            · rw [upd_same, put_kvT, addKs_snoc]
            · rw [hds5, hrst, ho]; simp
          · have hd5 : ys.drop j = [] := List.drop_eq_nil_of_le (by omega)
            rw [hd5] at hg5
            obtain ⟨hG5, hrst, hS5⟩ := lcGo_nil hg5
            subst hrst
            subst hS5
            have he : j = ys.length := by omega
            subst he
            exact .inl ⟨it4.stop pr5 ze5 p5.st hG5, by omega, ρ5, Z5, _, aD5, rest', ⟨p5, nD5, nZ5, ka5, hka5, hD5⟩, hgo', by rw [hds5, List.nil_append]⟩
        · have hd : xs.drop i = [] := List.drop_eq_nil_of_le (by omega)
          rw [hd] at hg
          obtain ⟨hG, hrest, hS⟩ := lcGo2_nil hg
          subst hrest
          subst hS
          rw [List.append_nil] at hds
          subst hds
          have he : i = xs.length := by omega
          subst he
          rw [hks] at hka
          cases hka
          refine .inl ⟨it.stop p.pre p.zm p.st hG, D, _, rfl, hDH, fun od => ?_⟩
          have p9 := p.updF hD nD nZ (fun q => by rw [hDH]; intro z; cases z) (o := .frz od (.dT (kvT (addKs [] ks)))) (fun q z => by cases z)
          exact h2 (.ref D) _ _ _ (p9.adoptZ hD nD nZ upd_same fun q z => by cases z) (.dfz upd_same)
    · exact h2.elim
  · exact h2.elim
/-! any over two clauses -/
inductive RunA (G : Store → Prop) (inn : D → Store → Bool → Store → List Bool → Prop) (Se : Store) (r : Bool) : List D → Store → List Bool → Prop
  | nil {S0 : Store} (hg : G S0) (e : S0 = Se) (b : r = false) : RunA G inn Se r [] S0 []
  | stop {x : D} {xs : List D} {S0 : Store} {ys : List Bool} (hg : G S0) (hs : inn x S0 true Se ys) (b : r = true) : RunA G inn Se r (x :: xs) S0 ys
  | next {x : D} {xs : List D} {S0 S2 : Store} {ys zs : List Bool} (hg : G S0) (hs : inn x S0 false S2 ys) (h : RunA G inn Se r xs S2 zs) : RunA G inn Se r (x :: xs) S0 (ys ++ zs)
def innR (ei2 : GE → Store → Res Itm) (ee : GE → Store → Res D) (t1 t2 : Tg) (g : GE) (x : D) (S0 : Store) (b : Bool) (S2 : Store) (ys : List Bool) : Prop :=
  ∃ g' q S1, setT S0 t1 x (wipG g (ownT t2)) = some g' ∧ ei2 g' S0 = .ok q S1 ∧ RunB q.2 (stepG (fun _ S => .ok true S) ee t2 g') true S2 b q.1 S1 ys
theorem anyGo2_run {ei2 : GE → Store → Res Itm} {ee : GE → Store → Res D} {t1 t2 : Tg} {g : GE} {G : Store → Prop} {Se : Store} {d : D} : ∀ {xs : List D} {S : Store},
    anyGo2 G (in2 ei2 t1 (ownT t2) g fun g' (q : Itm) S2 => allGo q.2 (stepG (fun _ S => .ok true S) ee t2 g') true q.1 S2) xs S = .ok d Se → ∃ r ys, d = .bl r ∧ RunA G (innR ei2 ee t1 t2 g) Se r xs S ys
  | [], S, h => by
    rw [anyGo2] at h
    split at h
    · cases h; exact ⟨_, _, rfl, .nil (by assumption) rfl rfl⟩
    · cases h
  | x :: xs, S, h => by
    rw [anyGo2] at h
    split at h
    · rename_i hG
      obtain ⟨d1, S1, e1, h⟩ := bind_ok h
      obtain ⟨g', q, Sb, h1, h2, h3⟩ := in2_ok e1
      obtain ⟨b, ys, rfl, run⟩ := allGo_run h3
      cases b with
      | true =>
        cases h
        exact ⟨true, ys, rfl, .stop hG ⟨g', q, Sb, h1, h2, run⟩ rfl⟩
      | false =>
        obtain ⟨r, zs, e2, q2⟩ := anyGo2_run (xs := xs) h
        exact ⟨r, _, e2, .next hG ⟨g', q, Sb, h1, h2, run⟩ q2⟩
    · cases h
theorem an2_reads {ei ei2 : GE → Store → Res Itm} {ee : GE → Store → Res D} {t1 t2 : Tg} {vs vs1 : List Nat} {Q : VK} {P : Addr} (hP : P ∈ tabs) (hv : ∀ i, i ∈ vs ↔ i ∈ ownT t1 ∨ i ∈ ownT t2) (hv1 : ∀ i, i ∈ vs1 ↔ i ∈ ownT t2)
    (h : tG tabs mg E RelD (fun g S => (ei g S).bind fun p S1 => (anyGo2 p.2 (in2 ei2 t1 (ownT t2) g fun g' q S2 => allGo q.2 (stepG (fun _ S => .ok true S) ee t2 g') true q.1 S2) p.1 S1).noexc) σ H Q) :
    tAnyG2 P (tG tabs mg E (ItR tabs) ei) (gT K t1) (tG tabs mg E0 RelB fun _ S => .ok true S) (tG tabs mg E0 (ItR tabs) ei2) (gT K t2) (tG tabs mg E0 RelB fun _ S => .ok true S) (tG tabs mg E0 RelD ee) vs vs1 σ H Q := by
  obtain ⟨ρ, Z, S, g, rs, sl, h⟩ := h
  refine tG_mono (sat_bind (R1 := ItR tabs) rs sl h) fun J H1 ⟨ρ1, Z1, S1, ⟨xs, G⟩, p1, it, h1⟩ => ?_
  have it : ItS tabs J xs G ρ1 Z1 := it
  generalize hst : (in2 ei2 t1 (ownT t2) g fun g' (q : Itm) S2 => allGo q.2 (stepG (fun _ S => .ok true S) ee t2 g') true q.1 S2) = step at h1
  have h1 : Sat tabs mg E RelD Q ρ1 Z1 H1 ((anyGo2 G step xs S1).noexc.bind fun a S => .ok a S) := by
    have h1 : Sat tabs mg E RelD Q ρ1 Z1 H1 (anyGo2 G step xs S1).noexc := h1
    cases e : (anyGo2 G step xs S1).noexc <;> (rw [e] at h1; exact h1)
  obtain ⟨d, Se, hgo, h2⟩ := noexc_ok h1
  rw [← hst] at hgo
  obtain ⟨r, ys, hd, run⟩ := anyGo2_run hgo
  subst hd
  refine ⟨p1.st.tab P hP, fun H2 tb => ⟨ys.map V.bl, fun i j m H' => m + i = xs.length ∧ ∃ ρ' Z' S' rest, Post tabs ρ1 Z1 H1 ρ' Z' S' H' ∧ ys.drop j = rest ∧ j ≤ ys.length ∧ RunA G (innR ei2 ee t1 t2 g) Se r (xs.drop i) S' rest, fun y hy => ?_, ⟨xs.length, rfl, ρ1, Z1, S1, ys, p1.st.tabbed (p1.st.tab P hP) tb, rfl, Nat.zero_le _, run⟩, ?_⟩⟩
  · obtain ⟨b, _, rfl⟩ := List.mem_map.mp hy; exact ⟨b, rfl⟩
  · intro i j m H' ⟨hm, ρ', Z', S', rest, p, hys, hj, rn⟩
    have hdrop : ∀ {j : Nat} {y : Bool} {ys' : List Bool}, ys.drop j = y :: ys' → (ys.map V.bl)[j]? = some (.bl y) ∧ ys.drop (j + 1) = ys' ∧ j + 1 ≤ ys.length := fun {j y ys'} e => by
      have hl : j < ys.length := by
        by_cases hl : j < ys.length
        · exact hl
        · rw [List.drop_eq_nil_of_le (by omega)] at e; cases e
      rw [List.drop_eq_getElem_cons hl] at e
      cases e
      exact ⟨by rw [List.getElem?_map, List.getElem?_eq_getElem hl]; rfl, rfl, hl⟩
    by_cases hi : i < xs.length
    · obtain ⟨x, hx, hd⟩ := drop_at hi
      rw [hd] at rn
      obtain ⟨hG, b0, S0, zs, tl, hin, hrest, hC⟩ : G S' ∧ ∃ b0 S0 zs tl, innR ei2 ee t1 t2 g x S' b0 S0 zs ∧ rest = zs ++ tl ∧ ((b0 = true ∧ S0 = Se ∧ r = true ∧ tl = []) ∨ (b0 = false ∧ RunA G (innR ei2 ee t1 t2 g) Se r (xs.drop (i + 1)) S0 tl)) := by
        cases rn with
        | stop hG hs hb => exact ⟨hG, _, _, _, [], hs, (List.append_nil _).symm, .inl ⟨rfl, rfl, hb, rfl⟩⟩
        | next hG hs hr => exact ⟨hG, _, _, _, _, hs, rfl, .inr ⟨rfl, hr⟩⟩
      subst hrest
      obtain ⟨g', ⟨ws, G1⟩, Sb, hgg, hei, rb⟩ := hin
      have rb : RunB G1 (stepG (fun _ S => .ok true S) ee t2 g') true S0 b0 ws Sb zs := rb
      obtain ⟨hgo1, hyl⟩ := it.go p.pre p.zm p.st hG hx
      refine .inr ⟨hgo1, fun j' H3 => (m - 1) + (i + 1) = xs.length ∧ ∃ ρ' Z' S' rest, Post tabs ρ1 Z1 H1 ρ' Z' S' H3 ∧ ys.drop j' = rest ∧ j' ≤ ys.length ∧ RunA G (innR ei2 ee t1 t2 g) Se r (xs.drop (i + 1)) S' rest, fun j' H3 w => ⟨m - 1, by omega, w⟩, fun v H2 hy => ?_⟩
      obtain ⟨Z2, p2, rv⟩ := hyl v H2 hy
      refine turn_o (fun i hi => (hv i).mp hi) (fun i hi => (hv i).mpr (.inl hi)) p2.st ((((sl.post p1).post p)).post p2) rv hgg fun σ2 ρ3 Z3 H3 p3 sl3 => ?_
      refine tG_run (R1 := ItR tabs) p3.st sl3 hei fun J1 ρ4 Z4 H4 p4 it4 => ?_
      have it4 : ItS tabs J1 ws G1 ρ4 Z4 := it4
      have sl4 := sl3.post p4
      refine ⟨fun k j1 m1 H' => m1 + k = ws.length ∧ ∃ ρ' Z' S' rst, Post tabs ρ1 Z1 H1 ρ' Z' S' H' ∧ Pre ρ4 ρ' ∧ Le Z4 Z' ∧ ys.drop j1 = rst ++ tl ∧ j1 ≤ ys.length ∧ RunB G1 (stepG (fun _ S => .ok true S) ee t2 g') true S0 b0 (ws.drop k) S' rst,
        ⟨ws.length, rfl, ρ4, Z4, Sb, zs, (p.trans (p2.trans p3)).trans p4, Pre.refl _, Le.refl _, hys, hj, rb⟩, ?_⟩
      intro k j1 m1 H5 ⟨hm1, ρ5, Z5, S5, rst, p5, pr5, ze5, hys5, hj5, rn5⟩
      by_cases hk : k < ws.length
      · obtain ⟨y, hy5, hd5⟩ := drop_at hk
        rw [hd5] at rn5
        have go : ∀ {o : Option D} {Sa : Store}, G1 S5 → stepG (fun _ S => .ok true S) ee t2 g' y S5 = .ok o Sa →
            (o = none → ∀ ρ7 Z7 H7, Post tabs ρ5 Z5 H5 ρ7 Z7 Sa H7 → (m1 - 1) + (k + 1) = ws.length ∧ ∃ ρ' Z' S' rst, Post tabs ρ1 Z1 H1 ρ' Z' S' H7 ∧ Pre ρ4 ρ' ∧ Le Z4 Z' ∧ ys.drop j1 = rst ++ tl ∧ j1 ≤ ys.length ∧ RunB G1 (stepG (fun _ S => .ok true S) ee t2 g') true S0 b0 (ws.drop (k + 1)) S' rst) →
            (∀ dd, o = some dd → ∀ ρ7 Z7 H7 y7, Post tabs ρ5 Z5 H5 ρ7 Z7 Sa H7 → RelD Z7 ρ7 dd y7 → (ys.map V.bl)[j1]? = some y7 ∧ (y7 = .bl true → Q (.bl true) H7) ∧ (¬ y7 = .bl true → (m1 - 1) + (k + 1) = ws.length ∧ ∃ ρ' Z' S' rst, Post tabs ρ1 Z1 H1 ρ' Z' S' H7 ∧ Pre ρ4 ρ' ∧ Le Z4 Z' ∧ ys.drop (j1 + 1) = rst ++ tl ∧ j1 + 1 ≤ ys.length ∧ RunB G1 (stepG (fun _ S => .ok true S) ee t2 g') true S0 b0 (ws.drop (k + 1)) S' rst)) →
            J1.go k H5 ∧ ∃ Nx1 : Nat → Hp → Prop, (∀ j' H', Nx1 j' H' → ∃ m', m' < m1 ∧ m' + (k + 1) = ws.length ∧ ∃ ρ' Z' S' rst, Post tabs ρ1 Z1 H1 ρ' Z' S' H' ∧ Pre ρ4 ρ' ∧ Le Z4 Z' ∧ ys.drop j' = rst ++ tl ∧ j' ≤ ys.length ∧ RunB G1 (stepG (fun _ S => .ok true S) ee t2 g') true S0 b0 (ws.drop (k + 1)) S' rst) ∧
              ∀ x H'', J1.yld k H5 x H'' → gT K t2 x (wipe σ2 vs1) H'' fun σ3 H2 => wipe σ3 vs1 = wipe σ2 vs1 ∧ tG tabs mg E0 RelB (fun _ S => .ok true S) σ3 H2 fun b H3 =>
                if b = true then tG tabs mg E0 RelD ee σ3 H3 fun y H4 => (ys.map V.bl)[j1]? = some y ∧ (y = .bl true → Q (.bl true) H4) ∧ (¬ y = .bl true → Nx1 (j1 + 1) H4) else Nx1 j1 H3 := fun {o Sa} hG1 hst5 kN kY => by
          obtain ⟨hgo6, hyl6⟩ := it4.go pr5 ze5 p5.st hG1 hy5
          refine ⟨hgo6, fun j' H3 => (m1 - 1) + (k + 1) = ws.length ∧ ∃ ρ' Z' S' rst, Post tabs ρ1 Z1 H1 ρ' Z' S' H3 ∧ Pre ρ4 ρ' ∧ Le Z4 Z' ∧ ys.drop j' = rst ++ tl ∧ j' ≤ ys.length ∧ RunB G1 (stepG (fun _ S => .ok true S) ee t2 g') true S0 b0 (ws.drop (k + 1)) S' rst, fun j' H3 w => ⟨m1 - 1, by omega, w⟩, fun v6 H6 hy6 => ?_⟩
          obtain ⟨Z6, p6, rv6⟩ := hyl6 v6 H6 hy6
          exact turn_el hv1 p6.st ((sl4.mono ze5 pr5).post p6) rv6 hst5 (fun ho ρ7 Z7 H7 p7 => kN ho ρ7 Z7 H7 (p6.trans p7)) (fun d ho ρ7 Z7 H7 y7 p7 ry7 => kY d ho ρ7 Z7 H7 y7 (p6.trans p7) ry7)
        cases rn5 with
        | skip hG1 hst5 hr5 =>
          exact .inr (go hG1 hst5 (fun _ ρ7 Z7 H7 p7 => ⟨by omega, ρ7, Z7, _, _, p5.trans p7, pr5.trans p7.pre, ze5.trans p7.zm, hys5, hj5, hr5⟩) (fun dd ho => by cases ho))
        | stop hG1 hst5 hb =>
          refine .inr (go hG1 hst5 (fun ho => by cases ho) (fun dd ho ρ7 Z7 H7 y7 p7 ry7 => ?_))
          cases ho
          rw [rel_bl ry7]
          obtain ⟨q1, q2, q3⟩ := hdrop hys5
          rcases hC with ⟨_, e1, e2, e3⟩ | ⟨e1, _⟩
          · refine ⟨q1, fun _ => ?_, fun n => absurd rfl n⟩
            subst e1 e2
            exact h2 _ ρ7 Z7 H7 (p5.trans p7) (.bl _)
          · rw [hb] at e1; cases e1
        | next hG1 hst5 hr5 =>
          refine .inr (go hG1 hst5 (fun ho => by cases ho) (fun dd ho ρ7 Z7 H7 y7 p7 ry7 => ?_))
          cases ho
          rw [rel_bl ry7]
          obtain ⟨q1, q2, q3⟩ := hdrop hys5
          exact ⟨q1, (fun e => by cases e), fun _ => ⟨by omega, ρ7, Z7, _, _, p5.trans p7, pr5.trans p7.pre, ze5.trans p7.zm, q2, q3, hr5⟩⟩
      · have hd5 : ws.drop k = [] := List.drop_eq_nil_of_le (by omega)
        rw [hd5] at rn5
        have he : k = ws.length := by omega
        subst he
        cases rn5 with
        | nil hG1 e hb =>
          subst e
          rcases hC with ⟨e1, _, _, _⟩ | ⟨e1, hr⟩
          · rw [hb] at e1; cases e1
          · exact .inl ⟨it4.stop pr5 ze5 p5.st hG1, ⟨by omega, ρ5, Z5, _, tl, p5, hys5, hj5, hr⟩, by rw [List.length_map]; exact hj5⟩
    · have hd : xs.drop i = [] := List.drop_eq_nil_of_le (by omega)
      rw [hd] at rn
      have he : i = xs.length := by omega
      subst he
      cases rn with
      | nil hG e hb =>
        refine .inl ⟨it.stop p.pre p.zm p.st hG, ?_, ?_⟩
        · rw [List.length_map]
          have := congrArg List.length hys
          rw [List.length_drop, List.length_nil] at this
          omega
        · subst e; subst hb; exact h2 _ ρ' Z' H' p (.bl _)
end
end Li
end

section
set_option Elab.async false
set_option linter.all false
set_option maxRecDepth 100000
set_option maxHeartbeats 4000000
namespace Li
open PySem PySem.Spec PyProof.Rows L2 GxR GX
open Classical
section
variable {tabs : List Addr} {F : Fn} {lv : Nat} {c : SC} {E : XK} {X : Cx} {pos : Pos} {e ea eb ec tg : Expr} {xs : List Expr}
/-- no star, no slice, no set -/
def okx : Expr → Bool
  | .Starred _ _ => false
  | .Slice _ _ _ _ => false
  | .Set _ _ _ => false
  | _ => true
theorem chkE_ok {ce : CE} (h : chkE c ce e = true) : okx e = true := by
  cases e <;> first | rfl | (cases ce <;> simp [chkE, okF] at h)
theorem okx_nst (h : okx e = true) : nst e = true := by cases e <;> first | rfl | cases h
theorem okx_ix (h : okx e = true) : PlainIx e := by
  intro o i
  cases e <;> first | rfl | cases h
theorem okx_fold (h : okx e = true) (env : Env) (x : Value) : foldedSetIterable e env x = pure x := by cases e <;> first | rfl | cases h
theorem okx_gfold (h : okx e = true) (hl : nlE e = true) (env : Env) (x : Value) : genFold e env x = pure x := by cases e <;> first | rfl | (cases h; done) | (cases hl; done)
theorem chkEs_all : ∀ {es : CEs} {xs : List Expr}, chkEs c es xs = true → xs.all okx = true
  | .nil, [], _ => rfl
  | .cons a es, x :: xs, h => by
    simp only [chkEs, Bool.and_eq_true] at h
    rw [List.all_cons, chkE_ok h.1, chkEs_all h.2]; rfl
  | .nil, _ :: _, h => by simp [chkEs] at h
  | .cons _ _, [], h => by simp [chkEs] at h
theorem all_nst : ∀ {xs : List Expr}, xs.all okx = true → xs.all nst = true
  | [], _ => rfl
  | x :: xs, h => by
    rw [List.all_cons, Bool.and_eq_true] at h
    rw [List.all_cons, okx_nst h.1, all_nst h.2]; rfl
theorem chkI_ok {it : CI} (h : chkI c it e = true) : okx e = true := by
  cases e <;> first | rfl | (cases it <;> simp [chkI] at h <;> exact absurd (chkE_ok h) (by simp [okx]))
def plainE : Expr → Bool
  | .UnaryOp .Not _ _ => false
  | .BoolOp _ _ _ => false
  | .IfExp _ _ _ _ => false
  | .Compare _ _ _ _ => false
  | _ => true
theorem plainE_true (h : plainE e = true) (env : Env) (whole : Sem Value) : isTrue e env whole = (do let v ← whole; standAt e.pos; holding [v] (truthy v)) := by
  cases e
  case UnaryOp op _ _ => cases op <;> first | rfl | cases h
  all_goals first | rfl | cases h
/-! ### contexts of blocks and generator frames -/
theorem passes_no {CX : CXT} : Passes (L2.CX X.prog X.w) X E0 := by
  intro pins σ H s e s' I hc
  obtain ⟨_, _, _, _, _, _, _, _, _, _, _, _, hE⟩ := hc
  exact hE.elim
theorem Good.blk (G : Good tabs F lv c E X) {scope : Scope} (hk : scope.kind = .function) (s : Shared) (H : Hp) (C : Addr) (cl : List (Str × Addr)) (fp : List Addr) : Good tabs F lv (scBlk c scope) E0 (X.blk s H scope (compEnvC scope cl C X.env) fp) where
  N := G.N
  nd := G.nd
  kind := hk
  names := by
    show (scope.names.map _) = relN c.sn scope.names
    unfold relN
    refine List.map_congr_left fun y _ => ?_
    rw [G.kind, ← G.names]
    show (if (y.2 == NameKind.free && (ScopeKind.function == ScopeKind.function) && X.env.scope.names.lookup y.1 == some .cell) = true then (y.1, NameKind.cell) else (y.1, y.2)) = _
    rw [show (ScopeKind.function == ScopeKind.function) = true from rfl, Bool.and_true]
  co := fun x h => h
  calm := G.calm
  room := G.room
  roomG := G.roomG
  bi := G.bi
  gi := G.gi
  fns := G.fns
  pass := passes_no (CX := L2.CX X.prog X.w)
  tab := G.tab
theorem Good.gen (G : Good tabs F lv c E X) {scope : Scope} (hk : scope.kind = .function) (A : Around) (hr : Room lv A) (s : Shared) (H : Hp) (C : Addr) (code : Value) (fp : List Addr) (pn : List (Addr × Obj)) :
    Good tabs F lv (scGen c scope) E0 (gcx X A s H (genEnv scope (cloFrom X.env.cells scope.names []) C code builtinsNs X.env) fp pn) where
  N := G.N
  nd := G.nd
  kind := hk
  names := rfl
  co := fun x h => by cases h
  calm := rfl
  room := hr
  roomG := fun h => by cases h
  bi := G.bi
  gi := G.gi
  fns := G.fns
  pass := passes_no (CX := L2.CX X.prog X.w)
  tab := fun h => by cases h
theorem blk_ok (G : Good tabs F lv c E X) {scope : Scope} {own : List (Str × Nat)} (h : blkC c.N { scope with names := c.sn } scope own = true) : BlkOk X.N X.env.scope scope own := by
  have q := blkOk_by h
  exact ⟨q.kind, q.uniq, by rw [G.N]; exact q.ix, fun y hy e => by rw [G.names]; exact q.free y hy e, by rw [G.N]; exact q.own⟩
theorem g_ok (G : Good tabs F lv c E X) {scope : Scope} {own : List (Str × Nat)} (h : blkC c.N { scope with names := c.sn } scope own = true) (h2 : gokC c scope own = true) : GOk X.N X.env.scope scope own := by
  unfold gokC at h2
  simp only [Bool.and_eq_true, Bool.not_eq_true'] at h2
  refine ⟨blk_ok G h, h2.1.1, fun y hy e => ?_, ?_⟩
  · have := List.all_eq_true.mp h2.1.2 y hy
    rw [e] at this; cases this
  · have := h2.2
    split at this
    · assumption
    · cases this
theorem own_all {t : Tg} (h : (ownN c t).length = (ownT t).length) : (ownN c t).map (·.2) = ownT t := by
  unfold ownN at h ⊢
  generalize ownT t = is at h ⊢
  have key : ∀ is : List Nat, (is.filterMap fun i => (c.N[i]?).map fun x => (x, i)).length = is.length → (is.filterMap fun i => (c.N[i]?).map fun x => (x, i)).map (·.2) = is := by
    intro is
    induction is with
    | nil => intro _; rfl
    | cons i is ih =>
      intro h
      rw [List.filterMap_cons] at h ⊢
      cases e : c.N[i]? with
      | none =>
        rw [e] at h
        have := List.length_filterMap_le (fun i => (c.N[i]?).map fun x => (x, i)) is
        simp only [Option.map_none, List.length_cons] at h
        omega
      | some y =>
        rw [e] at h
        simp only [Option.map_some, List.length_cons, Nat.add_right_cancel_iff] at h
        simp only [Option.map_some, List.map_cons, ih h]
  exact key is h
/-! ### targets -/
theorem gNs_pg (G : Good tabs F lv c E X) : ∀ {is : List Nat} {es : List Expr}, chkTs c is es = true → PGs X es (gNs is) ∧ (assignEach es X.env).length = is.length ∧ (assignEach es X.env).findIdx? (·.1) = none
  | [], [], _ => ⟨pgs_nil, rfl, rfl⟩
  | i :: is, .Name x p :: es, h => by
    simp only [chkTs, Bool.and_eq_true] at h
    obtain ⟨h1, h2, h3⟩ := gNs_pg G h.2
    obtain ⟨l1, l2⟩ := G.store h.1.2
    have hp : PG X (.Name x p) (gName i) := pg_name G.nd (by rw [G.N]; exact at_eq h.1.1) l1 l2
    refine ⟨pgs_cons hp h1 rfl, ?_, ?_⟩
    · show (assignEach es X.env).length + 1 = is.length + 1
      rw [h2]
    · show List.findIdx? (·.1) ((false, assign (.Name x p) X.env) :: assignEach es X.env) = none
      rw [List.findIdx?_cons, if_neg Bool.false_ne_true, h3]; rfl
  | [], _ :: _, h => by simp [chkTs] at h
  | _ :: _, [], h => by simp [chkTs] at h
  | i :: is, e :: es, h => by
    cases e <;> first
      | (simp [chkTs] at h; done)
      | (rename_i x p
         simp only [chkTs, Bool.and_eq_true] at h
         obtain ⟨h1, h2, h3⟩ := gNs_pg G h.2
         obtain ⟨l1, l2⟩ := G.store h.1.2
         have hp : PG X (.Name x p) (gName i) := pg_name G.nd (by rw [G.N]; exact at_eq h.1.1) l1 l2
         refine ⟨pgs_cons hp h1 rfl, ?_, ?_⟩
         · show (assignEach es X.env).length + 1 = is.length + 1
           rw [h2]
         · show List.findIdx? (·.1) ((false, assign (.Name x p) X.env) :: assignEach es X.env) = none
           rw [List.findIdx?_cons, if_neg Bool.false_ne_true, h3]; rfl)
theorem pg_T (G : Good tabs F lv c E X) {t : Tg} (h : chkT c t tg = true) : PG X tg (gT X.K t) := by
  unfold chkT at h
  split at h
  · simp only [Bool.and_eq_true] at h
    obtain ⟨l1, l2⟩ := G.store h.2
    exact pg_name G.nd (by rw [G.N]; exact at_eq h.1) l1 l2
  · obtain ⟨h1, h2, h3⟩ := gNs_pg G h
    exact ⟨fun pins s σ H v u Q I r hw => hw.elim ((pg_tup G.calm h1 h2 h3).run pins s σ H v u Q I r) ((pg_unl G.calm h1 h2 h3).run pins s σ H v u Q I r)⟩
  · cases h
end
end Li
end

section
set_option Elab.async false
set_option linter.all false
set_option maxRecDepth 100000
set_option maxHeartbeats 4000000
namespace Li
open PySem PySem.Spec PyProof.Rows L2 GxR GX
open Classical
theorem ts_tt {tabs : List Addr} {X : Cx} : PTs X [] (tG tabs X.mg E0 RelB fun _ S => .ok true S) := PTs.imp pts_nil fun σ H Q ⟨ρ, Z, S, g, rs, sl, h⟩ => sat_ok rs h rfl
def PEok (tabs : List Addr) (F : Fn) (ce : CE) : Prop := ∀ (lv : Nat) (c : SC) (E : XK) (X : Cx) (e : Expr), Good tabs F lv c E X → chkE c ce e = true → PE X e (Te tabs X E F ce) ∧ (tstE ce = true → PT X e (Tt tabs X E F ce))
def PAok (tabs : List Addr) (F : Fn) (es : CEs) : Prop := ∀ (lv : Nat) (c : SC) (E : XK) (X : Cx) (xs : List Expr), Good tabs F lv c E X → chkEs c es xs = true → PA X xs (Ta tabs X E F es) ∧ (xs ≠ [] → ∀ pos : Pos,
  PE X (.BoolOp .And xs pos) (tG tabs X.mg E RelD (evAnd F es)) ∧ PE X (.BoolOp .Or xs pos) (tG tabs X.mg E RelD (evOr F es)) ∧
  (tstEs es = true → PW X (.BoolOp .And xs pos) (tG tabs X.mg E RelB (evTA F es)) ∧ PW X (.BoolOp .Or xs pos) (tG tabs X.mg E RelB (evTO F es))))
def POok (tabs : List Addr) (F : Fn) (o : CO) : Prop := ∀ (lv : Nat) (c : SC) (E : XK) (X : Cx), Good tabs F lv c E X → (∀ x : Option Expr, chkO c o x = true → PO X x (tG tabs X.mg E RelO (evO F o))) ∧ (∀ xs : List Expr, chkC c o xs = true → PTs X xs (tG tabs X.mg E RelB (evC F o)))
def PIok (tabs : List Addr) (F : Fn) (it : CI) : Prop := ∀ (lv : Nat) (c c' : SC) (E : XK) (X : Cx) (e tg : Expr) (t : Tg), Good tabs F lv c E X → chkI c it e = true → itT it t = true → chkT c' t tg = true → PI X tg e (Ti tabs X E F it)
section
variable {tabs : List Addr} {F : Fn}
/-- a test by the value's truth -/
def vE : CE → Bool
  | .and_ _ => false
  | .or_ _ => false
  | .not_ _ => false
  | _ => true
theorem evT_val {ce : CE} (h : vE ce = true) (g : GE) (S : Store) : evT F ce g S = (ev F ce g S).bind fun d S1 => match truD S1 d with | some b => .ok b S1 | none => .stuck := by
  cases ce <;> first
    | (cases h; done)
    | (simp only [evT]; done)
    | (simp only [evT]; rfl)
theorem val_ok {X : Cx} {E : XK} {e : Expr} {ce : CE} (h : PE X e (Te tabs X E F ce)) (hp : plainE e = true) (hk : vE ce = true) :
    PE X e (Te tabs X E F ce) ∧ (tstE ce = true → PT X e (Tt tabs X E F ce)) := ⟨h, fun _ => t_val h (evT_val hk) (plainE_true hp _)⟩
theorem e_var (i : Nat) : PEok tabs F (.var i) := by
  intro lv c E X e G h
  unfold chkE at h
  split at h
  all_goals try (cases h; done)
  all_goals try contradiction
  rename_i heq
  cases heq
  simp only [Bool.and_eq_true, Bool.not_eq_true', dbg, cdi] at h
  exact val_ok (c_var G (by rw [G.N]; exact at_eq h.1.1.1) (G.vis h.1.1.2) h.1.2 h.2) rfl rfl
theorem e_cst (d : D) : PEok tabs F (.cst d) := by
  intro lv c E X e G h
  unfold chkE at h
  split at h
  all_goals try (cases h; done)
  all_goals try contradiction
  all_goals
    rename_i heq
    cases heq
  · cases (eq_of_beq h); exact val_ok c_int rfl rfl
  · cases (eq_of_beq h); exact val_ok c_bl rfl rfl
  · exact val_ok c_non rfl rfl
  · cases (eq_of_beq h); exact val_ok c_str rfl rfl
  · simp only [Bool.and_eq_true, Bool.not_eq_true', decide_eq_true_eq] at h
    exact val_ok (c_dct h.1.1.1 h.1.1.2 h.1.2 h.2) rfl rfl
theorem e_gint (x : Str) (n : Int) : PEok tabs F (.gint x n) := by
  intro lv c E X e G h
  unfold chkE at h
  split at h
  all_goals try (cases h; done)
  all_goals try contradiction
  rename_i heq
  cases heq
  simp only [Bool.and_eq_true, Bool.not_eq_true', dbg] at h
  cases eq_of_beq h.1.1.1
  exact val_ok (c_gint G (G.gl h.1.1.2) h.1.2 (eq_of_beq h.2)) rfl rfl
theorem e_bin (op : BOp) {a b : CE} (ha : PEok tabs F a) (hb : PEok tabs F b) : PEok tabs F (.bin op a b) := by
  intro lv c E X e G h
  unfold chkE at h
  split at h
  all_goals try (cases h; done)
  all_goals try contradiction
  rename_i heq
  cases heq
  simp only [Bool.and_eq_true] at h
  rw [opE_eq h.1.1]
  exact val_ok (c_bin op (ha _ _ _ _ _ G h.1.2).1 (hb _ _ _ _ _ G h.2).1) rfl rfl
theorem e_cmp (op : COp) {a b : CE} (ha : PEok tabs F a) (hb : PEok tabs F b) : PEok tabs F (.cmp op a b) := by
  intro lv c E X e G h
  unfold chkE at h
  split at h
  all_goals try (cases h; done)
  all_goals try contradiction
  rename_i heq
  cases heq
  simp only [Bool.and_eq_true, Bool.not_eq_true'] at h
  have h4 := h.2
  rw [cmE_eq h.1.1.1] at h4 ⊢
  exact ⟨c_cmp G op (ha _ _ _ _ _ G h.1.1.2).1 (hb _ _ _ _ _ G h.1.2).1 h4, fun _ => t_cmp G op (ha _ _ _ _ _ G h.1.1.2).1 (hb _ _ _ _ _ G h.1.2).1 h4⟩
theorem e_cmp2 (o1 o2 : COp) {a b d : CE} (ha : PEok tabs F a) (hb : PEok tabs F b) (hd : PEok tabs F d) : PEok tabs F (.cmp2 o1 o2 a b d) := by
  intro lv c E X e G h
  unfold chkE at h
  split at h
  all_goals try (cases h; done)
  all_goals try contradiction
  rename_i heq
  cases heq
  simp only [Bool.and_eq_true, Bool.not_eq_true'] at h
  have h4 := h.2
  rw [cmE_eq h.1.1.1.1.1, cmE_eq h.1.1.1.1.2] at h4 ⊢
  have q1 := (ha _ _ _ _ _ G h.1.1.1.2).1
  have q2 := (hb _ _ _ _ _ G h.1.1.2).1
  have q3 := (hd _ _ _ _ _ G h.1.2).1
  exact ⟨c_cmp2 G o1 o2 q1 q2 q3 h4, fun _ => t_cmp2 G o1 o2 q1 q2 q3 h4⟩
theorem e_and {es : CEs} (he : PAok tabs F es) : PEok tabs F (.and_ es) := by
  intro lv c E X e G h
  unfold chkE at h
  split at h
  all_goals try (cases h; done)
  all_goals try contradiction
  rename_i heq
  cases heq
  simp only [Bool.and_eq_true, Bool.not_eq_true'] at h
  obtain ⟨q1, q2, q3⟩ := (he _ _ _ _ _ G h.1).2 (fun z => by rw [z] at h; cases h.2) _
  exact ⟨PE.imp q1 fun σ H Q ⟨ρ, Z, S, g, rs, sl, h⟩ => ⟨ρ, Z, S, g, rs, sl, by simp only [ev] at h; exact h⟩, fun ht => PT.imp (q3 (by simpa [tstE] using ht)).1.pt fun σ H Q ⟨ρ, Z, S, g, rs, sl, h⟩ => ⟨ρ, Z, S, g, rs, sl, by simp only [evT] at h; exact h⟩⟩
theorem e_or {es : CEs} (he : PAok tabs F es) : PEok tabs F (.or_ es) := by
  intro lv c E X e G h
  unfold chkE at h
  split at h
  all_goals try (cases h; done)
  all_goals try contradiction
  rename_i heq
  cases heq
  simp only [Bool.and_eq_true, Bool.not_eq_true'] at h
  obtain ⟨q1, q2, q3⟩ := (he _ _ _ _ _ G h.1).2 (fun z => by rw [z] at h; cases h.2) _
  exact ⟨PE.imp q2 fun σ H Q ⟨ρ, Z, S, g, rs, sl, h⟩ => ⟨ρ, Z, S, g, rs, sl, by simp only [ev] at h; exact h⟩, fun ht => PT.imp (q3 (by simpa [tstE] using ht)).2.pt fun σ H Q ⟨ρ, Z, S, g, rs, sl, h⟩ => ⟨ρ, Z, S, g, rs, sl, by simp only [evT] at h; exact h⟩⟩
theorem e_not {a : CE} (ha : PEok tabs F a) : PEok tabs F (.not_ a) := by
  intro lv c E X e G h
  unfold chkE at h
  split at h
  all_goals try (cases h; done)
  all_goals try contradiction
  rename_i heq
  cases heq
  have q := ha _ _ _ _ _ G h
  exact ⟨c_not q.1, fun ht => t_not (q.2 (by simpa [tstE] using ht))⟩
theorem e_neg {a : CE} (ha : PEok tabs F a) : PEok tabs F (.neg a) := by
  intro lv c E X e G h
  unfold chkE at h
  split at h
  all_goals try (cases h; done)
  all_goals try contradiction
  rename_i heq
  cases heq
  exact val_ok (c_neg (ha _ _ _ _ _ G h).1) rfl rfl
theorem e_ite {t a b : CE} (ht : PEok tabs F t) (ha : PEok tabs F a) (hb : PEok tabs F b) : PEok tabs F (.ite t a b) := by
  intro lv c E X e G h
  unfold chkE at h
  split at h
  all_goals try (cases h; done)
  all_goals try contradiction
  rename_i heq
  cases heq
  simp only [Bool.and_eq_true] at h
  exact ⟨c_ite ((ht _ _ _ _ _ G h.1.1.2).2 h.1.1.1) (ha _ _ _ _ _ G h.1.2).1 (hb _ _ _ _ _ G h.2).1, fun z => by cases z⟩
theorem e_tup {es : CEs} (he : PAok tabs F es) : PEok tabs F (.tup es) := by
  intro lv c E X e G h
  unfold chkE at h
  split at h
  all_goals try (cases h; done)
  all_goals try contradiction
  rename_i heq
  cases heq
  exact val_ok (c_tup (he _ _ _ _ _ G h).1) rfl rfl
theorem e_lst {es : CEs} (he : PAok tabs F es) : PEok tabs F (.lst es) := by
  intro lv c E X e G h
  unfold chkE at h
  split at h
  all_goals try (cases h; done)
  all_goals try contradiction
  rename_i heq
  cases heq
  exact val_ok (c_lst (he _ _ _ _ _ G h).1) rfl rfl
theorem e_idx {a b : CE} (ha : PEok tabs F a) (hb : PEok tabs F b) : PEok tabs F (.idx a b) := by
  intro lv c E X e G h
  unfold chkE at h
  split at h
  all_goals try (cases h; done)
  all_goals try contradiction
  rename_i heq
  cases heq
  simp only [Bool.and_eq_true] at h
  exact val_ok (c_idx (ha _ _ _ _ _ G h.1).1 (hb _ _ _ _ _ G h.2).1 (okx_ix (chkE_ok h.2))) rfl rfl
theorem e_sl {a : CE} {lo hi : CO} (ha : PEok tabs F a) (hl : POok tabs F lo) (hh : POok tabs F hi) : PEok tabs F (.sl a lo hi) := by
  intro lv c E X e G h
  unfold chkE at h
  split at h
  all_goals try (cases h; done)
  all_goals try contradiction
  rename_i heq
  cases heq
  simp only [Bool.and_eq_true] at h
  exact val_ok (c_sl (ha _ _ _ _ _ G h.1.1).1 ((hl _ _ _ _ G).1 _ h.1.2) ((hh _ _ _ _ G).1 _ h.2)) rfl rfl
theorem e_rev {a : CE} (ha : PEok tabs F a) : PEok tabs F (.rev a) := by
  intro lv c E X e G h
  unfold chkE at h
  split at h
  all_goals try (cases h; done)
  all_goals try contradiction
  rename_i heq
  cases heq
  exact val_ok (c_rev (ha _ _ _ _ _ G h).1) rfl rfl
theorem e_callR {f : Nat} {es : CEs} (he : PAok tabs F es) : PEok tabs F (.callR f es) := by
  intro lv c E X e G h
  unfold chkE at h
  split at h
  all_goals try (cases h; done)
  all_goals try contradiction
  rename_i heq
  cases heq
  simp only [Bool.and_eq_true, Bool.not_eq_true', dbg] at h
  have hall := all_nst (chkEs_all h.2)
  rw [List.all_cons, Bool.and_eq_true] at hall
  exact val_ok (c_call G (eq_of_beq h.1.1.1) (G.gl h.1.1.2) h.1.2 (he _ _ _ _ _ G h.2).1 (star_nst hall.1 _ _) (star_any hall.2 _ _)) rfl rfl
theorem e_call {f : Nat} {es : CEs} (he : PAok tabs F es) : PEok tabs F (.call f es) := by
  intro lv c E X e G h
  unfold chkE at h
  split at h
  all_goals try (cases h; done)
  all_goals try contradiction
  rename_i heq
  cases heq
  simp only [Bool.and_eq_true, Bool.not_eq_true', dbg] at h
  have hall := all_nst (chkEs_all h.2)
  rw [List.all_cons, Bool.and_eq_true] at hall
  exact val_ok (c_callZ G (eq_of_beq h.1.1.1) (G.gl h.1.1.2) h.1.2 (he _ _ _ _ _ G h.2).1 (star_nst hall.1 _ _) (star_any hall.2 _ _)) rfl rfl
theorem e_bi {b : Bi} {es : CEs} (he : PAok tabs F es) : PEok tabs F (.bi b es) := by
  intro lv c E X e G h
  unfold chkE at h
  split at h
  all_goals try (cases h; done)
  all_goals try contradiction
  rename_i heq
  cases heq
  simp only [Bool.and_eq_true] at h
  have hall := all_nst (chkEs_all h.2)
  rw [List.all_cons, Bool.and_eq_true] at hall
  have hg := G.gl h.1.2
  rw [eq_of_beq h.1.1] at hg ⊢
  exact val_ok (c_bi G b hg (he _ _ _ _ _ G h.2).1 (star_nst hall.1 _ _) (star_any hall.2 _ _)) rfl rfl
theorem e_lrg {a b : CE} (ha : PEok tabs F a) (hb : PEok tabs F b) : PEok tabs F (.lrg a b) := by
  intro lv c E X e G h
  unfold chkE at h
  split at h
  all_goals try (cases h; done)
  all_goals try contradiction
  rename_i heq
  cases heq
  simp only [Bool.and_eq_true] at h
  obtain ⟨⟨⟨⟨⟨h1, h2⟩, h3⟩, h4⟩, h5⟩, h6⟩ := h
  have hg := G.gl h2
  have hg2 := G.gl h4
  rw [eq_of_beq h1] at hg ⊢
  rw [eq_of_beq h3] at hg2 ⊢
  exact val_ok (c_lrg G.calm hg2 (G.bi _ (by decide)) hg (G.bi _ (by decide)) (ha _ _ _ _ _ G h5).1 (hb _ _ _ _ _ G h6).1 (okx_nst (chkE_ok h5)) (okx_nst (chkE_ok h6))) rfl rfl
theorem e_isi {k : Kd} {a : CE} (ha : PEok tabs F a) : PEok tabs F (.isi k a) := by
  intro lv c E X e G h
  unfold chkE at h
  split at h
  all_goals try (cases h; done)
  all_goals try contradiction
  rename_i heq
  cases heq
  simp only [Bool.and_eq_true] at h
  have hg := G.gl h.1.1.1.2
  have hk := G.gl h.1.2
  rw [eq_of_beq h.1.1.1.1] at hg ⊢
  rw [eq_of_beq h.1.1.2] at hk ⊢
  exact val_ok (c_isi (x := "") (y := "") G k hg hk (ha _ _ _ _ _ G h.2).1 (okx_nst (chkE_ok h.2))) rfl rfl
theorem e_frz {a : CE} (ha : PEok tabs F a) : PEok tabs F (.frz a) := by
  intro lv c E X e G h
  have h : (okF e && nfz a && chkE c a e) = true := by unfold chkE at h; exact h
  simp only [Bool.and_eq_true] at h
  refine ⟨PE.imp (ha _ _ _ _ _ G h.2).1 fun σ H Q ⟨ρ, Z, S, g, rs, sl, h⟩ => ?_, fun z => by cases z⟩
  simp only [ev] at h
  exact ⟨ρ, Z, S, g, rs, sl, sat_frz rs h⟩
theorem e_mt {m : Mt} {o : CE} {es : CEs} (ho : PEok tabs F o) (he : PAok tabs F es) : PEok tabs F (.mt m o es) := by
  intro lv c E X e G h
  unfold chkE at h
  split at h
  all_goals try (cases h; done)
  all_goals try contradiction
  rename_i heq
  cases heq
  simp only [Bool.and_eq_true] at h
  have hr := h.1.1.1.2
  have hn := eq_of_beq h.1.1.1.1.1
  subst hn
  have hl := eq_of_beq h.1.1.1.1.2
  have q := (ho _ _ _ _ _ G h.1.1.2).1
  have ha := (he _ _ _ _ _ G h.1.2).1
  have hall := chkEs_all h.1.2
  have hc := h.1.2
  have hend := h.2
  clear h
  rename_i xs _
  cases m with
  | append =>
    match xs, hl with
    | [e1], _ =>
      rw [List.all_cons, Bool.and_eq_true] at hall
      exact val_ok (c_append hr q ha (okx_nst hall.1) hend) rfl rfl
  | insert =>
    match xs, hl with
    | [e1, e2], _ =>
      rw [List.all_cons, List.all_cons, Bool.and_eq_true, Bool.and_eq_true] at hall
      exact val_ok (c_insert hr q ha (okx_nst hall.1) (okx_nst hall.2.1) hend) rfl rfl
  | pop =>
    match xs, hl with
    | [], _ =>
      cases es with
      | nil => exact val_ok (c_pop hr q hend) rfl rfl
      | cons _ _ => simp [chkEs] at hc
theorem a_ok_nil : PAok tabs F .nil := by
  intro lv c E X xs G h
  cases xs with
  | nil => exact ⟨a_nil, fun z => absurd rfl z⟩
  | cons _ _ => simp [chkEs] at h
theorem a_ok_cons {a : CE} {es : CEs} (ha : PEok tabs F a) (he : PAok tabs F es) : PAok tabs F (.cons a es) := by
  intro lv c E X xs G h
  cases xs with
  | nil => simp [chkEs] at h
  | cons x xs =>
    simp only [chkEs, Bool.and_eq_true] at h
    have q := ha _ _ _ _ _ G h.1
    have r := he _ _ _ _ _ G h.2
    refine ⟨a_cons q.1 r.1 (okx_nst (chkE_ok h.1)), fun _ pos => ?_⟩
    cases es with
    | nil =>
      cases xs with
      | cons _ _ => exact absurd h.2 (by simp [chkEs])
      | nil =>
        refine ⟨and_one q.1, or_one q.1, fun ht => ?_⟩
        simp only [tstEs, Bool.and_eq_true] at ht
        exact ⟨wand_one (q.2 ht.1), wor_one (q.2 ht.1)⟩
    | cons b es =>
      cases xs with
      | nil => exact absurd h.2 (by simp [chkEs])
      | cons y ys =>
        obtain ⟨r1, r2, r3⟩ := r.2 (List.cons_ne_nil _ _) pos
        refine ⟨and_cons q.1 r1, or_cons q.1 r2, fun ht => ?_⟩
        have ht' : tstE a = true ∧ tstEs (.cons b es) = true := by
          have : (tstE a && tstEs (.cons b es)) = true := by simpa only [tstEs] using ht
          simpa only [Bool.and_eq_true] using this
        obtain ⟨r4, r5⟩ := r3 ht'.2
        exact ⟨wand_cons (q.2 ht'.1) r4, wor_cons (q.2 ht'.1) r5⟩
theorem o_ok_non : POok tabs F .non := by
  intro lv c E X G
  refine ⟨fun x h => ?_, fun xs h => ?_⟩
  · cases x with
    | none => exact o_non
    | some _ => simp [chkO] at h
  · cases xs with
    | nil => exact ts_non
    | cons _ _ => simp [chkC] at h
theorem o_ok_som {a : CE} (ha : PEok tabs F a) : POok tabs F (.som a) := by
  intro lv c E X G
  refine ⟨fun x h => ?_, fun xs h => ?_⟩
  · cases x with
    | none => simp [chkO] at h
    | some e => simp only [chkO] at h; exact o_som (ha _ _ _ _ _ G h).1
  · match xs with
    | [] => simp [chkC] at h
    | [e] =>
      simp only [chkC, Bool.and_eq_true] at h
      exact ts_som ((ha _ _ _ _ _ G h.2).2 h.1)
    | _ :: _ :: _ => simp [chkC] at h
theorem i_ok_seq {a : CE} (ha : PEok tabs F a) : PIok tabs F (.seq a) := by
  intro lv c c' E X e tg t G h _ _
  have h : chkE c a e = true := by
    unfold chkI at h
    exact h
  exact i_seq (ha _ _ _ _ _ G h).1
theorem i_ok_rng1 {a : CE} (ha : PEok tabs F a) : PIok tabs F (.rng1 a) := by
  intro lv c c' E X e tg t G h _ _
  unfold chkI at h
  split at h
  all_goals try (cases h; done)
  all_goals try contradiction
  rename_i heq
  cases heq
  simp only [Bool.and_eq_true] at h
  have hg := G.gl h.1.2
  rw [eq_of_beq h.1.1] at hg ⊢
  exact i_rng1 hg (G.bi _ (by decide)) (ha _ _ _ _ _ G h.2).1 (okx_nst (chkE_ok h.2))
theorem i_ok_rng2 {a b : CE} (ha : PEok tabs F a) (hb : PEok tabs F b) : PIok tabs F (.rng2 a b) := by
  intro lv c c' E X e tg t G h _ _
  unfold chkI at h
  split at h
  all_goals try (cases h; done)
  all_goals try contradiction
  rename_i heq
  cases heq
  simp only [Bool.and_eq_true] at h
  have hg := G.gl h.1.1.2
  rw [eq_of_beq h.1.1.1] at hg ⊢
  exact i_rng2 hg (G.bi _ (by decide)) (ha _ _ _ _ _ G h.1.2).1 (hb _ _ _ _ _ G h.2).1 (okx_nst (chkE_ok h.1.2)) (okx_nst (chkE_ok h.2))
theorem i_ok_rrg {a : CE} (ha : PEok tabs F a) : PIok tabs F (.rrg a) := by
  intro lv c c' E X e tg t G h _ _
  unfold chkI at h
  split at h
  all_goals try (cases h; done)
  all_goals try contradiction
  rename_i heq
  cases heq
  simp only [Bool.and_eq_true] at h
  obtain ⟨⟨⟨⟨h1, h2⟩, h3⟩, h4⟩, h5⟩ := h
  have hg := G.gl h2
  have hg2 := G.gl h4
  rw [eq_of_beq h1] at hg ⊢
  rw [eq_of_beq h3] at hg2 ⊢
  exact i_rrg hg2 (G.bi _ (by decide)) hg (G.bi _ (by decide)) (ha _ _ _ _ _ G h5).1 (okx_nst (chkE_ok h5))
theorem i_ok_rrg2 {a b : CE} (ha : PEok tabs F a) (hb : PEok tabs F b) : PIok tabs F (.rrg2 a b) := by
  intro lv c c' E X e tg t G h _ _
  unfold chkI at h
  split at h
  all_goals try (cases h; done)
  all_goals try contradiction
  rename_i heq
  cases heq
  simp only [Bool.and_eq_true] at h
  obtain ⟨⟨⟨⟨⟨h1, h2⟩, h3⟩, h4⟩, h5⟩, h6⟩ := h
  have hg := G.gl h2
  have hg2 := G.gl h4
  rw [eq_of_beq h1] at hg ⊢
  rw [eq_of_beq h3] at hg2 ⊢
  exact i_rrg2 hg2 (G.bi _ (by decide)) hg (G.bi _ (by decide)) (ha _ _ _ _ _ G h5).1 (hb _ _ _ _ _ G h6).1 (okx_nst (chkE_ok h5)) (okx_nst (chkE_ok h6))
theorem i_ok_rngd {a b : CE} (ha : PEok tabs F a) (hb : PEok tabs F b) : PIok tabs F (.rngd a b) := by
  intro lv c c' E X e tg t G h _ _
  unfold chkI at h
  split at h
  all_goals try (cases h; done)
  all_goals try contradiction
  rename_i heq
  cases heq
  simp only [Bool.and_eq_true] at h
  have hg := G.gl h.1.1.2
  rw [eq_of_beq h.1.1.1] at hg ⊢
  exact i_rngd hg (G.bi _ (by decide)) (ha _ _ _ _ _ G h.1.2).1 (hb _ _ _ _ _ G h.2).1 (okx_nst (chkE_ok h.1.2)) (okx_nst (chkE_ok h.2))
theorem i_ok_enum {a : CE} (ha : PEok tabs F a) : PIok tabs F (.enum a) := by
  intro lv c c' E X e tg t G h h2 h3
  unfold chkI at h
  split at h
  all_goals try (cases h; done)
  all_goals try contradiction
  rename_i heq
  cases heq
  simp only [Bool.and_eq_true] at h
  have hg := G.gl h.1.2
  rw [eq_of_beq h.1.1] at hg ⊢
  cases t with
  | one i => cases h2
  | many is =>
    unfold chkT at h3
    split at h3
    · contradiction
    · exact i_enum hg (G.bi _ (by decide)) (ha _ _ _ _ _ G h.2).1 (okx_nst (chkE_ok h.2))
    · cases h3
theorem i_ok_rvs {a : CE} (ha : PEok tabs F a) : PIok tabs F (.rvs a) := by
  intro lv c c' E X e tg t G h h2 h3
  unfold chkI at h
  split at h
  all_goals try (cases h; done)
  all_goals try contradiction
  rename_i heq
  cases heq
  simp only [Bool.and_eq_true] at h
  have hg := G.gl h.1.2
  rw [eq_of_beq h.1.1] at hg ⊢
  exact i_rvs hg (G.bi _ (by decide)) (ha _ _ _ _ _ G h.2).1 (okx_nst (chkE_ok h.2))
theorem e_rvt {a : CE} (ha : PEok tabs F a) : PEok tabs F (.rvt a) := by
  intro lv c E X e G h
  unfold chkE at h
  split at h
  all_goals try (cases h; done)
  all_goals try contradiction
  rename_i heq
  cases heq
  simp only [Bool.and_eq_true] at h
  obtain ⟨⟨⟨⟨h1, h2⟩, h3⟩, h4⟩, h5⟩ := h
  have hg := G.gl h2
  have hg2 := G.gl h4
  rw [eq_of_beq h1] at hg ⊢
  rw [eq_of_beq h3] at hg2 ⊢
  exact val_ok (c_rvt G.calm hg (G.bi _ (by decide)) hg2 (G.bi _ (by decide)) (ha _ _ _ _ _ G h5).1 (okx_nst (chkE_ok h5))) rfl rfl
theorem e_lc {t : Tg} {it : CI} {cc : CO} {a : CE} (hi : PIok tabs F it) (hc : POok tabs F cc) (ha : PEok tabs F a) : PEok tabs F (.lc t it cc a) := by
  intro lv c E X e G h
  unfold chkE at h
  split at h
  all_goals try (cases h; done)
  all_goals try contradiction
  rename_i heq
  cases heq
  simp only [Bool.and_eq_true] at h
  obtain ⟨⟨⟨⟨⟨⟨h1, h2⟩, h3⟩, h4⟩, h5⟩, h6⟩, h7⟩ := h
  have own := own_all (eq_of_beq h3)
  have hv : ∀ i, i ∈ (ownN c t).map (·.2) ↔ i ∈ ownT t := fun i => by rw [own]
  have ok := blk_ok G h2
  refine val_ok (PE.imp (pe_lc (g := gT X.K t) (tt := tG tabs X.mg E0 RelB (evC F cc)) (te := tG tabs X.mg E0 RelD (ev F a)) G.calm G.nd (hi _ _ _ _ _ _ _ _ G h1 h4 h5) ok (fun s H C cl fp => pg_T (G.blk ok.kind s H C cl fp) h5) (fun s H C cl fp => (hc _ _ _ _ (G.blk ok.kind s H C cl fp)).2 _ h6) (fun s H C cl fp => (ha _ _ _ _ _ (G.blk ok.kind s H C cl fp) h7).1) (okx_fold (chkI_ok h1) _)) fun σ H Q ⟨ρ, Z, S, g, rs, sl, h⟩ => ?_) rfl rfl
  simp only [ev] at h
  exact lc_reads hv ⟨ρ, Z, S, g, rs, sl, h⟩
theorem e_gn {k : GK} {t : Tg} {it : CI} {cc : CO} {a : CE} (hi : PIok tabs F it) (hc : POok tabs F cc) (ha : PEok tabs F a) : PEok tabs F (.gn k t it cc a) := by
  intro lv c E X e G h
  unfold chkE at h
  split at h
  all_goals try (cases h; done)
  all_goals try contradiction
  rename_i heq
  cases heq
  simp only [Bool.and_eq_true] at h
  obtain ⟨⟨⟨⟨⟨⟨⟨⟨⟨⟨⟨g1, g2⟩, g3⟩, g4⟩, h1⟩, h2⟩, h2'⟩, h3⟩, h4⟩, h5⟩, h6⟩, h7⟩ := h
  have own := own_all (eq_of_beq h3)
  have hv : ∀ i, i ∈ (ownN c t).map (·.2) ↔ i ∈ ownT t := fun i => by rw [own]
  have ok := g_ok G h2 h2'
  obtain ⟨cd, P, hcode, TB, hP⟩ := G.tab g1
  have hg := G.gl g4
  rw [eq_of_beq g3] at hg ⊢
  have q1 := hi _ _ _ _ _ _ _ _ G h1 h4 h5
  have q2 := fun (A : Around) (s : Shared) (H : Hp) (C : Addr) (code : Value) (fp : List Addr) (pn : List (Addr × Obj)) (hr : Room lv A) => pg_T (G.gen ok.blk.kind A hr s H C code fp pn) h5
  have q3 := fun (A : Around) (s : Shared) (H : Hp) (C : Addr) (code : Value) (fp : List Addr) (pn : List (Addr × Obj)) (hr : Room lv A) => (hc _ _ _ _ (G.gen ok.blk.kind A hr s H C code fp pn)).2 _ h6
  have q4 := fun (A : Around) (s : Shared) (H : Hp) (C : Addr) (code : Value) (fp : List Addr) (pn : List (Addr × Obj)) (hr : Room lv A) => (ha _ _ _ _ _ (G.gen ok.blk.kind A hr s H C code fp pn) h7).1
  have hs := okx_gfold (chkI_ok h1) g2 X.env
  cases k with
  | all =>
    refine val_ok (PE.imp (pe_allG (g := gT X.K t) (tt := tG tabs X.mg E0 RelB (evC F cc)) (te := tG tabs X.mg E0 RelD (ev F a)) (G.roomG g1) G.nd hg (G.bi _ (by decide)) PyProof.Rows.boot_all TB hcode ok q1 q2 q3 q4 hs rfl) fun σ H Q ⟨ρ, Z, S, g, rs, sl, h⟩ => ?_) rfl rfl
    simp only [ev] at h
    exact qb_reads hP hv ⟨ρ, Z, S, g, rs, sl, h⟩
  | any =>
    refine val_ok (PE.imp (pe_anyG (g := gT X.K t) (tt := tG tabs X.mg E0 RelB (evC F cc)) (te := tG tabs X.mg E0 RelD (ev F a)) (G.roomG g1) G.nd hg (G.bi _ (by decide)) PyProof.Rows.boot_any TB hcode ok q1 q2 q3 q4 hs rfl) fun σ H Q ⟨ρ, Z, S, g, rs, sl, h⟩ => ?_) rfl rfl
    simp only [ev] at h
    exact qb_reads hP hv ⟨ρ, Z, S, g, rs, sl, h⟩
  | anyI =>
    refine val_ok (PE.imp (pe_anyI (g := gT X.K t) (tt := tG tabs X.mg E0 RelB (evC F cc)) (te := tG tabs X.mg E0 RelD (ev F a)) (G.roomG g1) G.nd hg (G.bi _ (by decide)) PyProof.Rows.boot_any TB hcode ok q1 q2 q3 q4 hs rfl) fun σ H Q ⟨ρ, Z, S, g, rs, sl, h⟩ => ?_) rfl rfl
    simp only [ev] at h
    exact qi_reads hP hv ⟨ρ, Z, S, g, rs, sl, h⟩
  | sum =>
    refine val_ok (PE.imp (pe_sumG (g := gT X.K t) (tt := tG tabs X.mg E0 RelB (evC F cc)) (te := tG tabs X.mg E0 RelD (ev F a)) (G.roomG g1) G.nd hg (G.bi _ (by decide)) PyProof.Rows.boot_sum TB hcode ok q1 q2 q3 q4 hs rfl) fun σ H Q ⟨ρ, Z, S, g, rs, sl, h⟩ => ?_) rfl rfl
    simp only [ev] at h
    exact sum_reads hP hv ⟨ρ, Z, S, g, rs, sl, h⟩
theorem own_app {c : SC} {t1 t2 : Tg} (h1 : (ownN c t1).length = (ownT t1).length) (h2 : (ownN c t2).length = (ownT t2).length) : ∀ i, i ∈ (ownN c t1 ++ ownN c t2).map (·.2) ↔ i ∈ ownT t1 ∨ i ∈ ownT t2 := fun i => by
  rw [List.map_append, List.mem_append, own_all h1, own_all h2]
theorem e_lc2 {t1 t2 : Tg} {i1 i2 : CI} {a : CE} (hi : PIok tabs F i1) (hi2 : PIok tabs F i2) (ha : PEok tabs F a) : PEok tabs F (.lc2 t1 i1 t2 i2 a) := by
  intro lv c E X e G h
  unfold chkE at h
  split at h
  all_goals try (cases h; done)
  all_goals try contradiction
  rename_i heq
  cases heq
  simp only [Bool.and_eq_true] at h
  obtain ⟨⟨⟨⟨⟨⟨⟨⟨⟨h1, h2⟩, h3⟩, h4⟩, h5⟩, h6⟩, h7⟩, h8⟩, h9⟩, h10⟩ := h
  have hv := own_app (eq_of_beq h3) (eq_of_beq h4)
  have own2 := own_all (eq_of_beq h4)
  have ok := blk_ok G h2
  refine val_ok (PE.imp (pe_lc2 (vs1 := ownT t2) (g := gT X.K t1) (tt := tG tabs X.mg E0 RelB fun _ S => .ok true S) (wi1 := Ti tabs X E0 F i2) (g1 := gT X.K t2) (tt1 := tG tabs X.mg E0 RelB fun _ S => .ok true S) (te := tG tabs X.mg E0 RelD (ev F a)) G.calm G.nd (hi _ _ _ _ _ _ _ _ G h1 h5 h7) ok (fun i hi => (hv i).mpr (.inr hi))
    (fun s H C cl fp => pg_T (G.blk ok.kind s H C cl fp) h7) (fun s H C cl fp => ts_tt) (fun s H C cl fp => hi2 _ _ _ _ _ _ _ _ (G.blk ok.kind s H C cl fp) h8 h6 h9) (fun s H C cl fp => pg_T (G.blk ok.kind s H C cl fp) h9) (fun s H C cl fp => ts_tt) (fun s H C cl fp => (ha _ _ _ _ _ (G.blk ok.kind s H C cl fp) h10).1) (okx_fold (chkI_ok h1) _) (okx_fold (chkI_ok h8))) fun σ H Q ⟨ρ, Z, S, g, rs, sl, h⟩ => ?_) rfl rfl
  simp only [ev] at h
  exact lc2_reads hv (fun i => Iff.rfl) ⟨ρ, Z, S, g, rs, sl, h⟩
theorem e_an2 {t1 t2 : Tg} {i1 i2 : CI} {a : CE} (hi : PIok tabs F i1) (hi2 : PIok tabs F i2) (ha : PEok tabs F a) : PEok tabs F (.an2 t1 i1 t2 i2 a) := by
  intro lv c E X e G h
  unfold chkE at h
  split at h
  all_goals try (cases h; done)
  all_goals try contradiction
  rename_i heq
  cases heq
  simp only [Bool.and_eq_true] at h
  obtain ⟨⟨⟨⟨⟨⟨⟨⟨⟨⟨⟨⟨⟨⟨g1, g2⟩, g3⟩, g4⟩, h1⟩, h2⟩, h2'⟩, h3⟩, h4⟩, h5⟩, h6⟩, h7⟩, h8⟩, h9⟩, h10⟩ := h
  have hv := own_app (eq_of_beq h3) (eq_of_beq h4)
  have ok := g_ok G h2 h2'
  obtain ⟨cd, P, hcode, TB, hP⟩ := G.tab g1
  have hg := G.gl g4
  rw [eq_of_beq g3] at hg ⊢
  have q1 := hi _ _ _ _ _ _ _ _ G h1 h5 h7
  have q2 := fun (A : Around) (s : Shared) (H : Hp) (C : Addr) (code : Value) (fp : List Addr) (pn : List (Addr × Obj)) (hr : Room lv A) => pg_T (G.gen ok.blk.kind A hr s H C code fp pn) h7
  have q5 := fun (A : Around) (s : Shared) (H : Hp) (C : Addr) (code : Value) (fp : List Addr) (pn : List (Addr × Obj)) (hr : Room lv A) => hi2 _ _ _ _ _ _ _ _ (G.gen ok.blk.kind A hr s H C code fp pn) h8 h6 h9
  have q6 := fun (A : Around) (s : Shared) (H : Hp) (C : Addr) (code : Value) (fp : List Addr) (pn : List (Addr × Obj)) (hr : Room lv A) => pg_T (G.gen ok.blk.kind A hr s H C code fp pn) h9
  have q4 := fun (A : Around) (s : Shared) (H : Hp) (C : Addr) (code : Value) (fp : List Addr) (pn : List (Addr × Obj)) (hr : Room lv A) => (ha _ _ _ _ _ (G.gen ok.blk.kind A hr s H C code fp pn) h10).1
  have hs := okx_gfold (chkI_ok h1) g2 X.env
  refine val_ok (PE.imp (pe_anyG2 (vs1 := ownT t2) (g := gT X.K t1) (tt := tG tabs X.mg E0 RelB fun _ S => .ok true S) (wi1 := Ti tabs X E0 F i2) (g1 := gT X.K t2) (tt1 := tG tabs X.mg E0 RelB fun _ S => .ok true S) (te := tG tabs X.mg E0 RelD (ev F a)) (G.roomG g1) G.nd hg (G.bi _ (by decide)) PyProof.Rows.boot_any TB hcode ok q1 q2 (fun _ _ _ _ _ _ _ _ => ts_tt) q5 q6 (fun _ _ _ _ _ _ _ _ => ts_tt) (okx_fold (chkI_ok h8)) (fun i hi => (hv i).mpr (.inr hi)) q4 hs rfl) fun σ H Q ⟨ρ, Z, S, g, rs, sl, h⟩ => ?_) rfl rfl
  simp only [ev] at h
  exact an2_reads hP hv (fun i => Iff.rfl) ⟨ρ, Z, S, g, rs, sl, h⟩
theorem i_ok_dit {a : CE} (ha : PEok tabs F a) : PIok tabs F (.dit a) := by
  intro lv c c' E X e tg t G h _ _
  have h : chkE c a e = true := by
    unfold chkI at h
    exact h
  exact i_dit (ha _ _ _ _ _ G h).1
theorem e_dnt : PEok tabs F .dnt := by
  intro lv c E X e G h
  unfold chkE at h
  split at h
  all_goals try (cases h; done)
  all_goals try contradiction
  exact val_ok c_dnt rfl rfl
theorem e_dgt {a b : CE} (ha : PEok tabs F a) (hb : PEok tabs F b) : PEok tabs F (.dgt a b) := by
  intro lv c E X e G h
  unfold chkE at h
  split at h
  all_goals try (cases h; done)
  all_goals try contradiction
  rename_i heq
  cases heq
  simp only [Bool.and_eq_true] at h
  exact val_ok (c_dgt G (ha _ _ _ _ _ G h.1).1 (hb _ _ _ _ _ G h.2).1 (okx_ix (chkE_ok h.2))) rfl rfl
theorem var_raw {lv : Nat} {c : SC} {E : XK} {X : Cx} {e : Expr} {i : Nat} (G : Good tabs F lv c E X) (h : chkV c i e = true) : PE X e (tVar i) ∧ okx e = true := by
  unfold chkV at h
  split at h
  · simp only [Bool.and_eq_true, Bool.not_eq_true', dbg, cdi] at h
    exact ⟨pe_var (by rw [G.N]; exact at_eq h.1.1.1) (G.vis h.1.1.2) h.1.2 h.2, rfl⟩
  · cases h
theorem valV_nd {κ : Type} [DecidableEq κ] : ∀ {kvs : List (κ × V)} {k : Nat} {kk : κ} {w : V}, (kvs.map (·.1)).Nodup → kvs[k]? = some (kk, w) → valV kvs kk = some w
  | [], k, kk, w, _, h => by simp at h
  | p :: r, 0, kk, w, _, h => by
    simp only [List.getElem?_cons_zero, Option.some.injEq] at h
    subst h
    exact valV_pos rfl
  | p :: r, k + 1, kk, w, nd, h => by
    simp only [List.getElem?_cons_succ] at h
    rw [List.map_cons, List.nodup_cons] at nd
    have hm : kk ∈ r.map (·.1) := List.mem_map.mpr ⟨_, List.mem_of_getElem? h, rfl⟩
    rw [valV_neg fun e => nd.1 (by rw [e]; exact hm)]
    exact valV_nd nd.2 h
theorem ldv_reads {X : Cx} {E : XK} {i j : Nat} (hij : i ≠ j) {σ : L2.St} {H : Hp} {Q : VK} (h : Te tabs X E F (.ldv i j) σ H Q) :
    tLockE (tLc (iKeys (tVar j)) (gName i) tYes (tDGet (tVar j) (tVar i)) [i]) σ H Q := by
  obtain ⟨ρ, Z, S, g, rs, sl, h⟩ := h
  simp only [ev] at h
  split at h
  · rename_i d hd
    obtain ⟨v, hv, rv⟩ := sl.2 j d hd
    split at h
    · rename_i kvs ht
      split at h
      · rename_i hz
        obtain ⟨hz, hil, nd⟩ := hz
        obtain ⟨a, p, kvs', rfl, rfl, hs, hp, eH, rk⟩ := tabT_rel rs rv ht
        have hlen : kvs.length = kvs'.length := relK_len rk
        have hil : i < σ.length := by rw [← sl.1]; exact hil
        have nd' : (kvs'.map (·.1)).Nodup := by rw [← rk.1]; exact nd
        refine ⟨p, .dT kvs', eH, True.intro, fun od => ?_⟩
        refine ⟨.ref p, hv, p, od, rfl, .inr ⟨kvs', upd_same, fun D hD => ?_⟩⟩
        have hpD : p ≠ D := fun z => by rw [z, upd_same] at hD; cases hD
        have hHD : H D = none := by rw [upd_ne (Ne.symm hpD)] at hD; exact hD
        refine lc_it walk_keysT (fun k H' => H' = upd (upd H p (.frz od (.dT kvs'))) D (.lst ((kvs'.map (·.2)).take k))) (by simp) (fun k H' _ e => by rw [e, upd_ne hpD, upd_same]) (fun k x H1 H2 hk e y => ?_) (fun H' e => ?_)
        · obtain ⟨rfl, kk, w, q, hkv, rfl, hq⟩ := y
          have hiN : ∀ u, (wipe σ [i]).set i u = σ.set i u := fun u => by
            show (σ.set i none).set i u = _
            rw [List.set_set]
          refine ⟨by rw [hiN]; show (σ.set i _).set i none = σ.set i none; rw [List.set_set], ?_⟩
          have hj : ((wipe σ [i]).set i (some (.ref q)))[j]? = some (some (.ref p)) := by rw [hiN, List.getElem?_set_ne hij]; exact hv
          have hi : ((wipe σ [i]).set i (some (.ref q)))[i]? = some (some (.ref q)) := by rw [hiN, List.getElem?_set_self hil]
          have hl : (kvs'.map (·.2))[k]? = some w := by rw [List.getElem?_map, hkv]; rfl
          refine ⟨.ref p, hj, .ref q, hi, p, w, rfl, .inr ⟨kvs', kk, q, .inr ⟨od, by rw [e, upd_ne hpD, upd_same]⟩, rfl, hq, (valV_nd nd' hkv).symm⟩, (kvs'.map (·.2)).take k, by rw [e, upd_same], ?_, ?_⟩
          · rw [List.length_take, List.length_map]; omega
          · rw [e, upd_upd, List.take_add_one, hl]; rfl
        · have e : H' = upd (upd H p (.frz od (.dT kvs'))) D (.lst (kvs'.map (·.2))) := by rw [e, List.take_of_length_le (by rw [List.length_map]; exact Nat.le_refl _)]
          refine ⟨by rw [e, upd_ne hpD, upd_same], ?_⟩
          have e2 : upd H' p (.dT kvs') = upd H D (.lst (kvs'.map (·.2))) := by
            rw [e]
            funext b
            by_cases hb : b = p
            · subst hb; rw [upd_same, upd_ne hpD]; exact eH.symm
            · rw [upd_ne hb]
              by_cases hb2 : b = D
              · subst hb2; rw [upd_same, upd_same]
              · rw [upd_ne hb2, upd_ne hb2, upd_ne hb]
          rw [e2]
          exact sat_alloc rs h rk.2 D hHD
      · exact h.elim
    · exact h.elim
  · exact h.elim
theorem e_ldv (i j : Nat) : PEok tabs F (.ldv i j) := by
  intro lv c E X e G h
  unfold chkE at h
  split at h
  all_goals try (cases h; done)
  all_goals try contradiction
  rename_i heq
  cases heq
  simp only [Bool.and_eq_true, decide_eq_true_eq] at h
  obtain ⟨⟨⟨⟨⟨⟨h1, h2⟩, h3⟩, h4⟩, h5⟩, h6⟩, h7⟩ := h
  have own := own_all (t := .one i) (eq_of_beq h3)
  have ok := blk_ok G h2
  have q1 := var_raw G h1
  refine val_ok (PE.imp (pe_lock (pe_lc (g := gName i) (tt := tYes) G.calm G.nd (pi_keys q1.1) ok (fun s H C cl fp => pg_T (t := .one i) (G.blk ok.kind s H C cl fp) h4) (fun s H C cl fp => pts_nil) (fun s H C cl fp => pe_dget (by show X.A.units + 1 < cLine; have := G.room.units; omega) (var_raw (G.blk ok.kind s H C cl fp) h5).1 (var_raw (G.blk ok.kind s H C cl fp) h6).1 (okx_ix (var_raw (G.blk ok.kind s H C cl fp) h6).2)) (okx_fold q1.2 _))) fun σ H Q hh => ?_) rfl rfl
  rw [own]
  exact ldv_reads h7 hh
theorem e_dc2 {t1 t2 : Tg} {i1 i2 : CI} {a : CE} (hi : PIok tabs F i1) (hi2 : PIok tabs F i2) (ha : PEok tabs F a) : PEok tabs F (.dc2 t1 i1 t2 i2 a) := by
  intro lv c E X e G h
  unfold chkE at h
  split at h
  all_goals try (cases h; done)
  all_goals try contradiction
  rename_i heq
  cases heq
  simp only [Bool.and_eq_true] at h
  obtain ⟨⟨⟨⟨⟨⟨⟨⟨⟨h1, h2⟩, h3⟩, h4⟩, h5⟩, h6⟩, h7⟩, h8⟩, h9⟩, h10⟩ := h
  have hv := own_app (eq_of_beq h3) (eq_of_beq h4)
  have ok := blk_ok G h2
  refine val_ok (PE.imp (DcT.pe_dc2 (us := ownT t2) (ga := gT X.K t1) (gb := gT X.K t2) (tv := tC (.bl true)) (tk := tG tabs X.mg E0 RelD (ev F a)) (wb := Ti tabs X E0 F i2) G.calm G.nd (by have := G.room.units; omega) (hi _ _ _ _ _ _ _ _ G h1 h5 h7) ok (fun i hi => (hv i).mpr (.inr hi))
    (fun s H C cl fp => pg_T (G.blk ok.kind s H C cl fp) h7) (fun s H C cl fp => hi2 _ _ _ _ _ _ _ _ (G.blk ok.kind s H C cl fp) h8 h6 h9) (fun s H C cl fp => pg_T (G.blk ok.kind s H C cl fp) h9) (fun s H C cl fp => (ha _ _ _ _ _ (G.blk ok.kind s H C cl fp) h10).1) (fun s H C cl fp => pe_bl) (okx_fold (chkI_ok h1) _) (okx_fold (chkI_ok h8))) fun σ H Q ⟨ρ, Z, S, g, rs, sl, h⟩ => ?_) rfl rfl
  simp only [ev] at h
  exact dc2_reads hv (fun i => Iff.rfl) ⟨ρ, Z, S, g, rs, sl, h⟩
theorem e_dgk {a : CE} (k : Str) (ha : PEok tabs F a) : PEok tabs F (.dgk a k) := by
  intro lv c E X e G h
  unfold chkE at h
  split at h
  all_goals try (cases h; done)
  all_goals try contradiction
  rename_i heq
  cases heq
  simp only [Bool.and_eq_true] at h
  obtain ⟨h1, h2⟩ := h
  obtain rfl := eq_of_beq h2
  exact val_ok (c_dgk G (ha _ _ _ _ _ G h1).1) rfl rfl
def AllE (P : CE → Prop) : CEs → Prop
  | .nil => True
  | .cons e es => P e ∧ AllE P es
theorem pps_ok {lv : Nat} {c : SC} {E : XK} {X : Cx} (G : Good tabs F lv c E X) {pos : Pos} : ∀ {ks : List Str} {es : CEs} {keys : List (Option Expr)} {vals : List Expr}, AllE (PEok tabs F) es → keyX ks keys = true → chkEs c es vals = true → ks.length = vals.length → PPs X pos keys vals (trD tabs X E F ks es)
  | [], .nil, [], [], _, _, _, _ => pps_nil
  | k :: ks, .cons e es, some (.Constant (.str k') j p) :: keys, v :: vals, ha, hk, hc, hl => by
    simp only [keyX, Bool.and_eq_true] at hk
    simp only [chkEs, Bool.and_eq_true] at hc
    obtain rfl := eq_of_beq hk.1
    exact pps_cons pe_str (ha.1 _ _ _ _ _ G hc.1).1 (pps_ok G ha.2 hk.2 hc.2 (by simpa using hl))
  | [], .cons e es, _, vals, _, _, hc, hl => by
    cases vals with
    | nil => simp [chkEs] at hc
    | cons v vs => cases hl
  | k :: ks, .nil, _, vals, _, _, hc, hl => by
    cases vals with
    | nil => cases hl
    | cons v vs => simp [chkEs] at hc
theorem e_dsp (ks : List Str) {es : CEs} (ha : AllE (PEok tabs F) es) : PEok tabs F (.dsp ks es) := by
  intro lv c E X e G h
  unfold chkE at h
  split at h
  all_goals try (cases h; done)
  all_goals try contradiction
  rename_i heq
  cases heq
  simp only [Bool.and_eq_true, decide_eq_true_eq, Bool.not_eq_true'] at h
  obtain ⟨⟨⟨⟨⟨h1, h2⟩, h3⟩, h4⟩, h5⟩, h6⟩ := h
  exact val_ok (c_dsp h1 (pps_ok G ha h1 h2 h6) h3 h4 h5 h6) rfl rfl
mutual
theorem li_e : ∀ ce : CE, PEok tabs F ce
  | .var i => e_var i
  | .cst d => e_cst d
  | .gint x n => e_gint x n
  | .bin op a b => e_bin op (li_e a) (li_e b)
  | .cmp op a b => e_cmp op (li_e a) (li_e b)
  | .cmp2 o1 o2 a b d => e_cmp2 o1 o2 (li_e a) (li_e b) (li_e d)
  | .and_ es => e_and (li_es es)
  | .or_ es => e_or (li_es es)
  | .not_ a => e_not (li_e a)
  | .neg a => e_neg (li_e a)
  | .ite t a b => e_ite (li_e t) (li_e a) (li_e b)
  | .tup es => e_tup (li_es es)
  | .lst es => e_lst (li_es es)
  | .idx a b => e_idx (li_e a) (li_e b)
  | .sl a lo hi => e_sl (li_e a) (li_o lo) (li_o hi)
  | .rev a => e_rev (li_e a)
  | .call f es => e_call (li_es es)
  | .callR f es => e_callR (li_es es)
  | .bi b es => e_bi (li_es es)
  | .mt m o es => e_mt (li_e o) (li_es es)
  | .isi k a => e_isi (li_e a)
  | .frz a => e_frz (li_e a)
  | .lrg a b => e_lrg (li_e a) (li_e b)
  | .lc t it cc a => e_lc (li_i it) (li_o cc) (li_e a)
  | .gn k t it cc a => e_gn (li_i it) (li_o cc) (li_e a)
  | .lc2 t1 i1 t2 i2 a => e_lc2 (li_i i1) (li_i i2) (li_e a)
  | .an2 t1 i1 t2 i2 a => e_an2 (li_i i1) (li_i i2) (li_e a)
  | .rvt a => e_rvt (li_e a)
  | .dgk a k => e_dgk k (li_e a)
  | .dnt => e_dnt
  | .dgt a b => e_dgt (li_e a) (li_e b)
  | .ldv i j => e_ldv i j
  | .dc2 t1 i1 t2 i2 a => e_dc2 (li_i i1) (li_i i2) (li_e a)
  | .dsp ks es => e_dsp ks (li_all es)
theorem li_all : ∀ es : CEs, AllE (PEok tabs F) es
  | .nil => trivial
  | .cons a es => ⟨li_e a, li_all es⟩
theorem li_es : ∀ es : CEs, PAok tabs F es
  | .nil => a_ok_nil
  | .cons a es => a_ok_cons (li_e a) (li_es es)
theorem li_o : ∀ o : CO, POok tabs F o
  | .non => o_ok_non
  | .som a => o_ok_som (li_e a)
theorem li_i : ∀ it : CI, PIok tabs F it
  | .seq a => i_ok_seq (li_e a)
  | .rng1 a => i_ok_rng1 (li_e a)
  | .rng2 a b => i_ok_rng2 (li_e a) (li_e b)
  | .enum a => i_ok_enum (li_e a)
  | .rvs a => i_ok_rvs (li_e a)
  | .dit a => i_ok_dit (li_e a)
  | .rrg a => i_ok_rrg (li_e a)
  | .rrg2 a b => i_ok_rrg2 (li_e a) (li_e b)
  | .rngd a b => i_ok_rngd (li_e a) (li_e b)
end
end
end Li
end

section
set_option Elab.async false
set_option linter.all false
set_option maxRecDepth 100000
set_option maxHeartbeats 4000000
namespace Li
open PySem PySem.Spec PyProof.Rows L2 GxR GX
open Classical
/-- what an except suite tells of its exception: isinstance by the raised class's name -/
inductive HX where
  | is (y : Str) (tab : List (Str × Bool)) | not_ (a : HX) | and_ (a b : HX) | or_ (a b : HX)
/-- a value in a dict that an except suite answers -/
inductive HK where
  | hx (x : HX) | bl (b : Bool) | str (x : Str) | nam (tab : List Str)
/-- an except suite -/
inductive HB where
  | non | bl (x : HX) | dct (kvs : List (Str × HK)) | emp | iff (x : HX) (a b : HB) | fall
def HX.val (n : Str) : HX → Option Bool
  | .is _ tab => tab.lookup n
  | .not_ a => (a.val n).map (!·)
  | .and_ a b => (a.val n).bind fun v => if v = true then b.val n else some false
  | .or_ a b => (a.val n).bind fun v => if v = true then some true else b.val n
def HK.val (n : Str) (pv : Option D) : HK → Option Fl
  | .hx x => (x.val n).map .bl
  | .bl b => some (.bl b)
  | .str x => some (.str x)
  | .nam tab => if tab.contains n = true then (match pv with
    | some (.str x) => some (.str x)
    | _ => none) else none
def hkv (n : Str) (pv : Option D) : List (Str × HK) → Option (List (Str × Fl))
  | [] => some []
  | (k, h) :: r => (h.val n pv).bind fun f => (hkv n pv r).map ((k, f) :: ·)
/-- the field of an exception is a text -/
def pvOk : Option D → Bool
  | none => true
  | some (.str _) => true
  | _ => false
@[simp] theorem pvOk_none : pvOk none = true := rfl
@[simp] theorem pvOk_str {x : Str} : pvOk (some (.str x)) = true := rfl
def HB.val (n : Str) (pv : Option D) : HB → Option D
  | .non => some .non
  | .bl x => (x.val n).map .bl
  | .dct kvs => (hkv n pv kvs).map .dct
  | .emp => some (.dct [])
  | .iff x a b => (x.val n).bind fun t => if t = true then a.val n pv else b.val n pv
  | .fall => none
mutual
inductive CS where
  | rai (x : Str) | raiN (x m : Str) | tri (b : CSs) (y : Str) (tab : List (Str × Bool)) (i : Nat) (h : HB) | stx (o i : CE) (j : Nat) (e : CE)
  | dpk (o : CE) (k : Str) (e : CE) | dpt (o k e : CE) | adc (i : Nat) (e : CE)
  | asg (t : Tg) (e : CE) | st (o i e : CE) | aug (i : Nat) (op : BOp) (e : CE) | ex (e : CE)
  | iff (c : CE) (a b : CSs) | for_ (t : Tg) (it : CI) (b : CSs) | whl (n : Nat) (c : CE) (b : CSs)
  | ret (e : CE) | retN | pass | brk | cnt | dead
inductive CSs where
  | nil | cons (s : CS) (r : CSs)
end
noncomputable def forGo (G : Store → Prop) (t : Tg) (body : GE → Store → SR) : List D → GE → Store → SR
  | [], g, S => if G S then .nx g S else .stuck
  | x :: xs, g, S => if G S then match setT S t x g with
    | some g' => match body g' S with
      | .nx g2 S2 => forGo G t body xs g2 S2
      | .ct g2 S2 => forGo G t body xs g2 S2
      | .bk g2 S2 => .nx g2 S2
      | r => r
    | none => .stuck else .stuck
noncomputable def whlGo (c : GE → Store → Res Bool) (body : GE → Store → SR) : Nat → GE → Store → SR
  | 0, _, _ => .stuck
  | n + 1, g, S => SR.of (c g S) fun b S1 => if b = true then match body g S1 with
      | .nx g2 S2 => whlGo c body n g2 S2
      | .ct g2 S2 => whlGo c body n g2 S2
      | .bk g2 S2 => .nx g2 S2
      | r => r
    else .nx g S1
def stR (o i v : D) (S : Store) : Option Store := match o, i with
  | .ref a, .int k => match S[a]? with
    | some (.lst xs) => match ixN xs.length k with
      | some j => some (S.set a (.lst (xs.set j v)))
      | none => none
    | _ => none
  | _, _ => none
/-- name op= e -/
def augR : BOp → D → D → Store → Res D
  | .add, .int i, .int j, S => .ok (.int (i + j)) S
  | .sub, .int i, .int j, S => .ok (.int (i - j)) S
  | .add, .ref a, .ref b, S => match S[a]?, S[b]? with
    | some (.lst xs), some (.lst ys) => if xs.length + ys.length ≤ sizeLine then .ok (.ref a) (S.set a (.lst (xs ++ ys))) else .stuck
    | _, _ => .stuck
  | _, _, _, _ => .stuck
mutual
noncomputable def exS (F : Fn) : CS → GE → Store → SR
  | .asg t e, g, S => SR.of (ev F e g S) fun d S1 => match setT S1 t d g with
    | some g' => .nx g' S1
    | none => .stuck
  | .st o i e, g, S => SR.of (ev F e g S) fun v S1 => SR.of (ev F o g S1) fun x S2 => SR.of (ev F i g S2) fun y S3 => match stR x y v S3 with
    | some S4 => .nx g S4
    | none => .stuck
  | .dpt o k e, g, S => SR.of (ev F e g S) fun v S1 => SR.of (ev F o g S1) fun x S2 => SR.of (ev F k g S2) fun y S3 => match putT x y v S3 with
    | some S4 => .nx g S4
    | none => .stuck
  | .adc i e, g, S => SR.of (ev F e g S) fun d S1 => .nx (g.set i (some d)) S1
  | .dpk o k e, g, S => SR.of (ev F e g S) fun v S1 => SR.of (ev F o g S1) fun x S2 => match putK' x k v S2 with
    | some S3 => .nx g S3
    | none => .stuck
  | .rai x, _, S => .exc ⟨x, none⟩ S
  | .raiN x m, _, S => .exc ⟨x, some (.str m)⟩ S
  | .tri b _ tab _ h, g, S => match exSs F b g S with
    | .exc e S1 => (match tab.lookup e.nm with
      | some true => if pvOk e.val = true then (match h.val e.nm e.val with
        | some d => .rt d S1
        | none => .stuck) else .stuck
      | some false => .exc e S1
      | none => .stuck)
    | r => r
  | .stx o i j e, g, S => SR.of (ev F e g S) fun v S1 => match v with
    | .tup [v1, v2] => SR.of (ev F o g S1) fun x S2 => SR.of (ev F i g S2) fun y S3 => (match stR x y v1 S3 with
      | some S4 => .nx (g.set j (some v2)) S4
      | none => .stuck)
    | _ => .stuck
  | .aug i op e, g, S => match g[i]? with
    | some (some x) => SR.of (ev F e g S) fun y S1 => SR.of (augR op x y S1) fun z S2 => .nx (g.set i (some z)) S2
    | _ => .stuck
  | .ex e, g, S => SR.of (ev F e g S) fun _ S1 => .nx g S1
  | .iff c a b, g, S => SR.of (evT F c g S) fun t S1 => if t = true then exSs F a g S1 else exSs F b g S1
  | .for_ t it b, g, S => SR.of (evI F it g S) fun p S1 => forGo p.2 t (exSs F b) p.1 g S1
  | .whl n c b, g, S => whlGo (evT F c) (exSs F b) n g S
  | .ret e, g, S => SR.of (ev F e g S) fun d S1 => .rt d S1
  | .retN, _, S => .rt .non S
  | .pass, g, S => .nx g S
  | .brk, g, S => .bk g S
  | .cnt, g, S => .ct g S
  | .dead, _, _ => .stuck
noncomputable def exSs (F : Fn) : CSs → GE → Store → SR
  | .nil, g, S => .nx g S
  | .cons s r, g, S => (exS F s g S).thn fun g1 S1 => exSs F r g1 S1
end
/-- a def: its parameters' number, its names' number, its body -/
structure FD where
  np : Nat
  nn : Nat
  body : CSs
noncomputable def runD (F : Fn) (d : FD) (ds : List D) (S : Store) : Res D := if ds.length = d.np then match exSs F d.body (ds.map some ++ List.replicate (d.nn - ds.length) none) S with
    | .nx _ S' => .ok .non S'
    | .rt v S' => .ok v S'
    | .exc e S' => .exc e S'
    | _ => .stuck
  else .stuck
/-! ### the check of statements -/
def nlocC (c : SC) : List Expr → Bool
  | [.Name x _, .Name y _] => decide (c.sn.lookup x ≠ some .local) || decide (c.sn.lookup y ≠ some .local)
  | _ => false
def notTup : Expr → Bool
  | .Tuple _ _ _ => false
  | _ => true
def isLc : Expr → Bool
  | .ListComp _ _ _ _ => true
  | .DictComp _ _ _ _ _ => true
  | _ => false
def nlc2 : CE → Bool
  | .lc2 _ _ _ _ _ => false
  | .frz (.lc2 _ _ _ _ _) => false
  | .dc2 _ _ _ _ _ => false
  | .ldv _ _ => false
  | .frz (.ldv _ _) => false
  | _ => true
/-- a doc string? -/
def docS : Stmt → Bool
  | .Expr (.Constant (.str _) _ _) _ => true
  | _ => false
def hxX (c : SC) (n : Str) : HX → Expr → Bool
  | .is y tab, .Call (.Name f _) [.Name n' _, .Name y' _] [] _ => f == "isinstance" && n' == n && y' == y && glC c "isinstance" && glC c y && !dbg y && tab.all fun p => c.x.xk.contains ((p.1, y), p.2)
  | .not_ a, .UnaryOp .Not e _ => hxX c n a e
  | .and_ a b, .BoolOp .And [e1, e2] _ => hxX c n a e1 && hxX c n b e2
  | .or_ a b, .BoolOp .Or [e1, e2] _ => hxX c n a e1 && hxX c n b e2
  | .and_ a (.and_ b d), .BoolOp .And [e1, e2, e3] _ => hxX c n a e1 && hxX c n b e2 && hxX c n d e3
  | .or_ a (.or_ b d), .BoolOp .Or [e1, e2, e3] _ => hxX c n a e1 && hxX c n b e2 && hxX c n d e3
  | _, _ => false
def hkX (c : SC) (n : Str) : HK → Expr → Bool
  | .hx x, e => hxX c n x e
  | .bl b, .Constant (.bool b') _ _ => b == b'
  | .str x, .Constant (.str x') _ _ => x == x'
  | .nam tab, .Attribute (.Name n' _) f _ => n' == n && f == "name" && tab.all fun y => c.x.xn.contains y
  | _, _ => false
def hksX (c : SC) (n : Str) : List (Str × HK) → List (Option Expr) → List Expr → Bool
  | [], [], [] => true
  | (k, h) :: r, some (.Constant (.str k') _ _) :: ks, v :: vs => k == k' && hkX c n h v && hksX c n r ks vs
  | _, _, _ => false
def hbX (c : SC) (n : Str) : HB → List Stmt → Bool
  | .non, [.Return (some (.Constant .none _ _)) _] => true
  | .bl x, [.Return (some e) _] => hxX c n x e
  | .dct kvs, [.Return (some (.Dict ks vs _)) _] => hksX c n kvs ks vs && decide (kvs.length ≤ 15) && !kvs.isEmpty && decide (kvs.map (·.1)).Nodup
  | .emp, [.Return (some (.Dict [] [] _)) _] => true
  | .iff x a b, .If e sa [] _ :: rest => hxX c n x e && hbX c n a sa && hbX c n b rest
  | .fall, [] => true
  | _, _ => false
mutual
def chkS (c : SC) : CS → Stmt → Bool
  | .asg (.one i) e, .Assign [.Name x p] ex _ => chkE c e ex && nlc2 e && chkT c (.one i) (.Name x p)
  | .asg (.many is) e, .Assign [.Tuple es k p] ex _ => chkE c e ex && chkT c (.many is) (.Tuple es k p) && (notTup ex || nlocC c es) && !isLc ex
  | .st o i e, .Assign [.Subscript eo ei _] ex _ => chkE c o eo && chkE c i ei && chkE c e ex && !isLc ex
  | .dpt o k e, .Assign [.Subscript eo ek _] ex _ => chkE c o eo && chkE c k ek && chkE c e ex && !isLc ex
  | .adc i (.dc2 t1 i1 t2 i2 k), .Assign [.Name x p] (.DictComp kx (.Constant (.bool true) jj q) [⟨tg, iter, [], 0⟩, ⟨tg1, iter1, [], 0⟩] sc gp) _ =>
    chkE c (.dc2 t1 i1 t2 i2 k) (.DictComp kx (.Constant (.bool true) jj q) [⟨tg, iter, [], 0⟩, ⟨tg1, iter1, [], 0⟩] sc gp) && chkT c (.one i) (.Name x p) && decide (c.sn.lookup x = some .local) && p.line == gp.line && !(sc.names.any fun (n, k) => n == x && (k == .local || k == .cell))
  | .dpk o k e, .Assign [.Subscript eo (.Constant (.str x) _ _) _] ex _ => chkE c o eo && k == x && chkE c e ex && !isLc ex
  | .rai x, .Raise (some (.Call (.Name x' _) [.Constant (.str _) _ _] [] _)) none _ => x' == x && c.x.xs.contains x && glC c x && !dbg x
  | .raiN x m, .Raise (some (.Call (.Name x' _) [.Constant (.str m') _ _] [] _)) none _ => x' == x && m' == m && c.x.xn.contains x && glC c x && !dbg x && decide (m.length ≤ 1000)
  | .tri b y tab i h, .Try body [.ExceptHandler (some (.Name y' _)) (some n) suite _] [] [] _ => chkSs c b body && y' == y && glC c y && !dbg y && !suite.isEmpty && decide (c.N[i]? = some n) && decide (c.sn.lookup n = some .local) && !dbg n && !cdi n && !tab.isEmpty && (tab.all fun p => c.x.xm.contains ((p.1, y), p.2)) && hbX c n h suite
  | .tri b y tab _ .non, .Try body [.ExceptHandler (some (.Name y' _)) none suite _] [] [] _ => chkSs c b body && y' == y && glC c y && !dbg y && !suite.isEmpty && !tab.isEmpty && (tab.all fun p => c.x.xm.contains ((p.1, y), p.2)) && hbX c y .non suite
  | .stx o i j e, .Assign [.Tuple [.Subscript eo ei _, .Name x p] _ _] ex _ => chkE c o eo && chkE c i ei && chkT c (.one j) (.Name x p) && chkE c e ex && !isLc ex
  | .aug i op e, .AugAssign (.Name x p) o ex _ => chkE c e ex && chkT c (.one i) (.Name x p) && opE o (bopS op)
  | .ex e, .Expr ex _ => chkE c e ex && !isLc ex
  | .pass, .Expr (.Constant (.str _) _ _) _ => true
  | .iff t a b, .If et sa sb _ => tstE t && chkE c t et && chkSs c a sa && chkSs c b sb
  | .for_ t it b, .For tg ei sb [] _ => chkI c it ei && itT it t && chkT c t tg && chkSs c b sb
  | .whl _ t b, .While et sb [] _ => tstE t && chkE c t et && chkSs c b sb
  | .ret e, .Return (some ex) _ => chkE c e ex
  | .retN, .Return none _ => true
  | .pass, .Pass _ => true
  | .brk, .Break _ => true
  | .cnt, .Continue _ => true
  | .dead, _ => true
  | _, _ => false
def chkSs (c : SC) : CSs → List Stmt → Bool
  | .nil, [] => true
  | .cons s r, x :: xs => chkS c s x && chkSs c r xs
  | _, _ => false
end
/-! ### readings -/
section
variable {tabs : List Addr} {mg : Str → Option Value} {E : XK} {ρ ρ' : List Addr} {Z Z' H H' : Hp} {S S' : Store} {D' : Ends} {r : SR}
def SatS (tabs : List Addr) (mg : Str → Option Value) (E : XK) (D : Ends) (ρ : List Addr) (Z H : Hp) : SR → Prop
  | .nx g S' => ∀ σ' ρ' Z' H', Post tabs ρ Z H ρ' Z' S' H' → SlR Z' ρ' g σ' → D.nx σ' H'
  | .bk g S' => ∀ σ' ρ' Z' H', Post tabs ρ Z H ρ' Z' S' H' → SlR Z' ρ' g σ' → D.bk σ' H'
  | .ct g S' => ∀ σ' ρ' Z' H', Post tabs ρ Z H ρ' Z' S' H' → SlR Z' ρ' g σ' → D.ct σ' H'
  | .rt d S' => ∀ v ρ' Z' H', Post tabs ρ Z H ρ' Z' S' H' → RelD Z' ρ' d v → D.rt v H'
  | .exc e S' => ∀ c dx ρ' Z' H', Post tabs ρ Z H ρ' Z' S' H' → ExR mg Z' ρ' e c dx H' → E c dx H'
  | .stuck => False
def tS (tabs : List Addr) (mg : Str → Option Value) (E : XK) (m : GE → Store → SR) : TS := fun D σ H => ∃ ρ Z S g, Rst tabs ρ Z S H ∧ SlR Z ρ g σ ∧ SatS tabs mg E D ρ Z H (m g S)
theorem SatS.trans {D : Ends} (p : Post tabs ρ Z H ρ' Z' S' H') (h : SatS tabs mg E D ρ Z H r) : SatS tabs mg E D ρ' Z' H' r := by
  cases r with
  | nx g S => exact fun σ ρ1 Z1 H1 q rr => h σ ρ1 Z1 H1 (p.trans q) rr
  | bk g S => exact fun σ ρ1 Z1 H1 q rr => h σ ρ1 Z1 H1 (p.trans q) rr
  | ct g S => exact fun σ ρ1 Z1 H1 q rr => h σ ρ1 Z1 H1 (p.trans q) rr
  | rt d S => exact fun v ρ1 Z1 H1 q rr => h v ρ1 Z1 H1 (p.trans q) rr
  | exc e S => exact fun c dx ρ1 Z1 H1 q rr => h c dx ρ1 Z1 H1 (p.trans q) rr
  | stuck => exact h
theorem sats_of {γ δ : Type} {R1 : Hp → List Addr → γ → δ → Prop} {D : Ends} {g : GE} {σ : L2.St} {m : GE → Store → Res γ} {k : γ → Store → SR} (rs : Rst tabs ρ Z S H) (sl : SlR Z ρ g σ) (h : SatS tabs mg E D ρ Z H (SR.of (m g S) k)) :
    tG tabs mg E R1 m σ H (fun c H1 => ∃ ρ1 Z1 S1 a, Post tabs ρ Z H ρ1 Z1 S1 H1 ∧ R1 Z1 ρ1 a c ∧ SatS tabs mg E D ρ1 Z1 H1 (k a S1)) := by
  refine ⟨ρ, Z, S, g, rs, sl, ?_⟩
  cases e : m g S with
  | ok a S1 =>
    rw [e] at h
    exact fun b ρ1 Z1 H1 q rr => ⟨ρ1, Z1, S1, a, q, rr, SatS.trans q h⟩
  | exc x S1 => rw [e] at h; exact h
  | stuck => rw [e] at h; exact h
theorem PS.imp {X : Cx} {st : Stmt} {t t' : TS} (h : PS X st t) (hi : ∀ D σ H, t' D σ H → t D σ H) : PS X st t' := ⟨fun pins s σ H D I q => h.run pins s σ H D I (hi D σ H q)⟩
theorem PSs.imp {X : Cx} {st : List Stmt} {t t' : TS} (h : PSs X st t) (hi : ∀ D σ H, t' D σ H → t D σ H) : PSs X st t' := ⟨fun pins s σ H D I q => h.run pins s σ H D I (hi D σ H q)⟩
theorem tS_seq {D : Ends} {m1 m2 : GE → Store → SR} {σ : L2.St} (h : tS tabs mg E (fun g S => (m1 g S).thn fun g1 S1 => m2 g1 S1) D σ H) : tSeq (tS tabs mg E m1) (tS tabs mg E m2) D σ H := by
  obtain ⟨ρ, Z, S, g, rs, sl, h⟩ := h
  refine ⟨ρ, Z, S, g, rs, sl, ?_⟩
  have h : SatS tabs mg E D ρ Z H ((m1 g S).thn fun g1 S1 => m2 g1 S1) := h
  cases e : m1 g S with
  | nx g1 S1 =>
    rw [e] at h
    exact fun σ' ρ' Z' H' p sl' => ⟨ρ', Z', S1, g1, p.st, sl', SatS.trans p h⟩
  | bk g1 S1 => rw [e] at h; exact h
  | ct g1 S1 => rw [e] at h; exact h
  | rt d S1 => rw [e] at h; exact h
  | exc x S1 => rw [e] at h; exact h
  | stuck => rw [e] at h; exact h
end
/-- a whole statement list's context: loops let exceptions through -/
structure XF (x : XC) (P : Program) (K : PySem.W.Frag) (mg : Str → Option Value) : Prop where
  xn : ∀ n ∈ x.xn, ∃ C, mg n = some (.ref C) ∧ ExS.NsC P K C ∧ ExcC K C
  xs : ∀ n ∈ x.xs, ∃ C, mg n = some (.ref C) ∧ PySem.W.keepIn K (.ref C) = true ∧ PySem.W.excIn K C He.veBase "ValueError.__new__" = true ∧ PySem.W.subIn K (.ref C) (.type "BaseException") = some true ∧ PySem.W.typeIn K (.ref C) = some (.type "type")
  xm : ∀ p ∈ x.xm, ∃ C D, mg p.1.1 = some (.ref C) ∧ mg p.1.2 = some (.ref D) ∧ PySem.W.exmOne K (.ref C) (.ref D) = some p.2
  xk : ∀ p ∈ x.xk, ∃ (C : Addr) (v : V) (cv : Value), mg p.1.1 = some (.ref C) ∧ ExcC K C ∧ (mg p.1.2 = some cv ∨ (mg p.1.2 = none ∧ bootBuiltins p.1.2 = some cv ∧ p.1.2 ≠ "__name__")) ∧ RelV v cv ∧ (∀ u, RelV v u → u = cv) ∧ PySem.W.kitOne K (.ref C) cv = some p.2
structure GoodS (tabs : List Addr) (F : Fn) (lv : Nat) (c : SC) (E : XK) (X : Cx) : Prop extends Good tabs F lv c E X where
  stk : X.stack = X.env :: X.outer
  frm : X.env.frame = some X.env.locals
  tk : Takes X (fun cls d _ H => E cls d H)
  xf : XF c.x X.prog X.K X.mg
  roomS : Room (lv + 1) X.A
  own : PassesOwn (model X.prog X.w) X.A X.env X.xe
section
variable {tabs : List Addr} {F : Fn} {lv : Nat} {c : SC} {E : XK} {X : Cx} {pos : Pos} {e ea eb ec tg : Expr} {xs : List Expr}
abbrev Ts (tabs : List Addr) (X : Cx) (E : XK) (F : Fn) (s : CS) : TS := tS tabs X.mg E (exS F s)
abbrev Tss (tabs : List Addr) (X : Cx) (E : XK) (F : Fn) (s : CSs) : TS := tS tabs X.mg E (exSs F s)
theorem asg_reads {t : Tg} {m : GE → Store → Res D} {D : Ends} {σ : L2.St} {H : Hp} (h : tS tabs X.mg E (fun g S => SR.of (m g S) fun d S1 => match setT S1 t d g with | some g' => .nx g' S1 | none => .stuck) D σ H) : tAsg (tG tabs X.mg E RelD m) (gT X.K t) D σ H := by
  obtain ⟨ρ, Z, S, g, rs, sl, h⟩ := h
  refine tG_mono (sats_of (R1 := RelD) rs sl h) fun x H1 ⟨ρ1, Z1, S1, a, p1, r1, h1⟩ => ?_
  split at h1
  · rename_i g' hg
    exact gT_ok t p1.st r1 hg ((sl.post p1).x (P := fun _ => False)) fun σ' sx _ => h1 σ' ρ1 Z1 H1 (Post.refl p1.st) (sx.all fun i hi => hi.1)
  · exact h1.elim
theorem lc_swap {elt : Expr} {gens : List Comprehension} {sc : Scope} {p px : Pos} {x : Str} {line : Nat} (b : Bool) (hb : b = (X.env.blockKind == .function && X.env.kindOf x == some .local && px.line == p.line && !(sc.names.any fun (n, k) => n == x && (k == .local || k == .cell)))) :
    swapsWith (.ListComp elt gens sc p) (some (.Name x px)) line X.env = pure b := by
  subst hb; rfl
theorem lc_inv {a : CE} {elt : Expr} {gens : List Comprehension} {sc : Scope} {vp : Pos} (h : chkE c a (.ListComp elt gens sc vp) = true) (hn2 : nlc2 a = true) : ∃ t it cc ce, (a = .lc t it cc ce ∨ a = .frz (.lc t it cc ce)) ∧ chkE c (.lc t it cc ce) (.ListComp elt gens sc vp) = true := by
  cases a <;> first
    | exact ⟨_, _, _, _, .inl rfl, h⟩
    | (cases hn2; done)
    | (rename_i b
       simp only [chkE, Bool.and_eq_true] at h
       have h2 := h.2
       have h1 := h.1.2
       cases b <;> first | exact ⟨_, _, _, _, .inr rfl, h2⟩ | (cases hn2; done) | (simp [nfz] at h1; done) | (simp [chkE] at h2; done))
    | (simp [chkE] at h; done)
theorem te_frz {b a : CE} {σ : L2.St} {H : Hp} {Q : VK} (e : a = b ∨ a = .frz b) (h : Te tabs X E F a σ H Q) : Te tabs X E F b σ H Q := by
  rcases e with rfl | rfl
  · exact h
  · obtain ⟨ρ, Z, S, g, rs, sl, h⟩ := h
    simp only [ev] at h
    exact ⟨ρ, Z, S, g, rs, sl, sat_frz rs h⟩
theorem s_asg1 (G : GoodS tabs F lv c E X) {i : Nat} {x : Str} {a : CE} {p : Pos} (h : chkE c a e = true) (hn2 : nlc2 a = true) (ht : chkT c (.one i) (.Name x p) = true) : PS X (.Assign [.Name x p] e pos) (Ts tabs X E F (.asg (.one i) a)) := by
  have he := (li_e a lv c E X e G.toGood h).1
  have ht' := ht
  simp only [chkT, Bool.and_eq_true] at ht'
  have hi : X.N[i]? = some x := by rw [G.N]; exact at_eq ht'.1
  obtain ⟨l1, l2⟩ := G.toGood.store ht'.2
  have imp : ∀ D σ H, Ts tabs X E F (.asg (.one i) a) D σ H → tAsg (Te tabs X E F a) (gName i) D σ H := fun D σ H h => asg_reads (t := .one i) (by
    obtain ⟨ρ, Z, S, g, rs, sl, h⟩ := h
    simp only [exS] at h
    exact ⟨ρ, Z, S, g, rs, sl, h⟩)
  by_cases hlc : isLc e = true
  · unfold isLc at hlc
    split at hlc
    · rename_i elt gens sc vp
      generalize hb : (X.env.blockKind == .function && X.env.kindOf x == some .local && p.line == vp.line && !(sc.names.any fun (n, k) => n == x && (k == .local || k == .cell))) = b
      have hsw := lc_swap (X := X) (elt := elt) (gens := gens) (sc := sc) (p := vp) (px := p) (x := x) (line := pos.line) b hb.symm
      cases b with
      | false => exact PS.imp (ps_set G.nd hi l1 he hsw l2) imp
      | true =>
        simp only [Bool.and_eq_true] at hb
        have hl : X.env.scope.names.lookup x = some .local := by
          have := hb.1.1.2
          exact eq_of_beq this
        obtain ⟨t, it, cc, a', ea, hq⟩ := lc_inv h hn2
        clear h
        have h := hq
        clear hq
        unfold chkE at h
        split at h
        all_goals try (cases h; done)
        all_goals try contradiction
        rename_i heq
        cases heq
        rename_i heq
        cases heq
        simp only [Bool.and_eq_true] at h
        obtain ⟨⟨⟨⟨⟨⟨h1, h2⟩, h3⟩, h4⟩, h5⟩, h6⟩, h7⟩ := h
        have own := own_all (eq_of_beq h3)
        have hv : ∀ i, i ∈ (ownN c t).map (·.2) ↔ i ∈ ownT t := fun i => by rw [own]
        have G0 := G.toGood
        have ok := blk_ok G0 h2
        refine PS.imp (ps_setLc (g := gT X.K t) (tt := tG tabs X.mg E0 RelB (evC F cc)) (te := tG tabs X.mg E0 RelD (ev F a')) G.calm G.nd hi hl hsw (li_i it _ _ _ _ _ _ _ _ G0 h1 h4 h5) ok (fun s H C cl fp => pg_T (G0.blk ok.kind s H C cl fp) h5) (fun s H C cl fp => (li_o cc _ _ _ _ (G0.blk ok.kind s H C cl fp)).2 _ h6) (fun s H C cl fp => (li_e a' _ _ _ _ _ (G0.blk ok.kind s H C cl fp) h7).1) (okx_fold (chkI_ok h1) _)) fun D σ H hh => ?_
        obtain ⟨ρ, Z, S, g, rs, sl, hh⟩ := te_frz ea (imp D σ H hh)
        simp only [ev] at hh
        exact lc_reads hv ⟨ρ, Z, S, g, rs, sl, hh⟩
    · exfalso
      cases a <;> first
        | (cases hn2; done)
        | (simp [chkE] at h; done)
        | (simp [chkE, okF] at h; done)
    · cases hlc
  · have hs : swapsWith e (some (.Name x p)) pos.line X.env = pure false := by
      have ho := chkE_ok h
      cases e <;> first | rfl | exact absurd rfl hlc | (cases ho; done) | (unfold chkE at h; cases a <;> simp [okF] at h)
    exact PS.imp (ps_set G.nd hi l1 he hs l2) imp
end
end Li
end

section
set_option Elab.async false
set_option linter.all false
set_option maxRecDepth 100000
set_option maxHeartbeats 4000000
namespace Li
open PySem PySem.Spec PyProof.Rows L2 GxR GX
open Classical
section
variable {tabs : List Addr} {F : Fn} {lv : Nat} {c : SC} {E : XK} {X : Cx} {pos : Pos} {e ea eb ec tg : Expr} {xs : List Expr}
theorem swaps_no {a : CE} (h : chkE c a e = true) (hl : isLc e = false) (t : Option Expr) (line : Nat) (env : Env) : swapsWith e t line env = pure false := by
  cases e <;> first | rfl | (cases hl; done) | (cases a <;> simp [chkE, okF] at h)
theorem swaps_no1 {a : CE} (h : chkE c a e = true) (hl : isLc e = false) (t : Expr) (line : Nat) (env : Env) : swapsWithSole [t] e line env = pure false := swaps_no h hl (some t) line env
theorem swapped_no (ht : notTup e = true) (tg : Expr) (env : Env) : swappedStores [tg] e env = pure none := by
  cases tg <;> cases e <;> first | rfl | (cases ht; done)
theorem swapped_no1 {x : Str} {p : Pos} (env : Env) : swappedStores [.Name x p] e env = pure none := by
  cases e <;> rfl
theorem swapped_no2 {o i : Expr} {p : Pos} (env : Env) : swappedStores [.Subscript o i p] e env = pure none := by
  cases e <;> rfl
theorem swapped_nl {x y : Str} {p p2 p3 : Pos} {k} (e : Expr) (env : Env) (h : env.kindOf x ≠ some .local ∨ env.kindOf y ≠ some .local) : swappedStores [.Tuple [.Name x p, .Name y p2] k p3] e env = pure none := by
  have b1 : ∀ (z : Str), env.kindOf z ≠ some .local → (env.kindOf z == some .local) = false := fun z hz => by
    cases q : (env.kindOf z == some .local) with
    | false => rfl
    | true => exact absurd (eq_of_beq q) hz
  cases e with
  | Tuple vs _ _ =>
    unfold swappedStores
    simp only
    split
    · rfl
    split
    · rfl
    split
    · rfl
    · rename_i hn
      exfalso
      apply hn
      simp only [List.filterMap_cons, List.filterMap_nil]
      rcases h with h | h
      · simp only [b1 _ h, Bool.false_and, Bool.false_eq_true, if_false]
        split <;> rfl
      · simp only [b1 _ h, Bool.false_and, Bool.false_eq_true, if_false]
        split <;> rfl
  | _ => rfl
theorem swapped_or (G : GoodS tabs F lv c E X) {es : List Expr} {k : Nat} {p : Pos} (h : (notTup e || nlocC c es) = true) : swappedStores [.Tuple es k p] e X.env = pure none := by
  rcases Bool.or_eq_true_iff.mp h with h | h
  · exact swapped_no h _ _
  · unfold nlocC at h
    split at h
    · rename_i x _ y _
      refine swapped_nl _ _ ?_
      have kx : ∀ z : Str, X.env.kindOf z = c.sn.lookup z := fun z => by
        show X.env.scope.names.lookup z = _
        rw [G.names]
      rcases Bool.or_eq_true_iff.mp h with h | h
      · exact .inl (by rw [kx]; exact of_decide_eq_true h)
      · exact .inr (by rw [kx]; exact of_decide_eq_true h)
    · cases h
theorem s_asgM (G : GoodS tabs F lv c E X) {is : List Nat} {es : List Expr} {k : Nat} {p : Pos} {a : CE} (h : chkE c a e = true) (ht : chkT c (.many is) (.Tuple es k p) = true) (hn : (notTup e || nlocC c es) = true) (hl : isLc e = false) : PS X (.Assign [.Tuple es k p] e pos) (Ts tabs X E F (.asg (.many is) a)) := by
  have he := (li_e a lv c E X e G.toGood h).1
  refine PS.imp (ps_asg he (pg_T G.toGood ht) (swaps_no1 h hl _ _ _) (swapped_or G hn) rfl) fun D σ H hh => asg_reads (t := .many is) ?_
  obtain ⟨ρ, Z, S, g, rs, sl, hh⟩ := hh
  simp only [exS] at hh
  exact ⟨ρ, Z, S, g, rs, sl, hh⟩
theorem s_st (G : GoodS tabs F lv c E X) {eo ei : Expr} {p : Pos} {o i a : CE} (ho : chkE c o eo = true) (hi : chkE c i ei = true) (h : chkE c a e = true) (hl : isLc e = false) : PS X (.Assign [.Subscript eo ei p] e pos) (Ts tabs X E F (.st o i a)) := by
  have he := (li_e a lv c E X e G.toGood h).1
  have q1 := (li_e o lv c E X eo G.toGood ho).1
  have q2 := (li_e i lv c E X ei G.toGood hi).1
  have ok := chkE_ok hi
  refine PS.imp (ps_asg he (pg_sub q1 q2 set_list (by intro v; cases ei <;> first | rfl | (cases ok; done))) (swaps_no1 h hl _ _ _) (swapped_no2 _) rfl) fun D σ H hh => ?_
  obtain ⟨ρ, Z, S, g, rs, sl, hh⟩ := hh
  simp only [exS] at hh
  refine tG_mono (sats_of (R1 := RelD) rs sl hh) fun v H1 ⟨ρ1, Z1, S1, dv, p1, r1, h1⟩ => tG_mono (sats_of (R1 := RelD) p1.st (sl.post p1) h1) fun x H2 ⟨ρ2, Z2, S2, dx, p2, r2, h2⟩ =>
    tG_mono (sats_of (R1 := RelD) p2.st ((sl.post p1).post p2) h2) fun y H3 ⟨ρ3, Z3, S3, dy, p3, r3, h3⟩ => ?_
  have rv := (r1.mono p2.zm p2.pre).mono p3.zm p3.pre
  have rx := r2.mono p3.zm p3.pre
  have sl3 := ((sl.post p1).post p2).post p3
  split at h3
  · rename_i S4 hS
    unfold stR at hS
    split at hS
    · split at hS
      · rename_i ys hy
        split at hS
        · rename_i j hj
          cases hS
          cases rx with
          | ref hp =>
            obtain ⟨_, ws, ew, rr⟩ := p3.st.ob _ _ _ hy hp
            refine ⟨_, ws, _, j, rfl, rel_int r3, ew, by rw [← rr.length]; exact hj, ?_⟩
            have pp := p3.st.setL hy hp (rr.set rv j)
            exact h3 σ ρ3 Z3 _ pp (sl3.post pp)
        · cases hS
      · cases hS
    · cases hS
  · exact h3.elim
theorem s_dpt (G : GoodS tabs F lv c E X) {eo ek : Expr} {p : Pos} {o k a : CE} (ho : chkE c o eo = true) (hk : chkE c k ek = true) (h : chkE c a e = true) (hl : isLc e = false) : PS X (.Assign [.Subscript eo ek p] e pos) (Ts tabs X E F (.dpt o k a)) := by
  have he := (li_e a lv c E X e G.toGood h).1
  have q1 := (li_e o lv c E X eo G.toGood ho).1
  have q2 := (li_e k lv c E X ek G.toGood hk).1
  refine PS.imp (ps_dput (by have := G.toGood.room.units; omega) q1 q2 he (swaps_no h hl _ _ _)) fun D σ H hh => ?_
  obtain ⟨ρ, Z, S, g, rs, sl, hh⟩ := hh
  simp only [exS] at hh
  refine tG_mono (sats_of (R1 := RelD) rs sl hh) fun v H1 ⟨ρ1, Z1, S1, dv, p1, r1, h1⟩ => tG_mono (sats_of (R1 := RelD) p1.st (sl.post p1) h1) fun x H2 ⟨ρ2, Z2, S2, dx, p2, r2, h2⟩ => ?_
  have sl2 := (sl.post p1).post p2
  refine tG_mono (sats_of (R1 := RelD) p2.st sl2 h2) fun y H3 ⟨ρ3, Z3, S3, dy, p3, r3, h3⟩ => ?_
  cases eq : putT dx dy dv S3 with
  | none => rw [eq] at h3; exact h3.elim
  | some S4 =>
    rw [eq] at h3
    unfold putT at eq
    split at eq
    · split at eq
      · rename_i kvs kk hs hkk
        split at eq
        · rename_i hz
          cases eq
          have rx := r2.mono p3.zm p3.pre
          cases rx with
          | ref hp =>
            obtain ⟨_, kvs', ek, rk⟩ := p3.st.ob _ _ _ hs hp
            obtain ⟨b, rfl, eb⟩ := tkey_rel p3.st r3 hkk
            have rv := (r1.mono p2.zm p2.pre).mono p3.zm p3.pre
            have pp := p3.st.setT hs hp (putKD_rel (k := kk) rv rk)
            exact ⟨_, _, rfl, DPut.t ek eb (by rw [← relK_len rk]; exact hz), h3 σ ρ3 Z3 _ pp ((sl2.post p3).post pp)⟩
        · cases eq
      · cases eq
    · cases eq
theorem s_adc (G : GoodS tabs F lv c E X) {i : Nat} {x : Str} {p gp q : Pos} {t1 t2 : Tg} {i1 i2 : CI} {k : CE} {kx tg iter tg1 iter1 : Expr} {sc : Scope} {jj : Nat}
    (h : chkE c (.dc2 t1 i1 t2 i2 k) (.DictComp kx (.Constant (.bool true) jj q) [⟨tg, iter, [], 0⟩, ⟨tg1, iter1, [], 0⟩] sc gp) = true) (ht : chkT c (.one i) (.Name x p) = true) (hx : c.sn.lookup x = some .local) (hln : (p.line == gp.line) = true) (hns : (sc.names.any fun (n, k) => n == x && (k == .local || k == .cell)) = false) :
    PS X (.Assign [.Name x p] (.DictComp kx (.Constant (.bool true) jj q) [⟨tg, iter, [], 0⟩, ⟨tg1, iter1, [], 0⟩] sc gp) pos) (Ts tabs X E F (.adc i (.dc2 t1 i1 t2 i2 k))) := by
  simp only [chkT, Bool.and_eq_true] at ht
  have hi : X.N[i]? = some x := by rw [G.N]; exact at_eq ht.1
  have hl : X.env.scope.names.lookup x = some .local := by rw [G.names]; exact hx
  have hsw : swapsWith (.DictComp kx (.Constant (.bool true) jj q) [⟨tg, iter, [], 0⟩, ⟨tg1, iter1, [], 0⟩] sc gp) (some (.Name x p)) pos.line X.env = pure true := by
    have ky : X.env.kindOf x = some .local := hl
    have hb : X.env.blockKind = .function := by unfold Env.blockKind; rw [G.kind]; rfl
    unfold swapsWith
    simp only [hb, ky, hns, Expr.pos, hln]
    rfl
  unfold chkE at h
  simp only [Bool.and_eq_true] at h
  obtain ⟨⟨⟨⟨⟨⟨⟨⟨⟨h1, h2⟩, h3⟩, h4⟩, h5⟩, h6⟩, h7⟩, h8⟩, h9⟩, h10⟩ := h
  have hv := own_app (eq_of_beq h3) (eq_of_beq h4)
  have G0 := G.toGood
  have ok := blk_ok G0 h2
  refine PS.imp (DcT.ps_setDc2 (us := ownT t2) (ga := gT X.K t1) (gb := gT X.K t2) (tv := tC (.bl true)) (tk := tG tabs X.mg E0 RelD (ev F k)) (wb := Ti tabs X E0 F i2) G.calm G.nd (by have := G0.room.units; omega) hi hl hsw (li_i i1 _ _ _ _ _ _ _ _ G0 h1 h5 h7) ok (fun i hi => (hv i).mpr (.inr hi))
    (fun s H C cl fp => pg_T (G0.blk ok.kind s H C cl fp) h7) (fun s H C cl fp => li_i i2 _ _ _ _ _ _ _ _ (G0.blk ok.kind s H C cl fp) h8 h6 h9) (fun s H C cl fp => pg_T (G0.blk ok.kind s H C cl fp) h9) (fun s H C cl fp => (li_e k _ _ _ _ _ (G0.blk ok.kind s H C cl fp) h10).1) (fun s H C cl fp => pe_bl) (okx_fold (chkI_ok h1) _) (okx_fold (chkI_ok h8))) fun D σ H hh => ?_
  have hr : tAsg (Te tabs X E F (.dc2 t1 i1 t2 i2 k)) (gT X.K (.one i)) D σ H := asg_reads (t := .one i) (by
    obtain ⟨ρ, Z, S, g, rs, sl, hh⟩ := hh
    simp only [exS] at hh
    exact ⟨ρ, Z, S, g, rs, sl, hh⟩)
  obtain ⟨ρ, Z, S, g, rs, sl, h⟩ := hr
  simp only [ev] at h
  exact dc2_reads hv (fun i => Iff.rfl) ⟨ρ, Z, S, g, rs, sl, h⟩
theorem s_dpk (G : GoodS tabs F lv c E X) {eo : Expr} {p p2 : Pos} {j} {k : Str} {o a : CE} (ho : chkE c o eo = true) (h : chkE c a e = true) (hl : isLc e = false) : PS X (.Assign [.Subscript eo (.Constant (.str k) j p2) p] e pos) (Ts tabs X E F (.dpk o k a)) := by
  have he := (li_e a lv c E X e G.toGood h).1
  have q1 := (li_e o lv c E X eo G.toGood ho).1
  refine PS.imp (ps_dput (by have := G.toGood.room.units; omega) q1 pe_str he (swaps_no h hl _ _ _)) fun D σ H hh => ?_
  obtain ⟨ρ, Z, S, g, rs, sl, hh⟩ := hh
  simp only [exS] at hh
  refine tG_mono (sats_of (R1 := RelD) rs sl hh) fun v H1 ⟨ρ1, Z1, S1, dv, p1, r1, h1⟩ => tG_mono (sats_of (R1 := RelD) p1.st (sl.post p1) h1) fun x H2 ⟨ρ2, Z2, S2, dx, p2, r2, h2⟩ => ?_
  have rv := r1.mono p2.zm p2.pre
  have sl2 := (sl.post p1).post p2
  cases eq : putK' dx k dv S2 with
  | none => rw [eq] at h2; exact h2.elim
  | some S3 =>
    rw [eq] at h2
    unfold putK' at eq
    split at eq
    · split at eq
      · rename_i kvs hs
        split at eq
        · rename_i hz
          cases eq
          cases r2 with
          | ref hp =>
            obtain ⟨_, kvs', ek, rk⟩ := p2.st.ob _ _ _ hs hp
            have pp := p2.st.setD hs hp (putKD_rel (k := .inr k) rv rk)
            refine ⟨_, _, rfl, DPut.k (k := .inr k) ek (by rw [← relK_len rk]; exact hz), h2 σ ρ2 Z2 _ pp (sl2.post pp)⟩
        · cases eq
      · cases eq
    · cases eq
theorem swapped_no3 {o i : Expr} {p p2 p3 : Pos} {x : Str} {k} (e : Expr) (env : Env) : swappedStores [.Tuple [.Subscript o i p, .Name x p2] k p3] e env = pure none := by
  cases e with
  | Tuple vs _ _ =>
    unfold swappedStores
    simp only
    split
    · rfl
    split
    · rfl
    split
    · rfl
    · rename_i h
      exfalso
      apply h
      simp only [List.filterMap_cons, List.filterMap_nil]
      split <;> rfl
  | _ => rfl
theorem s_stx (G : GoodS tabs F lv c E X) {eo ei : Expr} {p p2 p3 : Pos} {x : Str} {k} {o i a : CE} {j : Nat} (ho : chkE c o eo = true) (hi : chkE c i ei = true) (ht : chkT c (.one j) (.Name x p2) = true) (h : chkE c a e = true) (hl : isLc e = false) : PS X (.Assign [.Tuple [.Subscript eo ei p, .Name x p2] k p3] e pos) (Ts tabs X E F (.stx o i j a)) := by
  have he := (li_e a lv c E X e G.toGood h).1
  have q1 := (li_e o lv c E X eo G.toGood ho).1
  have q2 := (li_e i lv c E X ei G.toGood hi).1
  have ok := chkE_ok hi
  simp only [chkT, Bool.and_eq_true] at ht
  have hj : X.N[j]? = some x := by rw [G.N]; exact at_eq ht.1
  obtain ⟨l1, l2⟩ := G.toGood.store ht.2
  have hps : PGs X [.Subscript eo ei p, .Name x p2] _ := pgs_cons (pg_sub q1 q2 set_list (by intro v; cases ei <;> first | rfl | (cases ok; done))) (pgs_cons (pg_name G.nd hj l1 l2) pgs_nil)
  refine PS.imp (ps_asg he (pg_tup (n := 2) G.calm hps rfl rfl) (swaps_no1 h hl _ _ _) (swapped_no3 _ _) rfl) fun D σ H hh => ?_
  obtain ⟨ρ, Z, S, g, rs, sl, hh⟩ := hh
  simp only [exS] at hh
  refine tG_mono (sats_of (R1 := RelD) rs sl hh) fun v H1 ⟨ρ1, Z1, S1, dv, p1, r1, h1⟩ => ?_
  split at h1
  · rename_i v1 v2
    obtain ⟨pt, vs, rfl, hq, rr⟩ := rel_tup (K := X.K) p1.st r1
    obtain ⟨w1, w2, rfl, rw1, rw2⟩ := rels2 rr
    refine ⟨pt, _, rfl, hq, rfl, w1, _, rfl, ?_⟩
    refine tG_mono (sats_of (R1 := RelD) p1.st (sl.post p1) h1) fun xx H2 ⟨ρ2, Z2, S2, dx, p2, r2, h2⟩ =>
      tG_mono (sats_of (R1 := RelD) p2.st ((sl.post p1).post p2) h2) fun y H3 ⟨ρ3, Z3, S3, dy, p3, r3, h3⟩ => ?_
    have rv := (rw1.mono p2.zm p2.pre).mono p3.zm p3.pre
    have rv2 := (rw2.mono p2.zm p2.pre).mono p3.zm p3.pre
    have rx := r2.mono p3.zm p3.pre
    have sl3 := ((sl.post p1).post p2).post p3
    split at h3
    · rename_i S4 hS
      unfold stR at hS
      split at hS
      · split at hS
        · rename_i ys hy
          split at hS
          · rename_i jj hj
            cases hS
            cases rx with
            | ref hp =>
              obtain ⟨_, ws, ew, rr⟩ := p3.st.ob _ _ _ hy hp
              refine ⟨_, ws, _, jj, rfl, rel_int r3, ew, by rw [← rr.length]; exact hj, ?_⟩
              have pp := p3.st.setL hy hp (rr.set rv jj)
              refine ⟨w2, [], rfl, rfl, ?_⟩
              exact h3 _ ρ3 Z3 _ pp ((sl3.post pp).set (rv2.mono pp.zm pp.pre))
          · cases hS
        · cases hS
      · cases hS
    · exact h3.elim
  · exact h1.elim
theorem s_rai (G : GoodS tabs F lv c E X) {x m : Str} {j} {p p1 p2 : Pos} (hx : c.x.xs.contains x = true) (hg : glC c x = true) (hd : (x == ("__debug__" : Str)) = false) : PS X (.Raise (some (.Call (.Name x p) [.Constant (.str m) j p2] [] p1)) none pos) (Ts tabs X E F (.rai x)) := by
  obtain ⟨C, hm, hk, hq, h1, h2⟩ := G.xf.xs x (List.contains_iff_mem.mp hx)
  refine PS.imp (ps_raise G.calm G.tk (pmk_own PySem.F.excBase_ValueError hq hm hk (raises_own h1 h2) (G.gl hg) hd)) fun D σ H hh => ?_
  obtain ⟨ρ, Z, S, g, rs, sl, hh⟩ := hh
  simp only [exS] at hh
  exact hh (.ref C) none ρ Z H (Post.refl rs) ⟨hm, rfl⟩
theorem s_raiN (G : GoodS tabs F lv c E X) {x m : Str} {j} {p p1 p2 : Pos} (hx : c.x.xn.contains x = true) (hg : glC c x = true) (hd : (x == ("__debug__" : Str)) = false) (hml : m.length ≤ 1000) : PS X (.Raise (some (.Call (.Name x p) [.Constant (.str m) j p2] [] p1)) none pos) (Ts tabs X E F (.raiN x m)) := by
  obtain ⟨C, hm, T, ec⟩ := G.xf.xn x (List.contains_iff_mem.mp hx)
  refine PS.imp (ps_raise G.calm G.tk (ExS.pmk_ns T G.roomS (G.gl hg) hm (G.bi _ (by decide)) hml hd)) fun D σ H hh => ?_
  obtain ⟨ρ, Z, S, g, rs, sl, hh⟩ := hh
  simp only [exS] at hh
  intro d hd
  have po := rs.put (o := .xd [("name", V.str m)]) hd (fun q z => by cases z)
  exact hh (.ref C) (some d) ρ _ _ po ⟨hm, d, _, rfl, upd_same, .str m⟩
/-- what an except suite's answer asks -/
def retH (d : D) (R : V → Hp → Prop) (H : Hp) : Prop := match d with
  | .non => R .non H
  | .bl b => R (.bl b) H
  | .dct kvs => ∀ p, H p = none → R (.ref p) (upd H p (.dK (kvs.map entF)))
  | _ => False
theorem boot_isi : bootBuiltins "isinstance" = some (.builtin "isinstance") := by decide +kernel
theorem lookup_memS {α β : Type} [BEq α] [LawfulBEq α] {x : α} {b : β} : ∀ {l : List (α × β)}, l.lookup x = some b → (x, b) ∈ l
  | [], h => by cases h
  | (p1, p2) :: r, h => by
    rw [List.lookup_cons] at h
    split at h
    · rename_i hq
      cases h
      rw [eq_of_beq hq]; exact List.mem_cons_self
    · exact List.mem_cons_of_mem _ (lookup_memS h)
theorem hx_is {c : SC} {n y : Str} {tab : List (Str × Bool)} {e : Expr} (h : hxX c n (.is y tab) e = true) : ∃ fp np yp cp, e = .Call (.Name "isinstance" fp) [.Name n np, .Name y yp] [] cp ∧ glC c "isinstance" = true ∧ glC c y = true ∧ (y == ("__debug__" : Str)) = false ∧ ∀ p ∈ tab, c.x.xk.contains ((p.1, y), p.2) = true := by
  unfold hxX at h
  split at h
  all_goals try (cases h; done)
  all_goals try contradiction
  rename_i heq
  cases heq
  simp only [Bool.and_eq_true, Bool.not_eq_true', beq_iff_eq, List.all_eq_true, dbg] at h
  obtain ⟨⟨⟨⟨⟨⟨rfl, rfl⟩, rfl⟩, g1⟩, g2⟩, g3⟩, g4⟩ := h
  exact ⟨_, _, _, _, rfl, g1, g2, g3, g4⟩
theorem hx_not {c : SC} {n : Str} {a : HX} {e : Expr} (h : hxX c n (.not_ a) e = true) : ∃ e1 p, e = .UnaryOp .Not e1 p ∧ hxX c n a e1 = true := by
  unfold hxX at h
  split at h
  all_goals try (cases h; done)
  all_goals try contradiction
  rename_i heq
  cases heq
  exact ⟨_, _, rfl, h⟩
theorem hx_and {c : SC} {n : Str} {a b : HX} {e : Expr} (h : hxX c n (.and_ a b) e = true) : (∃ e1 e2 p, e = .BoolOp .And [e1, e2] p ∧ hxX c n a e1 = true ∧ hxX c n b e2 = true) ∨ (∃ e1 e2 e3 p, e = .BoolOp .And [e1, e2, e3] p ∧ hxX c n a e1 = true ∧ ∀ q, hxX c n b (.BoolOp .And [e2, e3] q) = true) := by
  unfold hxX at h
  split at h
  all_goals try (cases h; done)
  all_goals try contradiction
  · rename_i heq
    cases heq
    simp only [Bool.and_eq_true] at h
    exact .inl ⟨_, _, _, rfl, h.1, h.2⟩
  · rename_i heq
    cases heq
    simp only [Bool.and_eq_true] at h
    exact .inr ⟨_, _, _, _, rfl, h.1.1, fun q => by unfold hxX; rw [h.1.2, h.2]; rfl⟩
theorem hx_or {c : SC} {n : Str} {a b : HX} {e : Expr} (h : hxX c n (.or_ a b) e = true) : (∃ e1 e2 p, e = .BoolOp .Or [e1, e2] p ∧ hxX c n a e1 = true ∧ hxX c n b e2 = true) ∨ (∃ e1 e2 e3 p, e = .BoolOp .Or [e1, e2, e3] p ∧ hxX c n a e1 = true ∧ ∀ q, hxX c n b (.BoolOp .Or [e2, e3] q) = true) := by
  unfold hxX at h
  split at h
  all_goals try (cases h; done)
  all_goals try contradiction
  · rename_i heq
    cases heq
    simp only [Bool.and_eq_true] at h
    exact .inl ⟨_, _, _, rfl, h.1, h.2⟩
  · rename_i heq
    cases heq
    simp only [Bool.and_eq_true] at h
    exact .inr ⟨_, _, _, _, rfl, h.1.1, fun q => by unfold hxX; rw [h.1.2, h.2]; rfl⟩
/-- what is known of the field of the exception that a suite holds -/
def PV (pv : Option D) (dx : Option Addr) (H : Hp) : Prop := match pv with
  | none => dx = none
  | some (.str x) => ∃ dd, dx = some dd ∧ H dd = some (.xd [("name", V.str x)])
  | _ => False
def Wn (i : Nat) (a : Addr) (pv : Option D) (dx : Option Addr) (σ : L2.St) (H : Hp) : Prop := σ[i]? = some (some (V.ref a)) ∧ PV pv dx H
theorem PV.dict {pv : Option D} {dd : Addr} {H : Hp} (h : PV pv (some dd) H) : ∃ x, pv = some (.str x) ∧ H dd = some (.xd [("name", V.str x)]) := by
  unfold PV at h
  split at h
  · cases h
  · obtain ⟨d2, e1, e2⟩ := h
    cases e1
    exact ⟨_, rfl, e2⟩
  · exact h.elim
theorem PV.upd {pv : Option D} {dx : Option Addr} {H : Hp} {p : Addr} {o : HO} (h : PV pv dx H) (hp : H p = none) : PV pv dx (L2.upd H p o) := by
  cases pv with
  | none => exact h
  | some d =>
    cases d with
    | str x =>
      obtain ⟨d2, e1, e2⟩ := h
      refine ⟨d2, e1, ?_⟩
      rw [upd_ne (fun z => by rw [z, hp] at e2; cases e2)]
      exact e2
    | _ => exact h
theorem Wn.upd {i : Nat} {a : Addr} {pv : Option D} {dx : Option Addr} {σ : L2.St} {H : Hp} {p : Addr} {o : HO} (h : Wn i a pv dx σ H) (hp : H p = none) : Wn i a pv dx σ (L2.upd H p o) := ⟨h.1, h.2.upd hp⟩
theorem exr_pv {Z H : Hp} {ρ : List Addr} {pv : Option D} {dx : Option Addr} (h : match pv with
    | none => dx = none
    | some d => ∃ a v, dx = some a ∧ H a = some (.xd [("name", v)]) ∧ RelD Z ρ d v) (hp : pvOk pv = true) : PV pv dx H := by
  cases pv with
  | none => exact h
  | some d =>
    cases d with
    | str x =>
      obtain ⟨a, v, e1, e2, r⟩ := h
      rw [rel_str r] at e2
      exact ⟨a, e1, e2⟩
    | _ => cases hp
theorem hx_pe {c : SC} {X : Cx} {n nm : Str} {i : Nat} {a C : Addr} {oe : Obj} {pv : Option D} {dx : Option Addr} {pn : List (Addr × Obj)} (hN : X.N[i]? = some n) (hv : Vis X.env.scope n) (hdn : (n == ("__debug__" : Str)) = false) (hcn : (n == ("__classdict__" : Str)) = false) (gl : ∀ x, glC c x = true → Gl X x) (hbi : X.mg "isinstance" = none)
    (xf : XF c.x X.prog X.K X.mg) (hm : X.mg nm = some (.ref C)) (hz : Zc (.ref C) dx oe) (hf : ∃ vs, oe.data = .fields vs) :
    ∀ (x : HX) (e : Expr) (b : Bool), hxX c n x e = true → x.val nm = some b → PE (X.suite a ((a, oe) :: pn)) e (fun σ H Q => Wn i a pv dx σ H ∧ Q (.bl b) H) := by
  intro x
  induction x with
  | is y tab =>
    intro e b h hb
    obtain ⟨fp, np, yp, cp, rfl, g1, g2, g3, g4⟩ := hx_is h
    obtain ⟨C', v, cv, m1, ec, m2, r1, r2, kk⟩ := xf.xk _ (List.contains_iff_mem.mp (g4 _ (lookup_memS hb)))
    have m1 : X.mg nm = some (.ref C') := m1
    rw [hm] at m1
    cases m1
    have py : PE (X.suite a ((a, oe) :: pn)) (.Name y yp) (tC v) := by
      rcases m2 with m2 | ⟨m2, m3, m4⟩
      · exact pe_glob (gl _ g2) m2 r1 g3
      · exact pe_bltn (gl _ g2) m2 m3 r1 m4 g3
    cases dx with
    | none =>
      refine PE.imp (pe_callB (call_isE ec hz hf) (gl _ g1) hbi boot_isi (pa_cons (pe_var (i := i) hN hv hdn hcn) (pa_cons py pa_nil)) (by decide) (by decide)) fun σ H Q ⟨h1, h2⟩ => ?_
      exact ⟨_, h1.1, v, cv, b, rfl, r2, kk, h2⟩
    | some dd =>
      refine PE.imp (pe_callB (call_isD ec hz hf) (gl _ g1) hbi boot_isi (pa_cons (pe_var (i := i) hN hv hdn hcn) (pa_cons py pa_nil)) (by decide) (by decide)) fun σ H Q ⟨h1, h2⟩ => ?_
      obtain ⟨x', _, ea⟩ := h1.2.dict
      exact ⟨_, h1.1, v, cv, b, _, rfl, r2, kk, ea, h2⟩
  | not_ x ih =>
    intro e b h hb
    obtain ⟨e1, p, rfl, h⟩ := hx_not h
    obtain ⟨v, hv', rfl⟩ := Option.map_eq_some_iff.mp hb
    exact PE.imp (pe_not (ih _ _ h hv')) fun σ H Q ⟨h1, h2⟩ => ⟨h1, v, rfl, h2⟩
  | and_ x y ihx ihy =>
    intro e b h hb
    obtain ⟨va, hva, hb⟩ := Option.bind_eq_some_iff.mp hb
    rcases hx_and h with ⟨e1, e2, p, rfl, k1, k2⟩ | ⟨e1, e2, e3, p, rfl, k1, k2⟩
    · cases va with
      | false =>
        cases hb
        exact ⟨fun pins s σ H Q I ⟨h1, h2⟩ => BoolOp_and (thn ((ihx _ _ k1 hva).run pins s σ H (fun x H1 => x = .bl false ∧ H1 = H) I ⟨h1, rfl, rfl⟩) fun v s1 ⟨x, H1, I1, r1, q1, q2⟩ => by
          subst q1 q2
          cases r1
          exact wpAny_truthy_bool ⟨.bl false, _, I1, rfl, h2⟩)⟩
      | true => exact PE.imp (pe_and (ihx _ _ k1 hva) (pe_one (ihy _ _ k2 hb))) fun σ H Q ⟨h1, h2⟩ => ⟨h1, true, rfl, h1, h2⟩
    · cases va with
      | false =>
        cases hb
        exact ⟨fun pins s σ H Q I ⟨h1, h2⟩ => BoolOp_and (thn ((ihx _ _ k1 hva).run pins s σ H (fun x H1 => x = .bl false ∧ H1 = H) I ⟨h1, rfl, rfl⟩) fun v s1 ⟨x, H1, I1, r1, q1, q2⟩ => by
          subst q1 q2
          cases r1
          exact wpAny_truthy_bool ⟨.bl false, _, I1, rfl, h2⟩)⟩
      | true => exact PE.imp (pe_and (ihx _ _ k1 hva) (ihy _ _ (k2 p) hb)) fun σ H Q ⟨h1, h2⟩ => ⟨h1, true, rfl, h1, h2⟩
  | or_ x y ihx ihy =>
    intro e b h hb
    obtain ⟨va, hva, hb⟩ := Option.bind_eq_some_iff.mp hb
    rcases hx_or h with ⟨e1, e2, p, rfl, k1, k2⟩ | ⟨e1, e2, e3, p, rfl, k1, k2⟩
    · cases va with
      | true =>
        cases hb
        exact ⟨fun pins s σ H Q I ⟨h1, h2⟩ => BoolOp_or (thn ((ihx _ _ k1 hva).run pins s σ H (fun x H1 => x = .bl true ∧ H1 = H) I ⟨h1, rfl, rfl⟩) fun v s1 ⟨x, H1, I1, r1, q1, q2⟩ => by
          subst q1 q2
          cases r1
          exact wpAny_truthy_bool ⟨.bl true, _, I1, rfl, h2⟩)⟩
      | false => exact PE.imp (pe_or (ihx _ _ k1 hva) (pe_one (ihy _ _ k2 hb))) fun σ H Q ⟨h1, h2⟩ => ⟨h1, false, rfl, h1, h2⟩
    · cases va with
      | true =>
        cases hb
        exact ⟨fun pins s σ H Q I ⟨h1, h2⟩ => BoolOp_or (thn ((ihx _ _ k1 hva).run pins s σ H (fun x H1 => x = .bl true ∧ H1 = H) I ⟨h1, rfl, rfl⟩) fun v s1 ⟨x, H1, I1, r1, q1, q2⟩ => by
          subst q1 q2
          cases r1
          exact wpAny_truthy_bool ⟨.bl true, _, I1, rfl, h2⟩)⟩
      | false => exact PE.imp (pe_or (ihx _ _ k1 hva) (ihy _ _ (k2 p) hb)) fun σ H Q ⟨h1, h2⟩ => ⟨h1, false, rfl, h1, h2⟩
theorem pw_never {X : Cx} {e : Expr} : PW X e (fun _ _ _ => False) := ⟨fun _ _ _ _ _ _ _ h => h.elim⟩
theorem hx_pt {c : SC} {X : Cx} {n nm : Str} {i : Nat} {a C : Addr} {oe : Obj} {pv : Option D} {dx : Option Addr} {pn : List (Addr × Obj)} (hN : X.N[i]? = some n) (hv : Vis X.env.scope n) (hdn : (n == ("__debug__" : Str)) = false) (hcn : (n == ("__classdict__" : Str)) = false) (gl : ∀ x, glC c x = true → Gl X x) (hbi : X.mg "isinstance" = none)
    (xf : XF c.x X.prog X.K X.mg) (hm : X.mg nm = some (.ref C)) (hz : Zc (.ref C) dx oe) (hf : ∃ vs, oe.data = .fields vs) :
    ∀ (x : HX) (e : Expr) (b : Bool), hxX c n x e = true → x.val nm = some b → PT (X.suite a ((a, oe) :: pn)) e (fun σ H Q => Wn i a pv dx σ H ∧ Q b H) ∧ ((∃ op xs p, e = .BoolOp op xs p) → PW (X.suite a ((a, oe) :: pn)) e (fun σ H Q => Wn i a pv dx σ H ∧ Q b H)) := by
  have pe := hx_pe (c := c) (a := a) (pv := pv) (pn := pn) hN hv hdn hcn gl hbi xf hm hz hf
  generalize X.suite a ((a, oe) :: pn) = X' at pe ⊢
  intro x
  induction x with
  | is y tab =>
    intro e b h hb
    have hp := pe _ _ _ h hb
    obtain ⟨fp, np, yp, cp, rfl, _⟩ := hx_is h
    exact ⟨PT.imp (pt_val hp) fun σ H Q ⟨h1, h2⟩ => ⟨h1, b, rfl, h2⟩, fun ⟨_, _, _, z⟩ => by cases z⟩
  | not_ x ih =>
    intro e b h hb
    obtain ⟨e1, p, rfl, h⟩ := hx_not h
    obtain ⟨v, hv', rfl⟩ := Option.map_eq_some_iff.mp hb
    exact ⟨PT.imp (pt_not (ih _ _ h hv').1) fun σ H Q ⟨h1, h2⟩ => ⟨h1, h2⟩, fun ⟨_, _, _, z⟩ => by cases z⟩
  | and_ x y ihx ihy =>
    intro e b h hb
    obtain ⟨va, hva, hb⟩ := Option.bind_eq_some_iff.mp hb
    have fin : ∀ e, PW X' e (fun σ H Q => Wn i a pv dx σ H ∧ Q b H) → PT X' e (fun σ H Q => Wn i a pv dx σ H ∧ Q b H) ∧ ((∃ op xs p, e = .BoolOp op xs p) → PW X' e (fun σ H Q => Wn i a pv dx σ H ∧ Q b H)) := fun e q => ⟨q.pt, fun _ => q⟩
    rcases hx_and h with ⟨e1, e2, p, rfl, k1, k2⟩ | ⟨e1, e2, e3, p, rfl, k1, k2⟩
    · cases va with
      | false =>
        cases hb
        exact fin _ (PW.imp (pw_and (ihx _ _ k1 hva).1 pw_never) fun σ H Q ⟨h1, h2⟩ => ⟨h1, by simpa using h2⟩)
      | true => exact fin _ (PW.imp (pw_and (ihx _ _ k1 hva).1 (pw_and1 (ihy _ _ k2 hb).1)) fun σ H Q ⟨h1, h2⟩ => ⟨h1, by simpa using ⟨h1, h2⟩⟩)
    · cases va with
      | false =>
        cases hb
        exact fin _ (PW.imp (pw_and (ihx _ _ k1 hva).1 pw_never) fun σ H Q ⟨h1, h2⟩ => ⟨h1, by simpa using h2⟩)
      | true => exact fin _ (PW.imp (pw_and (ihx _ _ k1 hva).1 ((ihy _ _ (k2 p) hb).2 ⟨_, _, _, rfl⟩)) fun σ H Q ⟨h1, h2⟩ => ⟨h1, by simpa using ⟨h1, h2⟩⟩)
  | or_ x y ihx ihy =>
    intro e b h hb
    obtain ⟨va, hva, hb⟩ := Option.bind_eq_some_iff.mp hb
    have fin : ∀ e, PW X' e (fun σ H Q => Wn i a pv dx σ H ∧ Q b H) → PT X' e (fun σ H Q => Wn i a pv dx σ H ∧ Q b H) ∧ ((∃ op xs p, e = .BoolOp op xs p) → PW X' e (fun σ H Q => Wn i a pv dx σ H ∧ Q b H)) := fun e q => ⟨q.pt, fun _ => q⟩
    rcases hx_or h with ⟨e1, e2, p, rfl, k1, k2⟩ | ⟨e1, e2, e3, p, rfl, k1, k2⟩
    · cases va with
      | true =>
        cases hb
        exact fin _ (PW.imp (pw_or (ihx _ _ k1 hva).1 pw_never) fun σ H Q ⟨h1, h2⟩ => ⟨h1, by simpa using h2⟩)
      | false => exact fin _ (PW.imp (pw_or (ihx _ _ k1 hva).1 (pw_or1 (ihy _ _ k2 hb).1)) fun σ H Q ⟨h1, h2⟩ => ⟨h1, by simpa using ⟨h1, h2⟩⟩)
    · cases va with
      | true =>
        cases hb
        exact fin _ (PW.imp (pw_or (ihx _ _ k1 hva).1 pw_never) fun σ H Q ⟨h1, h2⟩ => ⟨h1, by simpa using h2⟩)
      | false => exact fin _ (PW.imp (pw_or (ihx _ _ k1 hva).1 ((ihy _ _ (k2 p) hb).2 ⟨_, _, _, rfl⟩)) fun σ H Q ⟨h1, h2⟩ => ⟨h1, by simpa using ⟨h1, h2⟩⟩)
theorem hk_bl {c : SC} {n : Str} {b : Bool} {e : Expr} (h : hkX c n (.bl b) e = true) : ∃ j p, e = .Constant (.bool b) j p := by
  cases e with
  | Constant k j p =>
    cases k with
    | bool b' =>
      have h : (b == b') = true := h
      rw [eq_of_beq h]
      exact ⟨j, p, rfl⟩
    | _ => cases h
  | _ => cases h
theorem hk_str {c : SC} {n x : Str} {e : Expr} (h : hkX c n (.str x) e = true) : ∃ j p, e = .Constant (.str x) j p := by
  cases e with
  | Constant k j p =>
    cases k with
    | str x' =>
      have h : (x == x') = true := h
      rw [eq_of_beq h]
      exact ⟨j, p, rfl⟩
    | _ => cases h
  | _ => cases h
theorem hk_nam {c : SC} {X : Cx} {n nm : Str} {i : Nat} {a C : Addr} {oe : Obj} {pv : Option D} {dx : Option Addr} {pn : List (Addr × Obj)} (hN : X.N[i]? = some n) (hv : Vis X.env.scope n) (hdn : (n == ("__debug__" : Str)) = false) (hcn : (n == ("__classdict__" : Str)) = false)
    (xf : XF c.x X.prog X.K X.mg) (hm : X.mg nm = some (.ref C)) (hz : Zc (.ref C) dx oe) (hf : ∃ vs, oe.data = .fields vs) :
    ∀ (tab : List Str) (v : Expr) (x : Str), hkX c n (.nam tab) v = true → HK.val nm pv (.nam tab) = some (.str x) → PE (X.suite a ((a, oe) :: pn)) v (fun σ H Q => Wn i a pv dx σ H ∧ Q (.str x) H) := by
  intro tab v x h hx
  simp only [HK.val] at hx
  split at hx
  · rename_i ht
    split at hx
    · rename_i y
      cases hx
      unfold hkX at h
      split at h
      all_goals try (cases h; done)
      all_goals try contradiction
      rename_i heq
      cases heq
      simp only [Bool.and_eq_true, beq_iff_eq, List.all_eq_true] at h
      obtain ⟨⟨rfl, rfl⟩, h3⟩ := h
      obtain ⟨C', m1, T, ec⟩ := xf.xn _ (List.contains_iff_mem.mp (h3 _ (List.contains_iff_mem.mp ht)))
      rw [hm] at m1
      cases m1
      refine PE.imp (pe_xf (cls := .ref C) ⟨ec.hg, ec.hk, ec.hs, ec.hd⟩ T.fnd hz hf (pe_var (i := i) hN hv hdn hcn)) fun σ H Q ⟨h1, h2⟩ => ?_
      obtain ⟨dd, e1, e2⟩ := h1.2
      exact ⟨_, h1.1, rfl, rfl, dd, _, _, e1, e2, by simp [List.lookup], h2⟩
    · cases hx
  · cases hx
/-- the pairs of a suite's dict -/
theorem hk_pps {c : SC} {X' : Cx} {n nm : Str} {i : Nat} {a : Addr} {pv : Option D} {dx : Option Addr} {pos : Pos} (pn : ∀ (tab : List Str) (v : Expr) (x : Str), hkX c n (.nam tab) v = true → HK.val nm pv (.nam tab) = some (.str x) → PE X' v (fun σ H Q => Wn i a pv dx σ H ∧ Q (.str x) H)) (pe : ∀ (x : HX) (e : Expr) (b : Bool), hxX c n x e = true → x.val nm = some b → PE X' e (fun σ H Q => Wn i a pv dx σ H ∧ Q (.bl b) H)) :
    ∀ {kvs : List (Str × HK)} {ks : List (Option Expr)} {vs : List Expr} {fs : List (Str × Fl)}, hksX c n kvs ks vs = true → hkv nm pv kvs = some fs → ∃ trs, PPs X' pos ks vs trs ∧ ks.all (·.isSome) = true ∧ ks.length = vs.length ∧ ks.length = kvs.length ∧ fs.map (·.1) = kvs.map (·.1) ∧ fs.length = kvs.length ∧
      ∀ σ H (Q : List (V × V) → Hp → Prop), Wn i a pv dx σ H → Q (fs.map fun q => (V.str q.1, q.2.v)) H → tPairs trs σ H Q
  | [], [], [], fs, _, h2 => by
    cases h2
    exact ⟨[], pps_nil, rfl, rfl, rfl, rfl, rfl, fun σ H Q _ q => q⟩
  | (k, h) :: r, some (.Constant (.str k') _ _) :: ks, v :: vs, fs, h1, h2 => by
    simp only [hksX, Bool.and_eq_true, beq_iff_eq] at h1
    obtain ⟨⟨rfl, h1⟩, h3⟩ := h1
    simp only [hkv] at h2
    obtain ⟨f, hf, h2⟩ := Option.bind_eq_some_iff.mp h2
    obtain ⟨fs', hfs, rfl⟩ := Option.map_eq_some_iff.mp h2
    obtain ⟨trs, q1, q2, q3, q4, q5, q6, q7⟩ := hk_pps pn pe h3 hfs
    have pv : PE X' v (fun σ H Q => Wn i a pv dx σ H ∧ Q f.v H) := by
      cases h with
      | hx x =>
        obtain ⟨b, hb, rfl⟩ := Option.map_eq_some_iff.mp hf
        exact pe _ _ _ h1 hb
      | bl b =>
        cases hf
        obtain ⟨j, p, rfl⟩ := hk_bl h1
        exact PE.imp pe_bl fun σ H Q ⟨_, q⟩ => q
      | str x =>
        cases hf
        obtain ⟨j, p, rfl⟩ := hk_str h1
        exact PE.imp pe_str fun σ H Q ⟨_, q⟩ => q
      | nam tab =>
        obtain ⟨x, rfl⟩ : ∃ x, f = .str x := by
          simp only [HK.val] at hf
          split at hf
          · split at hf
            · cases hf; exact ⟨_, rfl⟩
            · cases hf
          · cases hf
        exact pn tab v x h1 hf
    exact ⟨_, pps_cons pe_str pv q1, by simpa using q2, by simp [q3], by simp [q4], by simp [q5], by simp [q6], fun σ H Q hσ q => ⟨hσ, q7 σ H _ hσ q⟩⟩
theorem hb_kind {pv : Option D} : ∀ (h : HB) (nm : Str) (dv : D), h.val nm pv = some dv → (dv = .non) ∨ (∃ b, dv = .bl b) ∨ ∃ kvs, dv = .dct kvs
  | .non, _, _, h => by cases h; exact .inl rfl
  | .bl x, _, _, h => by obtain ⟨b, _, rfl⟩ := Option.map_eq_some_iff.mp h; exact .inr (.inl ⟨_, rfl⟩)
  | .dct k, _, _, h => by obtain ⟨b, _, rfl⟩ := Option.map_eq_some_iff.mp h; exact .inr (.inr ⟨_, rfl⟩)
  | .emp, _, _, h => by cases h; exact .inr (.inr ⟨_, rfl⟩)
  | .iff x a b, nm, dv, h => by
    obtain ⟨t, _, h⟩ := Option.bind_eq_some_iff.mp h
    cases t with
    | true => exact hb_kind a nm dv h
    | false => exact hb_kind b nm dv h
  | .fall, _, _, h => by cases h
/-- an except suite answers -/
theorem hb_run {c : SC} {X' : Cx} {n nm : Str} {i : Nat} {a : Addr} {pv : Option D} {dx : Option Addr} (pn : ∀ (tab : List Str) (v : Expr) (x : Str), hkX c n (.nam tab) v = true → HK.val nm pv (.nam tab) = some (.str x) → PE X' v (fun σ H Q => Wn i a pv dx σ H ∧ Q (.str x) H)) (pe : ∀ (x : HX) (e : Expr) (b : Bool), hxX c n x e = true → x.val nm = some b → PE X' e (fun σ H Q => Wn i a pv dx σ H ∧ Q (.bl b) H))
    (pt : ∀ (x : HX) (e : Expr) (b : Bool), hxX c n x e = true → x.val nm = some b → PT X' e (fun σ H Q => Wn i a pv dx σ H ∧ Q b H)) :
    ∀ (h : HB) (sts : List Stmt) (dv : D), hbX c n h sts = true → h.val nm pv = some dv → PSs X' sts (fun D σ H => Wn i a pv dx σ H ∧ retH dv D.rt H)
  | .non, sts, dv, hh, hv => by
    unfold hbX at hh
    split at hh
    all_goals try (cases hh; done)
    all_goals try contradiction
    rename_i heq1 heq
    cases hv
    exact PSs.imp (pss_one (ps_ret pe_non)) fun D σ H ⟨_, q⟩ => q
  | .bl x, sts, dv, hh, hv => by
    unfold hbX at hh
    split at hh
    all_goals try (cases hh; done)
    all_goals try contradiction
    rename_i heq1
    cases heq1
    obtain ⟨b, hb, rfl⟩ := Option.map_eq_some_iff.mp hv
    exact PSs.imp (pss_one (ps_ret (pe _ _ _ hh hb))) fun D σ H ⟨h1, q⟩ => ⟨h1, q⟩
  | .dct kvs, sts, dv, hh, hv => by
    unfold hbX at hh
    split at hh
    all_goals try (cases hh; done)
    all_goals try contradiction
    rename_i heq1
    cases heq1
    simp only [Bool.and_eq_true, Bool.not_eq_true', decide_eq_true_eq] at hh
    obtain ⟨⟨⟨h1, h2⟩, h3⟩, h4⟩ := hh
    obtain ⟨fs, hfs, rfl⟩ := Option.map_eq_some_iff.mp hv
    obtain ⟨trs, q1, q2, q3, q4, q5, q6, q7⟩ := hk_pps (pos := _) pn pe h1 hfs
    refine PSs.imp (pss_one (ps_ret (pe_disp q1 q2 q3 (by rintro rfl; cases kvs with | nil => cases h3 | cons a b => cases q4) (by omega)))) fun D σ H ⟨hσ, q⟩ => ?_
    intro p hp
    refine q7 σ _ _ (hσ.upd hp) ⟨upd_same, fs.map entF, by rw [List.map_map]; rfl, by rw [List.length_map]; omega, ?_⟩
    rw [merge_ent (by rw [List.nil_append, List.map_map]; exact nd_inr (by rw [q5]; exact h4)), List.nil_append, upd_upd]
    exact q p hp
  | .emp, sts, dv, hh, hv => by
    unfold hbX at hh
    split at hh
    all_goals try (cases hh; done)
    all_goals try contradiction
    cases hv
    refine PSs.imp (pss_one (ps_ret pe_dnewK)) fun D σ H ⟨hσ, q⟩ => ?_
    intro p hp
    exact q p hp
  | .iff x a' b', sts, dv, hh, hv => by
    unfold hbX at hh
    split at hh
    all_goals try (cases hh; done)
    all_goals try contradiction
    rename_i heq1
    cases heq1
    simp only [Bool.and_eq_true] at hh
    obtain ⟨⟨h1, h2⟩, h3⟩ := hh
    obtain ⟨t, ht, hv⟩ := Option.bind_eq_some_iff.mp hv
    cases t with
    | true =>
      rw [if_pos rfl] at hv
      have ha := hb_run pn pe pt a' _ dv h2 hv
      refine PSs.imp (pss_cons (ps_if (pt _ _ _ h1 ht) ha (pss_never)) pss_never) fun D σ H ⟨hσ, q⟩ => ?_
      exact ⟨hσ, by simpa using ⟨hσ, q⟩⟩
    | false =>
      rw [if_neg Bool.false_ne_true] at hv
      have hb := hb_run pn pe pt b' _ dv h3 hv
      refine PSs.imp (pss_cons (ps_if (pt _ _ _ h1 ht) (pss_never) pss_nil) hb) fun D σ H ⟨hσ, q⟩ => ?_
      exact ⟨hσ, by simpa [tNext] using ⟨hσ, q⟩⟩
  | .fall, sts, dv, hh, hv => by cases hv
theorem s_tri (G : GoodS tabs F lv c E X) {b : CSs} {y n : Str} {tab : List (Str × Bool)} {i : Nat} {h : HB} {body : List Stmt} {b0 : Stmt} {suite : List Stmt} {np pos' : Pos}
    (hb : ∀ (E' : XK) (X' : Cx), GoodS tabs F lv c E' X' → PSs X' body (Tss tabs X' E' F b)) (hgy : glC c y = true) (hdy : (y == ("__debug__" : Str)) = false) (hi : c.N[i]? = some n) (hln : c.sn.lookup n = some .local)
    (hdn : (n == ("__debug__" : Str)) = false) (hcn : (n == ("__classdict__" : Str)) = false) (hte : tab.isEmpty = false) (ht : ∀ p ∈ tab, c.x.xm.contains ((p.1, y), p.2) = true) (hh : hbX c n h (b0 :: suite) = true) :
    PS X (.Try body [.ExceptHandler (some (.Name y np)) (some n) (b0 :: suite) pos'] [] [] pos) (Ts tabs X E F (.tri b y tab i h)) := by
  obtain ⟨p0, hp0⟩ : ∃ p, p ∈ tab := by
    cases tab with
    | nil => cases hte
    | cons p r => exact ⟨p, List.mem_cons_self⟩
  obtain ⟨_, Dy, _, hDy, _⟩ := G.xf.xm _ (List.contains_iff_mem.mp (ht _ hp0))
  have hDy : X.mg y = some (.ref Dy) := hDy
  have hNm : Names X y (.ref Dy) := ⟨G.gl hgy, hdy, .inl hDy⟩
  have hNi : X.N[i]? = some n := by rw [G.N]; exact hi
  have hkl : X.env.kindOf n = some .local := by show X.env.scope.names.lookup n = _; rw [G.names]; exact hln
  have hvs : Vis X.env.scope n := .inl hkl
  let ts : Addr → Value → Option Addr → TS := fun a cls d => fun D σ H => ∃ (nm : Str) (C : Addr) (pv : Option Li.D), X.mg nm = some (.ref C) ∧ cls = .ref C ∧ Wn i a pv d σ H ∧ ∃ dv, h.val nm pv = some dv ∧ retH dv D.rt H
  refine PS.imp (ps_try_as (c := .ref Dy) (i := i) (ts := ts) (tb := fun W => tS tabs X.mg (fun cls d H => ∀ σ : L2.St, σ.length = X.N.length → W cls d σ H) (exSs F b)) G.stk G.frm G.nd hNi hkl hNm G.tk (fun W pn xe tk own => ?_) (fun a oe cls d pn hz hv => ?_)) fun D σ H hh => ?_
  · have tk' : Takes (X.tr pn xe) (fun cls d _ H => ∀ σ : L2.St, σ.length = X.N.length → W cls d σ H) := fun u s' ⟨a, B, sI, pins, σ, H, cls, d, e, I, nb, up, sky, na, os, ag, w⟩ => tk u s' ⟨a, B, sI, pins, σ, H, cls, d, e, I, nb, up, sky, na, os, ag, w σ I.len⟩
    have G' : GoodS tabs F lv c (fun cls d H => ∀ σ : L2.St, σ.length = X.N.length → W cls d σ H) (X.tr pn xe) :=
      { N := G.N, nd := G.nd, kind := G.kind, names := G.names, co := G.co, calm := G.calm, room := G.room, roomG := G.roomG, bi := G.bi, gi := G.gi, fns := G.fns, pass := passes_call tk' (fun _ _ _ _ h => h), tab := G.tab, own := own, stk := G.stk, frm := G.frm, tk := tk', xf := G.xf, roomS := G.roomS }
    exact hb _ _ G'
  · refine ⟨fun pins s σ H D I ⟨nm, C, pv, hm, hcl, hσ, dv, hv1, q⟩ => ?_⟩
    subst hcl
    have pe := hx_pe (c := c) (a := a) (pv := pv) (pn := pn) hNi hvs hdn hcn (fun _ => G.gl) (G.bi _ (by decide)) G.xf hm hz hv
    have pt := hx_pt (c := c) (a := a) (pv := pv) (pn := pn) hNi hvs hdn hcn (fun _ => G.gl) (G.bi _ (by decide)) G.xf hm hz hv
    have pnm := hk_nam (c := c) (a := a) (pv := pv) (pn := pn) hNi hvs hdn hcn G.xf hm hz hv
    exact (hb_run pnm pe (fun x e b h1 h2 => (pt x e b h1 h2).1) h _ dv hh hv1).run pins s σ H D I ⟨hσ, q⟩
  · obtain ⟨ρ, Z, S, g, rs, sl, hh⟩ := hh
    simp only [exS] at hh
    refine ⟨ρ, Z, S, g, rs, sl, ?_⟩
    show SatS tabs X.mg _ D ρ Z H (exSs F b g S)
    cases e : exSs F b g S with
    | nx g1 S1 => rw [e] at hh; exact hh
    | bk g1 S1 => rw [e] at hh; exact hh
    | ct g1 S1 => rw [e] at hh; exact hh
    | rt d1 S1 => rw [e] at hh; exact hh
    | stuck => rw [e] at hh; exact hh
    | exc x S1 =>
      rw [e] at hh
      simp only at hh
      intro cl dx ρ' Z' H' p ex σ' hl'
      obtain ⟨hm, hval⟩ := id ex
      have look : ∀ {bb : Bool}, tab.lookup x.nm = some bb → ∃ C, X.mg x.nm = some (.ref C) ∧ PySem.W.exmOne X.K (.ref C) (.ref Dy) = some bb := fun {bb} hq => by
        have hmem : (x.nm, bb) ∈ tab := lookup_memS hq
        obtain ⟨C, D2, m1, m2, m3⟩ := G.xf.xm _ (List.contains_iff_mem.mp (ht _ hmem))
        have m2 : X.mg y = some (.ref D2) := m2
        rw [hDy] at m2
        cases m2
        exact ⟨C, m1, m3⟩
      split at hh
      · rename_i hq
        obtain ⟨C, m1, m3⟩ := look hq
        rw [hm] at m1
        cases m1
        split at hh
        case isFalse => exact hh.elim
        rename_i hpv
        split at hh
        · rename_i dv hv1
          refine ⟨true, m3, fun _ a na => ?_, (fun z => by cases z)⟩
          have hi' : i < σ'.length := by rw [hl']; exact (List.getElem?_eq_some_iff.mp hNi).1
          refine ⟨x.nm, C, x.val, hm, rfl, ⟨by rw [List.getElem?_set_self hi'], exr_pv hval hpv⟩, dv, hv1, ?_⟩
          have hkind : (dv = .non) ∨ (∃ b, dv = .bl b) ∨ ∃ kvs, dv = .dct kvs := hb_kind h _ _ hv1
          rcases hkind with rfl | ⟨b, rfl⟩ | ⟨kvs, rfl⟩
          · exact hh .non ρ' Z' H' p .non
          · exact hh (.bl b) ρ' Z' H' p (.bl b)
          · intro q hq
            have po := p.st.put (o := .dK (kvs.map entF)) hq (fun q z => by cases z)
            exact hh (.ref q) _ _ _ (p.trans po) (.dct upd_same)
        · exact hh.elim
      · rename_i hq
        obtain ⟨C, m1, m3⟩ := look hq
        rw [hm] at m1
        cases m1
        exact ⟨false, m3, (fun z => by cases z), fun _ => hh _ _ _ _ _ p ex⟩
      · exact hh.elim
theorem s_triO (G : GoodS tabs F lv c E X) {b : CSs} {y : Str} {tab : List (Str × Bool)} {i : Nat} {body : List Stmt} {b0 : Stmt} {suite : List Stmt} {np pos' : Pos}
    (hb : ∀ (E' : XK) (X' : Cx), GoodS tabs F lv c E' X' → PSs X' body (Tss tabs X' E' F b)) (hgy : glC c y = true) (hdy : (y == ("__debug__" : Str)) = false)
    (hte : tab.isEmpty = false) (ht : ∀ p ∈ tab, c.x.xm.contains ((p.1, y), p.2) = true) (hh : hbX c y .non (b0 :: suite) = true) :
    PS X (.Try body [.ExceptHandler (some (.Name y np)) none (b0 :: suite) pos'] [] [] pos) (Ts tabs X E F (.tri b y tab i .non)) := by
  obtain ⟨p0, hp0⟩ : ∃ p, p ∈ tab := by
    cases tab with
    | nil => cases hte
    | cons p r => exact ⟨p, List.mem_cons_self⟩
  obtain ⟨_, Dy, _, hDy, _⟩ := G.xf.xm _ (List.contains_iff_mem.mp (ht _ hp0))
  have hDy : X.mg y = some (.ref Dy) := hDy
  have hNm : Names X y (.ref Dy) := ⟨G.gl hgy, hdy, .inl hDy⟩
  let ts : Addr → Value → Option Addr → TS := fun _ _ _ => fun D _ H => D.rt .non H
  refine PS.imp (ps_try_only (c := .ref Dy) (ts := ts) (tb := fun W => tS tabs X.mg (fun cls d H => ∀ σ : L2.St, σ.length = X.N.length → W cls d σ H) (exSs F b)) G.stk G.frm hNm G.tk (fun W pn xe tk own => ?_) (fun a oe cls d pn hz hv => ?_)) fun D σ H hh => ?_
  · have tk' : Takes (X.tr pn xe) (fun cls d _ H => ∀ σ : L2.St, σ.length = X.N.length → W cls d σ H) := fun u s' ⟨a, B, sI, pins, σ, H, cls, d, e, I, nb, up, sky, na, os, ag, w⟩ => tk u s' ⟨a, B, sI, pins, σ, H, cls, d, e, I, nb, up, sky, na, os, ag, w σ I.len⟩
    have G' : GoodS tabs F lv c (fun cls d H => ∀ σ : L2.St, σ.length = X.N.length → W cls d σ H) (X.tr pn xe) :=
      { N := G.N, nd := G.nd, kind := G.kind, names := G.names, co := G.co, calm := G.calm, room := G.room, roomG := G.roomG, bi := G.bi, gi := G.gi, fns := G.fns, pass := passes_call tk' (fun _ _ _ _ h => h), tab := G.tab, own := own, stk := G.stk, frm := G.frm, tk := tk', xf := G.xf, roomS := G.roomS }
    exact hb _ _ G'
  · refine ⟨fun pins s σ H D I q => ?_⟩
    unfold hbX at hh
    split at hh
    all_goals try (cases hh; done)
    all_goals try contradiction
    rename_i heq1 heq
    cases heq
    exact (pss_cons (ps_ret pe_non) pss_nil).run pins s σ H D I q
  · obtain ⟨ρ, Z, S, g, rs, sl, hh⟩ := hh
    simp only [exS] at hh
    refine ⟨ρ, Z, S, g, rs, sl, ?_⟩
    show SatS tabs X.mg _ D ρ Z H (exSs F b g S)
    cases e : exSs F b g S with
    | nx g1 S1 => rw [e] at hh; exact hh
    | bk g1 S1 => rw [e] at hh; exact hh
    | ct g1 S1 => rw [e] at hh; exact hh
    | rt d1 S1 => rw [e] at hh; exact hh
    | stuck => rw [e] at hh; exact hh
    | exc x S1 =>
      rw [e] at hh
      simp only at hh
      intro cl dx ρ' Z' H' p ex σ' hl'
      obtain ⟨hm, hval⟩ := id ex
      have look : ∀ {bb : Bool}, tab.lookup x.nm = some bb → ∃ C, X.mg x.nm = some (.ref C) ∧ PySem.W.exmOne X.K (.ref C) (.ref Dy) = some bb := fun {bb} hq => by
        have hmem : (x.nm, bb) ∈ tab := lookup_memS hq
        obtain ⟨C, D2, m1, m2, m3⟩ := G.xf.xm _ (List.contains_iff_mem.mp (ht _ hmem))
        have m2 : X.mg y = some (.ref D2) := m2
        rw [hDy] at m2
        cases m2
        exact ⟨C, m1, m3⟩
      split at hh
      · rename_i hq
        obtain ⟨C, m1, m3⟩ := look hq
        rw [hm] at m1
        cases m1
        split at hh
        case isFalse => exact hh.elim
        split at hh
        · rename_i dv hv1
          cases hv1
          exact ⟨true, m3, fun _ a na => hh .non ρ' Z' H' p .non, (fun z => by cases z)⟩
        · exact hh.elim
      · rename_i hq
        obtain ⟨C, m1, m3⟩ := look hq
        rw [hm] at m1
        cases m1
        exact ⟨false, m3, (fun z => by cases z), fun _ => hh _ _ _ _ _ p ex⟩
      · exact hh.elim
theorem s_ex (G : GoodS tabs F lv c E X) {a : CE} (h : chkE c a e = true) (hl : isLc e = false) : PS X (.Expr e pos) (Ts tabs X E F (.ex a)) := by
  refine PS.imp (ps_expr (li_e a lv c E X e G.toGood h).1 (swaps_no h hl _ _ _)) fun D σ H hh => ?_
  obtain ⟨ρ, Z, S, g, rs, sl, hh⟩ := hh
  simp only [exS] at hh
  exact tG_mono (sats_of (R1 := RelD) rs sl hh) fun v H1 ⟨ρ1, Z1, S1, dv, p1, r1, h1⟩ => h1 σ ρ1 Z1 H1 (Post.refl p1.st) (sl.post p1)
theorem s_doc {x : Str} {j} {p q : Pos} : PS X (.Expr (.Constant (.str x) j p) q) (Ts tabs X E F .pass) := PS.imp ps_doc fun D σ H ⟨ρ, Z, S, g, rs, sl, hh⟩ => by
  simp only [exS] at hh; exact hh σ ρ Z H (Post.refl rs) sl
theorem s_pass : PS X (.Pass pos) (Ts tabs X E F .pass) := PS.imp ps_pass fun D σ H ⟨ρ, Z, S, g, rs, sl, hh⟩ => by
  simp only [exS] at hh; exact hh σ ρ Z H (Post.refl rs) sl
theorem s_brk : PS X (.Break pos) (Ts tabs X E F .brk) := PS.imp ps_break fun D σ H ⟨ρ, Z, S, g, rs, sl, hh⟩ => by
  simp only [exS] at hh; exact hh σ ρ Z H (Post.refl rs) sl
theorem s_cnt : PS X (.Continue pos) (Ts tabs X E F .cnt) := PS.imp ps_continue fun D σ H ⟨ρ, Z, S, g, rs, sl, hh⟩ => by
  simp only [exS] at hh; exact hh σ ρ Z H (Post.refl rs) sl
theorem s_retN : PS X (.Return none pos) (Ts tabs X E F .retN) := PS.imp ps_retN fun D σ H ⟨ρ, Z, S, g, rs, sl, hh⟩ => by
  simp only [exS] at hh; exact hh .non ρ Z H (Post.refl rs) .non
theorem s_ret (G : GoodS tabs F lv c E X) {a : CE} (h : chkE c a e = true) : PS X (.Return (some e) pos) (Ts tabs X E F (.ret a)) := by
  refine PS.imp (ps_ret (li_e a lv c E X e G.toGood h).1) fun D σ H hh => ?_
  obtain ⟨ρ, Z, S, g, rs, sl, hh⟩ := hh
  simp only [exS] at hh
  exact tG_mono (sats_of (R1 := RelD) rs sl hh) fun v H1 ⟨ρ1, Z1, S1, dv, p1, r1, h1⟩ => h1 v ρ1 Z1 H1 (Post.refl p1.st) r1
theorem s_if {t : CE} {a b : CSs} {sa sb : List Stmt} (ht : PT X e (Tt tabs X E F t)) (ha : PSs X sa (Tss tabs X E F a)) (hb : PSs X sb (Tss tabs X E F b)) : PS X (.If e sa sb pos) (Ts tabs X E F (.iff t a b)) := by
  refine PS.imp (ps_if ht ha hb) fun D σ H hh => ?_
  obtain ⟨ρ, Z, S, g, rs, sl, hh⟩ := hh
  simp only [exS] at hh
  refine tG_mono (sats_of (R1 := RelB) rs sl hh) fun v H1 ⟨ρ1, Z1, S1, dv, p1, r1, h1⟩ => ?_
  cases (show dv = v from r1)
  split
  · rename_i ht; rw [if_pos ht] at h1; exact ⟨ρ1, Z1, S1, g, p1.st, sl.post p1, h1⟩
  · rename_i ht; rw [if_neg ht] at h1; exact ⟨ρ1, Z1, S1, g, p1.st, sl.post p1, h1⟩
/-- a turn's end within a loop -/
theorem turn_end {mg : Str → Option Value} {ρ : List Addr} {Z H : Hp} {D : Ends} {N : L2.St → Hp → Prop} {r : SR} {k : GE → Store → SR}
    (h : SatS tabs mg E D ρ Z H (match r with
      | .nx g2 S2 => k g2 S2
      | .ct g2 S2 => k g2 S2
      | .bk g2 S2 => .nx g2 S2
      | r => r))
    (hN : ∀ g2 S2 σ' ρ' Z' H', Post tabs ρ Z H ρ' Z' S2 H' → SlR Z' ρ' g2 σ' → SatS tabs mg E D ρ' Z' H' (k g2 S2) → N σ' H') :
    SatS tabs mg E { D with nx := N, ct := N, bk := D.nx } ρ Z H r := by
  cases r with
  | nx g2 S2 => exact fun σ' ρ' Z' H' p sl => hN g2 S2 σ' ρ' Z' H' p sl (h.trans p)
  | ct g2 S2 => exact fun σ' ρ' Z' H' p sl => hN g2 S2 σ' ρ' Z' H' p sl (h.trans p)
  | bk g2 S2 => exact h
  | rt d S2 => exact h
  | exc e S2 => exact h
  | stuck => exact h
theorem s_for (G : GoodS tabs F lv c E X) {t : Tg} {it : CI} {b : CSs} {sb : List Stmt} (hi : chkI c it e = true) (hit : itT it t = true) (ht : chkT c t tg = true) (hb : PSs X sb (Tss tabs X E F b)) : PS X (.For tg e sb [] pos) (Ts tabs X E F (.for_ t it b)) := by
  refine PS.imp (ps_for G.own G.calm (li_i it lv c c E X e tg t G.toGood hi hit ht) (pg_T G.toGood ht) hb (okx_fold (chkI_ok hi) _)) fun D σ H hh => ?_
  obtain ⟨ρ, Z, S, g, rs, sl, hh⟩ := hh
  simp only [exS] at hh
  refine tG_mono (sats_of (R1 := ItR tabs) rs sl hh) fun J H1 ⟨ρ1, Z1, S1, ⟨ys, Gd⟩, p1, it1, h1⟩ => ?_
  have it1 : ItS tabs J ys Gd ρ1 Z1 := it1
  have h1 : SatS tabs X.mg E D ρ1 Z1 H1 (forGo Gd t (exSs F b) ys g S1) := h1
  refine ⟨fun i m σ' H' => m + i = ys.length ∧ ∃ ρ' Z' S' g', Post tabs ρ1 Z1 H1 ρ' Z' S' H' ∧ SlR Z' ρ' g' σ' ∧ SatS tabs X.mg E D ρ' Z' H' (forGo Gd t (exSs F b) (ys.drop i) g' S'), ⟨ys.length, rfl, ρ1, Z1, S1, g, Post.refl p1.st, sl.post p1, h1⟩, ?_⟩
  intro i m σ' H' ⟨hm, ρ', Z', S', g', p, sl', hs⟩
  by_cases hi : i < ys.length
  · obtain ⟨x, hx⟩ : ∃ x, ys[i]? = some x := ⟨_, List.getElem?_eq_getElem hi⟩
    have hd : ys.drop i = x :: ys.drop (i + 1) := by
      rw [List.drop_eq_getElem_cons hi]
      rw [List.getElem?_eq_getElem hi] at hx
      cases hx; rfl
    rw [hd, forGo] at hs
    split at hs
    · rename_i hG
      obtain ⟨hgo, hyl⟩ := it1.go p.pre p.zm p.st hG hx
      refine .inr ⟨hgo, fun σ' H' => (m - 1) + (i + 1) = ys.length ∧ ∃ ρ' Z' S' g', Post tabs ρ1 Z1 H1 ρ' Z' S' H' ∧ SlR Z' ρ' g' σ' ∧ SatS tabs X.mg E D ρ' Z' H' (forGo Gd t (exSs F b) (ys.drop (i + 1)) g' S'), fun σ'' H'' w => ⟨m - 1, by omega, w⟩, fun v H2 hy => ?_⟩
      obtain ⟨Z2, p2, rv⟩ := hyl v H2 hy
      split at hs
      · rename_i g3 hg3
        refine gT_ok t p2.st rv hg3 ((sl'.post p2).x (P := fun _ => False)) fun σ3 sx _ => ?_
        have sl3 := sx.all fun i hi => hi.1
        refine ⟨ρ', Z2, S', g3, p2.st, sl3, turn_end (hs.trans p2) fun g4 S4 σ4 ρ4 Z4 H4 p4 sl4 h4 => ⟨by omega, ρ4, Z4, S4, g4, p.trans (p2.trans p4), sl4, h4⟩⟩
      · exact hs.elim
    · exact hs.elim
  · have hd : ys.drop i = [] := List.drop_eq_nil_of_le (by omega)
    rw [hd, forGo] at hs
    split at hs
    · rename_i hG
      have he : i = ys.length := by omega
      subst he
      exact .inl ⟨it1.stop p.pre p.zm p.st hG, hs σ' ρ' Z' H' (Post.refl p.st) sl'⟩
    · exact hs.elim
theorem s_whl (G : GoodS tabs F lv c E X) {n : Nat} {t : CE} {b : CSs} {sb : List Stmt} (ht : PT X e (Tt tabs X E F t)) (hb : PSs X sb (Tss tabs X E F b)) : PS X (.While e sb [] pos) (Ts tabs X E F (.whl n t b)) := by
  refine PS.imp (ps_while G.own ht hb) fun D σ H hh => ?_
  obtain ⟨ρ, Z, S, g, rs, sl, hh⟩ := hh
  simp only [exS] at hh
  refine ⟨fun m σ H => ∃ ρ Z S g, Rst tabs ρ Z S H ∧ SlR Z ρ g σ ∧ SatS tabs X.mg E D ρ Z H (whlGo (evT F t) (exSs F b) m g S), ⟨n, ρ, Z, S, g, rs, sl, hh⟩, fun m σ H ⟨ρ, Z, S, g, rs, sl, hw⟩ => ?_⟩
  cases m with
  | zero => rw [whlGo] at hw; exact hw.elim
  | succ m =>
    rw [whlGo] at hw
    refine tG_mono (sats_of (R1 := RelB) rs sl hw) fun v H1 ⟨ρ1, Z1, S1, dv, p1, r1, h1⟩ => ?_
    cases (show dv = v from r1)
    split
    · rename_i ht
      rw [if_pos ht] at h1
      exact ⟨fun σ H => ∃ ρ Z S g, Rst tabs ρ Z S H ∧ SlR Z ρ g σ ∧ SatS tabs X.mg E D ρ Z H (whlGo (evT F t) (exSs F b) m g S), fun σ' H' w => ⟨m, Nat.lt_succ_self m, w⟩, ρ1, Z1, S1, g, p1.st, sl.post p1, turn_end h1 fun g4 S4 σ4 ρ4 Z4 H4 p4 sl4 h4 => ⟨ρ4, Z4, S4, g4, p4.st, sl4, h4⟩⟩
    · rename_i ht; rw [if_neg ht] at h1; exact h1 σ ρ1 Z1 H1 (Post.refl p1.st) (sl.post p1)
def ipR : BOp → TIp
  | .add => fun x y H Q => ipI (fun i j => i + j) x y H Q ∨ rExt2 x y H Q
  | .sub => ipI fun i j => i - j
  | _ => fun _ _ _ _ => False
theorem ip_op (op : BOp) : PIp X (bopS op) (ipR op) := by
  cases op with
  | add =>
    intro pins s σ H x y v u Q I rx ry h
    rcases h with h | h
    · exact ip_add pins s σ H x y v u Q I rx ry h
    · exact iop_ext pins s σ H x y v u Q I rx ry h
  | sub => exact ip_sub
  | _ => intro _ _ _ _ _ _ _ _ _ _ _ _ h; exact h.elim
theorem s_aug (G : GoodS tabs F lv c E X) {i : Nat} {x : Str} {p : Pos} {op : BOp} {a : CE} (h : chkE c a e = true) (ht : chkT c (.one i) (.Name x p) = true) : PS X (.AugAssign (.Name x p) (bopS op) e pos) (Ts tabs X E F (.aug i op a)) := by
  simp only [chkT, Bool.and_eq_true] at ht
  have hi : X.N[i]? = some x := by rw [G.N]; exact at_eq ht.1
  obtain ⟨l1, l2⟩ := G.toGood.store ht.2
  refine PS.imp (ps_aug G.nd hi l1 (li_e a lv c E X e G.toGood h).1 (ip_op op) l2) fun D σ H hh => ?_
  obtain ⟨ρ, Z, S, g, rs, sl, hh⟩ := hh
  simp only [exS] at hh
  split at hh
  · rename_i dx hx
    obtain ⟨v, hv, rv⟩ := sl.2 i dx hx
    refine ⟨v, hv, tG_mono (sats_of (R1 := RelD) rs sl hh) fun y H1 ⟨ρ1, Z1, S1, dy, p1, r1, h1⟩ => ?_⟩
    unfold Li.augR at h1
    split at h1
    · rw [rel_int rv, rel_int r1]
      exact .inl ⟨_, _, rfl, rfl, h1 _ ρ1 Z1 H1 (Post.refl p1.st) ((sl.post p1).set (.int _))⟩
    · rw [rel_int rv, rel_int r1]
      exact ⟨_, _, rfl, rfl, h1 _ ρ1 Z1 H1 (Post.refl p1.st) ((sl.post p1).set (.int _))⟩
    · split at h1
      · rename_i xs ys hxa hyb
        split at h1
        · rename_i hz
          cases (rv.mono p1.zm p1.pre) with
          | ref hp =>
            cases r1 with
            | ref hq =>
              obtain ⟨_, ws, ew, rr⟩ := p1.st.ob _ _ _ hxa hp
              obtain ⟨_, ws2, ew2, rr2⟩ := p1.st.ob _ _ _ hyb hq
              have po := p1.st.setL hxa hp (rr.append rr2)
              exact .inr ⟨_, _, ws, ws2, rfl, rfl, ew, ew2, by rw [← rr.length, ← rr2.length]; exact hz, h1 _ _ _ _ po (((sl.post p1).post po).set (.ref (po.pre _ _ hp)))⟩
        · exact h1.elim
      · exact h1.elim
    · exact h1.elim
  · exact hh.elim
end
def PSok (tabs : List Addr) (F : Fn) (s : CS) : Prop := ∀ (lv : Nat) (c : SC) (E : XK) (X : Cx) (st : Stmt), GoodS tabs F lv c E X → chkS c s st = true → PS X st (Ts tabs X E F s)
def PSsok (tabs : List Addr) (F : Fn) (s : CSs) : Prop := ∀ (lv : Nat) (c : SC) (E : XK) (X : Cx) (st : List Stmt), GoodS tabs F lv c E X → chkSs c s st = true → PSs X st (Tss tabs X E F s)
section
variable {tabs : List Addr} {F : Fn}
theorem k_asg (t : Tg) (a : CE) : PSok tabs F (.asg t a) := by
  intro lv c E X st G h
  unfold chkS at h
  split at h
  all_goals try (cases h; done)
  all_goals try contradiction
  · rename_i heq
    cases heq
    simp only [Bool.and_eq_true] at h
    exact s_asg1 G h.1.1 h.1.2 h.2
  · rename_i heq
    cases heq
    simp only [Bool.and_eq_true, Bool.not_eq_true'] at h
    exact s_asgM G h.1.1.1 h.1.1.2 h.1.2 h.2
theorem k_dpt (o k a : CE) : PSok tabs F (.dpt o k a) := by
  intro lv c E X st G h
  unfold chkS at h
  split at h
  all_goals try (cases h; done)
  all_goals try contradiction
  rename_i heq
  cases heq
  simp only [Bool.and_eq_true, Bool.not_eq_true'] at h
  obtain ⟨⟨⟨h1, h2⟩, h3⟩, h4⟩ := h
  exact s_dpt G h1 h2 h3 h4
theorem k_adc (i : Nat) (a : CE) : PSok tabs F (.adc i a) := by
  intro lv c E X st G h
  unfold chkS at h
  split at h
  all_goals try (cases h; done)
  all_goals try contradiction
  rename_i heq
  cases heq
  simp only [Bool.and_eq_true, Bool.not_eq_true', decide_eq_true_eq] at h
  obtain ⟨⟨⟨⟨h1, h2⟩, h3⟩, h4⟩, h5⟩ := h
  exact s_adc G h1 h2 h3 h4 h5
theorem k_dpk (o : CE) (k : Str) (a : CE) : PSok tabs F (.dpk o k a) := by
  intro lv c E X st G h
  unfold chkS at h
  split at h
  all_goals try (cases h; done)
  all_goals try contradiction
  rename_i heq
  cases heq
  simp only [Bool.and_eq_true, Bool.not_eq_true'] at h
  obtain ⟨⟨⟨h1, h2⟩, h3⟩, h4⟩ := h
  obtain rfl := eq_of_beq h2
  exact s_dpk G h1 h3 h4
theorem k_st (o i a : CE) : PSok tabs F (.st o i a) := by
  intro lv c E X st G h
  unfold chkS at h
  split at h
  all_goals try (cases h; done)
  all_goals try contradiction
  rename_i heq
  cases heq
  simp only [Bool.and_eq_true, Bool.not_eq_true'] at h
  exact s_st G h.1.1.1 h.1.1.2 h.1.2 h.2
theorem k_aug (i : Nat) (op : BOp) (a : CE) : PSok tabs F (.aug i op a) := by
  intro lv c E X st G h
  unfold chkS at h
  split at h
  all_goals try (cases h; done)
  all_goals try contradiction
  rename_i heq
  cases heq
  simp only [Bool.and_eq_true] at h
  rw [opE_eq h.2]
  exact s_aug G h.1.1 h.1.2
theorem k_rai (x : Str) : PSok tabs F (.rai x) := by
  intro lv c E X st G h
  unfold chkS at h
  split at h
  all_goals try (cases h; done)
  all_goals try contradiction
  rename_i heq
  cases heq
  simp only [Bool.and_eq_true, Bool.not_eq_true', dbg] at h
  obtain ⟨⟨⟨h1, h2⟩, h3⟩, h4⟩ := h
  have := eq_of_beq h1
  subst this
  exact s_rai G h2 h3 h4
theorem k_raiN (x m : Str) : PSok tabs F (.raiN x m) := by
  intro lv c E X st G h
  unfold chkS at h
  split at h
  all_goals try (cases h; done)
  all_goals try contradiction
  rename_i heq
  cases heq
  simp only [Bool.and_eq_true, Bool.not_eq_true', dbg, decide_eq_true_eq] at h
  obtain ⟨⟨⟨⟨⟨h1, h2⟩, h3⟩, h4⟩, h5⟩, h6⟩ := h
  have := eq_of_beq h1
  subst this
  have := eq_of_beq h2
  subst this
  exact s_raiN G h3 h4 h5 h6
theorem ne_cons {l : List Stmt} (h : l.isEmpty = false) : ∃ b r, l = b :: r := by
  cases l with
  | nil => cases h
  | cons b r => exact ⟨b, r, rfl⟩
theorem k_tri {b : CSs} (y : Str) (tab : List (Str × Bool)) (i : Nat) (hB : HB) (hb : PSsok tabs F b) : PSok tabs F (.tri b y tab i hB) := by
  intro lv c E X st G h
  unfold chkS at h
  split at h
  all_goals try (cases h; done)
  all_goals try contradiction
  · rename_i heq
    cases heq
    simp only [Bool.and_eq_true, Bool.not_eq_true', dbg, cdi, decide_eq_true_eq, List.all_eq_true] at h
    obtain ⟨⟨⟨⟨⟨⟨⟨⟨⟨⟨⟨h1, h2⟩, h3⟩, h4⟩, h5⟩, h6⟩, h7⟩, h8⟩, h9⟩, h10⟩, h11⟩, h12⟩ := h
    have := eq_of_beq h2
    subst this
    obtain ⟨b0, rest, e5⟩ := ne_cons h5
    rw [e5] at h12 ⊢
    exact s_tri G (fun E' X' G' => hb lv c E' X' _ G' h1) h3 h4 h6 h7 h8 h9 h10 h11 h12
  · rename_i heq
    cases heq
    simp only [Bool.and_eq_true, Bool.not_eq_true', dbg, List.all_eq_true] at h
    obtain ⟨⟨⟨⟨⟨⟨⟨h1, h2⟩, h3⟩, h4⟩, h5⟩, h10⟩, h11⟩, h12⟩ := h
    have := eq_of_beq h2
    subst this
    obtain ⟨b0, rest, e5⟩ := ne_cons h5
    rw [e5] at h12 ⊢
    exact s_triO G (fun E' X' G' => hb lv c E' X' _ G' h1) h3 h4 h10 h11 h12
theorem k_stx (o i : CE) (j : Nat) (a : CE) : PSok tabs F (.stx o i j a) := by
  intro lv c E X st G h
  unfold chkS at h
  split at h
  all_goals try (cases h; done)
  all_goals try contradiction
  rename_i heq
  cases heq
  simp only [Bool.and_eq_true, Bool.not_eq_true'] at h
  obtain ⟨⟨⟨⟨h1, h2⟩, h3⟩, h4⟩, h5⟩ := h
  exact s_stx G h1 h2 h3 h4 h5
theorem k_ex (a : CE) : PSok tabs F (.ex a) := by
  intro lv c E X st G h
  unfold chkS at h
  split at h
  all_goals try (cases h; done)
  all_goals try contradiction
  rename_i heq
  cases heq
  simp only [Bool.and_eq_true, Bool.not_eq_true'] at h
  exact s_ex G h.1 h.2
theorem k_pass : PSok tabs F .pass := by
  intro lv c E X st G h
  unfold chkS at h
  split at h
  all_goals try (cases h; done)
  all_goals try contradiction
  · exact s_doc
  · exact s_pass
theorem k_brk : PSok tabs F .brk := by
  intro lv c E X st G h
  unfold chkS at h
  split at h
  all_goals try (cases h; done)
  all_goals try contradiction
  exact s_brk
theorem k_cnt : PSok tabs F .cnt := by
  intro lv c E X st G h
  unfold chkS at h
  split at h
  all_goals try (cases h; done)
  all_goals try contradiction
  exact s_cnt
theorem k_dead : PSok tabs F .dead := fun lv c E X st G h => PS.imp ps_never fun D σ H ⟨ρ, Z, S, g, rs, sl, hh⟩ => by simp only [exS] at hh; exact hh
theorem k_retN : PSok tabs F .retN := by
  intro lv c E X st G h
  unfold chkS at h
  split at h
  all_goals try (cases h; done)
  all_goals try contradiction
  exact s_retN
theorem k_ret (a : CE) : PSok tabs F (.ret a) := by
  intro lv c E X st G h
  unfold chkS at h
  split at h
  all_goals try (cases h; done)
  all_goals try contradiction
  rename_i heq
  cases heq
  exact s_ret G h
theorem k_if (t : CE) {a b : CSs} (ha : PSsok tabs F a) (hb : PSsok tabs F b) : PSok tabs F (.iff t a b) := by
  intro lv c E X st G h
  unfold chkS at h
  split at h
  all_goals try (cases h; done)
  all_goals try contradiction
  rename_i heq
  cases heq
  simp only [Bool.and_eq_true] at h
  exact s_if ((li_e t lv c E X _ G.toGood h.1.1.2).2 h.1.1.1) (ha lv c E X _ G h.1.2) (hb lv c E X _ G h.2)
theorem k_for (t : Tg) (it : CI) {b : CSs} (hb : PSsok tabs F b) : PSok tabs F (.for_ t it b) := by
  intro lv c E X st G h
  unfold chkS at h
  split at h
  all_goals try (cases h; done)
  all_goals try contradiction
  rename_i heq
  cases heq
  simp only [Bool.and_eq_true] at h
  exact s_for G h.1.1.1 h.1.1.2 h.1.2 (hb lv c E X _ G h.2)
theorem k_whl (n : Nat) (t : CE) {b : CSs} (hb : PSsok tabs F b) : PSok tabs F (.whl n t b) := by
  intro lv c E X st G h
  unfold chkS at h
  split at h
  all_goals try (cases h; done)
  all_goals try contradiction
  rename_i heq
  cases heq
  simp only [Bool.and_eq_true] at h
  exact s_whl G ((li_e t lv c E X _ G.toGood h.1.2).2 h.1.1) (hb lv c E X _ G h.2)
theorem k_nil : PSsok tabs F .nil := by
  intro lv c E X st G h
  cases st with
  | nil => exact PSs.imp pss_nil fun D σ H ⟨ρ, Z, S, g, rs, sl, hh⟩ => by simp only [exSs] at hh; exact hh σ ρ Z H (Post.refl rs) sl
  | cons _ _ => simp [chkSs] at h
theorem k_cons {s : CS} {r : CSs} (hs : PSok tabs F s) (hr : PSsok tabs F r) : PSsok tabs F (.cons s r) := by
  intro lv c E X st G h
  cases st with
  | nil => simp [chkSs] at h
  | cons x xs =>
    simp only [chkSs, Bool.and_eq_true] at h
    refine PSs.imp (pss_cons (hs lv c E X x G h.1) (hr lv c E X xs G h.2)) fun D σ H hh => tS_seq ?_
    obtain ⟨ρ, Z, S, g, rs, sl, hh⟩ := hh
    simp only [exSs] at hh
    exact ⟨ρ, Z, S, g, rs, sl, hh⟩
mutual
theorem li_s : ∀ s : CS, PSok tabs F s
  | .asg t a => k_asg t a
  | .st o i a => k_st o i a
  | .dpk o k a => k_dpk o k a
  | .dpt o k a => k_dpt o k a
  | .adc i a => k_adc i a
  | .aug i op a => k_aug i op a
  | .rai x => k_rai x
  | .raiN x m => k_raiN x m
  | .tri b y tab i h => k_tri y tab i h (li_ss b)
  | .stx o i j a => k_stx o i j a
  | .ex a => k_ex a
  | .iff t a b => k_if t (li_ss a) (li_ss b)
  | .for_ t it b => k_for t it (li_ss b)
  | .whl n t b => k_whl n t (li_ss b)
  | .ret a => k_ret a
  | .retN => k_retN
  | .pass => k_pass
  | .brk => k_brk
  | .cnt => k_cnt
  | .dead => k_dead
theorem li_ss : ∀ s : CSs, PSsok tabs F s
  | .nil => k_nil
  | .cons s r => k_cons (li_s s) (li_ss r)
end
end
end Li
end

section
set_option Elab.async false
set_option linter.all false
set_option maxRecDepth 100000
set_option maxHeartbeats 4000000
namespace Li
open PySem PySem.Spec PyProof.Rows L2 GX
open Classical
/-! ### a def keeps its promise -/
theorem rels_len {Z : Hp} {ρ : List Addr} {ds : List D} {vs : List V} (r : RelDs Z ρ ds vs) : vs.length = ds.length := r.length.symm
theorem sl_start {Z : Hp} {ρ : List Addr} {ds : List D} {vs : List V} (r : RelDs Z ρ ds vs) (N : List Str) : SlR Z ρ (ds.map some ++ List.replicate (N.length - ds.length) none) (L2.start N vs) := by
  unfold L2.start
  refine ⟨?_, fun i d e => ?_⟩
  · simp only [List.length_append, List.length_map, List.length_replicate, r.length]
  · by_cases hi : i < ds.length
    · rw [List.getElem?_append_left (by rw [List.length_map]; exact hi), List.getElem?_map] at e
      obtain ⟨d', hd, ed⟩ := Option.map_eq_some_iff.mp e
      cases ed
      obtain ⟨v, hv, rv⟩ := r.get hd
      exact ⟨v, by rw [List.getElem?_append_left (by rw [List.length_map, ← r.length]; exact hi), List.getElem?_map, hv]; rfl, rv⟩
    · rw [List.getElem?_append_right (by rw [List.length_map]; omega)] at e
      rw [List.getElem?_replicate] at e
      split at e <;> cases e
section
variable {P : Program} {w : World} {K : PySem.W.Frag} {mg : Str → Option Value} {base : Heap} {tabs : List Addr}
theorem spF_len {F : Fn} {f n : Nat} (h : ∀ ds S d S', F f ds S = .ok d S' → ds.length = n) (h2 : ∀ ds S e S', F f ds S = .exc e S' → ds.length = n) : ∀ vs H Q E, spF tabs mg F f vs H Q E → vs.length = n := by
  intro vs H Q E ⟨ρ, Z, S, ds, rs, rd, sat⟩
  rw [rels_len rd]
  cases e : F f ds S with
  | ok d S' => exact h ds S d S' e
  | exc x S' => exact h2 ds S x S' e
  | stuck => rw [e] at sat; exact sat.elim
theorem runD_len {F : Fn} {d : FD} {ds : List D} {S : Store} (h : runD F d ds S ≠ .stuck) : ds.length = d.np := by
  unfold runD at h
  split at h
  · assumption
  · exact absurd rfl h
theorem fn_li {x qual : Str} {params : Arguments} {body : List Stmt} {scope : Scope} {f : Addr} {fd : FuncData} {ps : List Str} {c : SC} {d : FD} {F F' : Fn} {i lv : Nat}
    (U : FunD K x qual params body scope [] [] f fd) (S : FnScope c.N ps scope) (hsn : c.sn = scope.names) (chk : chkSs c d.body body = true) (hnp : d.np = ps.length) (hnn : d.nn = c.N.length)
    (hF : ∀ ds S, F' i ds S = runD F d ds S) (hbi : ∀ x ∈ bNames, mg x = none) (hgi : ∀ x n, c.gi x = some n → ∃ t, mg x = some (.int n t))
    (hxf : XF c.x P K mg) (hfns : ∀ g y, c.ft g = some y → ∃ a fd ps, mg y = some (.ref a) ∧ PySem.W.keepIn K (.ref a) = true ∧ Binds K fd ps [] ∧ FnOk P w K mg base (L2.CX P w) lv a fd ps (spF tabs mg F g))
    (htab : c.gen = true → ∀ oc od fd' osl, K.lookup f = some ⟨oc, od, .func fd', osl⟩ → ∃ cd Pt, fd'.code = .ref cd ∧ GxR.TabB base mg cd Pt ∧ Pt ∈ tabs) :
    FnOk P w K mg base (L2.CX P w) (lv + 2) f fd ps (spF tabs mg F' i) := by
  obtain ⟨oc, od, dV, kV, doc, pm, an, cdv, ct, osl, rfl, lk, hcd, _, _⟩ := U.ex
  refine fn_of lk hcd S (spF_len (fun ds S' r S'' e => ?_) (fun ds S' r S'' e => ?_)) fun A outer s H vs Q E hr hsp => ?_
  · rw [← hnp]; rw [hF] at e; exact runD_len (by rw [e]; intro z; cases z)
  · rw [← hnp]; rw [hF] at e; exact runD_len (by rw [e]; intro z; cases z)
  · obtain ⟨ρ, Z, St, ds, rs, rd, sat⟩ := hsp
    rw [hF] at sat
    have tk : Takes (cxOf (L2.CX P w) P w K mg base c.N qual scope f cdv A outer s H E) (fun cls d _ H => E cls d H) := takes_of rfl rfl rfl rfl
    have G : GoodS tabs F lv c E (cxOf (L2.CX P w) P w K mg base c.N qual scope f cdv A outer s H E) :=
      { N := rfl, nd := S.nd, kind := S.kind, names := hsn.symm, co := fun _ _ => rfl, calm := rfl, room := hr.mono (Nat.le_succ _), roomG := fun _ => hr, bi := hbi, gi := hgi, fns := hfns, pass := passes_call tk (fun _ _ _ _ h => h),
        tab := fun hg => (htab hg _ _ _ _ lk), own := passes_of rfl, stk := rfl, frm := rfl, tk := tk, xf := hxf, roomS := hr }
    refine ⟨Tss tabs (cxOf (L2.CX P w) P w K mg base c.N qual scope f cdv A outer s H E) E F d.body, li_ss d.body lv c E _ body G chk, ρ, Z, St, _, rs, sl_start rd c.N, ?_⟩
    unfold runD at sat
    split at sat
    · rename_i hl
      rw [← hnn]
      cases e : exSs F d.body (ds.map some ++ List.replicate (d.nn - ds.length) none) St with
      | nx g S1 => rw [e] at sat; exact fun σ' ρ' Z' H' p _ => sat .non ρ' Z' H' p .non
      | rt v S1 => rw [e] at sat; exact sat
      | exc x S1 => rw [e] at sat; exact sat
      | bk g S1 => rw [e] at sat; exact sat.elim
      | ct g S1 => rw [e] at sat; exact sat.elim
      | stuck => rw [e] at sat; exact sat.elim
    · exact sat.elim
end
/-! ### the table of a program's defs -/
structure Ent where
  x : Str
  st : Stmt
  N : List Str
  ps : List Str
  d : FD
  gen : Bool
def Ent.dd (e : Ent) : He.DefD := ⟨(e.x, none), e.x, e.x, defArgs e.st, defBody e.st, defScope e.st, [], []⟩
def mkSC (tbl : List Ent) (iv : List (Str × Int)) (e : Ent) (xc : XC := noX) : SC := ⟨e.N, (defScope e.st).names, fun _ => true, fun i => (tbl[i]?).map Ent.x, fun x => iv.lookup x, e.gen, xc⟩
def scopeB (N P : List Str) (sc : Scope) : Bool := (match sc.kind with | .function => true | _ => false) && !sc.isCoroutine && !sc.isGenerator && decide N.Nodup && decide (N.take P.length = P) &&
  (P.all fun x => match sc.names.lookup x with | some .local => true | some .cell => true | _ => false) && (sc.names.all fun y => match y.2 with | .free => false | _ => true)
theorem scopeB_ok {N P : List Str} {sc : Scope} (h : scopeB N P sc = true) : FnScope N P sc := by
  unfold scopeB at h
  simp only [Bool.and_eq_true, Bool.not_eq_true'] at h
  obtain ⟨⟨⟨⟨⟨⟨h1, h2⟩, h3⟩, h4⟩, h5⟩, h6⟩, h7⟩ := h
  refine ⟨?_, h2, h3, of_decide_eq_true h4, of_decide_eq_true h5, fun x hx => ?_, fun y hy e => ?_⟩
  · split at h1
    · assumption
    · cases h1
  · have := List.all_eq_true.mp h6 x hx
    split at this
    · exact .inl (by assumption)
    · exact .inr (by assumption)
    · cases this
  · have := List.all_eq_true.mp h7 y hy
    rw [e] at this; cases this
def Ent.ok (tbl : List Ent) (iv : List (Str × Int)) (e : Ent) (xc : XC := noX) : Bool := chkSs (mkSC tbl iv e xc) e.d.body (defBody e.st) && scopeB e.N e.ps (defScope e.st) && e.d.np == e.ps.length && e.d.nn == e.N.length
noncomputable def run (tbl : List FD) : Nat → Fn
  | 0 => fun _ _ _ => .stuck
  | k + 1 => fun i ds S => match tbl[i]? with
    | some d => runD (run tbl k) d ds S
    | none => .stuck
/-- how its arguments bind -/
def Ent.Bd (e : Ent) : Prop := ∀ (kV doc pm : Value) (an : Option Addr) (cdv ct : Value) (us : List Value), us.length = e.ps.length → bindArgs (PySem.W.fnOf e.x e.x (defArgs e.st) (defBody e.st) (defScope e.st) .none kV doc pm an cdv ct) ⟨us, []⟩ = pure (e.ps.zip us)
section
variable {P : Program} {w : World} {K : PySem.W.Frag} {mg : Str → Option Value} {base : Heap} {tabs : List Addr}
theorem tbl_ok (tbl : List Ent) (iv : List (Str × Int)) (xc : XC) (hxf : XF xc P K mg) (hall : ∀ e ∈ tbl, e.ok tbl iv xc = true) (hbd : ∀ e ∈ tbl, e.Bd)
    (hdef : ∀ e ∈ tbl, ∃ fd, FunD K e.x e.x (defArgs e.st) (defBody e.st) (defScope e.st) [] [] (He.fAd K (e.x, none)) fd) (hglo : ∀ e ∈ tbl, mg e.x = some (.ref (He.fAd K (e.x, none))))
    (hbi : ∀ x ∈ bNames, mg x = none) (hgi : ∀ x n, iv.lookup x = some n → ∃ t, mg x = some (.int n t))
    (htab : ∀ e ∈ tbl, e.gen = true → GxR.TabB base mg (He.cT K (e.x, none)).1 (He.cT K (e.x, none)).2 ∧ (He.cT K (e.x, none)).2 ∈ tabs) :
    ∀ (k i : Nat) (e : Ent), tbl[i]? = some e → ∀ fd, FunD K e.x e.x (defArgs e.st) (defBody e.st) (defScope e.st) [] [] (He.fAd K (e.x, none)) fd → FnOk P w K mg base (L2.CX P w) (2 * k) (He.fAd K (e.x, none)) fd e.ps (spF tabs mg (run (tbl.map Ent.d) k) i) := by
  intro k
  induction k with
  | zero =>
    intro i e he fd U
    exact ⟨fun vs H Q E ⟨ρ, Z, S, ds, rs, rd, sat⟩ => sat.elim, fun A outer s H args us vs Q E hr h0 hb r ⟨ρ, Z, S, ds, rs, rd, sat⟩ => sat.elim⟩
  | succ k ih =>
    intro i e he fd U
    have hm := List.mem_of_getElem? he
    have hk := hall e hm
    unfold Ent.ok at hk
    simp only [Bool.and_eq_true] at hk
    obtain ⟨⟨⟨k1, k2⟩, k3⟩, k4⟩ := hk
    have hS : FnScope (mkSC tbl iv e xc).N e.ps (defScope e.st) := scopeB_ok k2
    refine fn_li (c := mkSC tbl iv e xc) (d := e.d) (F := run (tbl.map Ent.d) k) U hS rfl k1 (eq_of_beq k3) (eq_of_beq k4) (fun ds S => ?_) hbi hgi hxf (fun g y hy => ?_) (fun hg oc od fd' osl lk => ?_)
    · show (match (tbl.map Ent.d)[i]? with | some d => runD (run (tbl.map Ent.d) k) d ds S | none => .stuck) = _
      rw [List.getElem?_map, he]; rfl
    · have hy : (tbl[g]?).map Ent.x = some y := hy
      obtain ⟨e2, he2, rfl⟩ := Option.map_eq_some_iff.mp hy
      have hm2 := List.mem_of_getElem? he2
      obtain ⟨fd2, U2⟩ := hdef e2 hm2
      exact ⟨_, fd2, e2.ps, hglo e2 hm2, U2.kp, FunD.bindsN U2 (hbd e2 hm2), ih g e2 he2 fd2 U2⟩
    · obtain ⟨t1, t2⟩ := htab e hm hg
      obtain ⟨_, _, _, _, _, _, _, cdv, _, _, efd, lk2, hcd, _, _⟩ := U.ex
      obtain ⟨cd, hc⟩ := He.codeIn_ref hcd
      have e0 : fd' = fd := by rw [lk2] at lk; cases lk; rfl
      rw [e0]
      have e1 : fd.code = Value.ref cd := by rw [efd]; exact hc
      have e2 := He.codeOf_eq (p := (e.x, none)) lk2 e1
      refine ⟨cd, (He.cT K (e.x, none)).2, e1, ?_, t2⟩
      have e3 : (He.cT K (e.x, none)).1 = cd := e2
      rw [← e3]; exact t1
end
end Li
end

section
set_option Elab.async false
set_option linter.all false
set_option maxRecDepth 100000
set_option maxHeartbeats 4000000
namespace Li
open PySem PySem.Spec PyProof.Rows L2 GX
open Classical
def faOf (tbl : List Ent) (iv : List (Str × Int)) : List He.Fa := tbl.map (fun e => .glo e.x) ++ bNames.map .free ++ iv.map fun p => .int p.1 p.2
def tfOf (tbl : List Ent) : List He.Defn := (tbl.filter Ent.gen).map fun e => (e.x, none)
def noLists (K : PySem.W.Frag) : Bool := K.all fun p => match p.2.cls with
  | .type "list" => false
  | _ => true
theorem no_list {K : PySem.W.Frag} (h : noLists K = true) {H : Hp} {a : Addr} {xs : List V} (s : SqL K H a xs) : H a = some (.lst xs) ∨ ∃ o, H a = some (.frz o (.lst xs)) := by
  rcases s with s | ⟨o, its, n, lk, hc, _⟩
  · exact s
  · have := List.all_eq_true.mp h _ (He.lookup_mem lk)
    have hc : (a, o).2.cls = .type "list" := hc
    rw [hc] at this
    cases this
theorem lookup_memI {x : Str} {n : Int} : ∀ {iv : List (Str × Int)}, iv.lookup x = some n → (x, n) ∈ iv
  | [], h => by cases h
  | (y, m) :: r, h => by
    have h2 : (match x == y with | true => some m | false => r.lookup x) = some n := h
    cases q : (x == y) with
    | true =>
      rw [q] at h2
      cases h2
      rw [beq_iff_eq.mp q]; exact List.mem_cons_self
    | false =>
      rw [q] at h2
      exact List.mem_cons_of_mem _ (lookup_memI h2)
def cvB (K : PySem.W.Frag) (y : Str) : Option Value := if y == "ValueError" then (if (He.Fa.free y).ok K then some (.type "ValueError") else none) else (if (He.Fa.glo y).ok K then some (.ref (He.ga K y)) else none)
def excB (K : PySem.W.Frag) (D : Addr) : Bool :=
  He.eqO (PySem.W.findIn K (.ref D) "__getattribute__") (some (some (.builtin "BaseException.__getattribute__"))) && (He.eqO (PySem.W.findIn K (.ref D) "__getattr__") (some none) && (decide (PySem.W.subIn K (.ref D) (.type "BaseException") = some true) && (PySem.W.hasDictIn K D &&
  (He.eqO (PySem.W.findIn K (.ref D) "__class__") (some (some (.builtin "object.__class__"))) && (He.eqO (PySem.W.specialIn K (.builtin "object.__class__") "__get__") (some (some (.builtin "getset_descriptor.__get__"))) &&
  (decide (PySem.W.takesIn K (.builtin "object.__class__") = some true) && decide (PySem.W.mroIn K D (.type "object") = some true)))))))
theorem excB_ok {K : PySem.W.Frag} {D : Addr} (h : excB K D = true) : ExcC K D := by
  unfold excB at h
  simp only [Bool.and_eq_true, decide_eq_true_eq] at h
  obtain ⟨h1, h2, h3, h4, h5, h6, h7, h8⟩ := h
  exact ⟨He.eqO_ok h1, He.eqO_ok h2, h3, h4, He.eqO_ok h5, He.eqO_ok h6, h7, h8⟩
def xcB (x : XC) (K : PySem.W.Frag) : Bool :=
  (x.xs.all fun n => (He.Fa.glo n).ok K && (He.Fa.exc n).ok K) &&
  ((x.xm.all fun p => (He.Fa.glo p.1.1).ok K && ((He.Fa.glo p.1.2).ok K && (He.Fa.exm p.1.1 p.1.2 p.2).ok K)) &&
  (x.xk.all fun p => (He.Fa.glo p.1.1).ok K && (excB K (He.ga K p.1.1) && (match cvB K p.1.2 with
    | some cv => decide (PySem.W.kitOne K (.ref (He.ga K p.1.1)) cv = some p.2)
    | none => false))))
/-- the class at C has an __init__ that says super().__init__(f"..{name}"); self.name = name -/
def nsBody : List Stmt → Bool
  | [.Expr (.Call (.Attribute (.Call (.Name s0 _) [] [] _) i0 p2) [.JoinedStr [.Constant (.str m0) _ _, .FormattedValue (.Name n1 _) (.negSucc 0) none _] _] [] p7) _, .Assign [.Attribute (.Name s1 _) fl _] (.Name n2 _) _] =>
    s0 == "super" && (i0 == "__init__" && (decide (m0.length ≤ 1000) && (n1 == "name" && (s1 == "self" && (fl == "name" && (n2 == "name" && p2.endLine == p7.line))))))
  | _ => false
def nsPar : Arguments → Bool
  | ⟨[], [a0, a1], none, [], [], none, []⟩ => a0.arg == "self" && a1.arg == "name"
  | _ => false
def nsFd (file : Str) (K : PySem.W.Frag) (C : Addr) (fd : FuncData) : Bool :=
  (match fd.body with | .stmts b => nsBody b | _ => false) && (nsPar fd.params && ((match fd.scope.kind with | .function => true | _ => false) && (!fd.scope.isGenerator && (!fd.scope.isCoroutine &&
  ((fd.scope.names.all fun y => match y.2 with | .cell => false | _ => true) && (decide (fd.scope.names.lookup ("self" : Str) = some .local) && (decide (fd.scope.names.lookup ("name" : Str) = some .local) && (decide (fd.scope.names.lookup ("__class__" : Str) = some .free) && (decide (fd.scope.names.lookup ("super" : Str) = some .globalImplicit) &&
  ((match fd.defaults with | .none => true | _ => false) && (decide (fd.globals = mainGlobals) && (decide (fd.builtins = builtinsNs) &&
  ((match fd.closure.lookup ("__class__" : Str) with
    | some cc => (match K.lookup cc with
      | some ⟨_, _, .cell (some (.ref C')), _⟩ => C' == C
      | _ => false)
    | none => false) &&
  (PySem.W.codeIn K fd.code fd.qualname && (match fd.code with
    | .ref cda => (match K.lookup cda with
      | some ⟨_, _, .fields vs, _⟩ => (match (vs[2]? : Option Value) with
        | some (.str f _) => f == file
        | _ => false)
      | _ => false)
    | _ => false)))))))))))))))
/-- the class, made like a plain one, but for its __init__ -/
def oexB (K : PySem.W.Frag) (C : Addr) : Bool := match K.lookup C with
  | some ⟨.type "type", _, .cls cd, sl⟩ => (match cd.mro, sl.toList with
    | .ref C' :: bm, [_, _, _, _, some (.builtin n), _] => C' == C && (n == "ValueError.__new__" && (!cd.hasDel && (cd.hasDict && PySem.HandSPX.refsVE bm)))
    | _, _ => false)
  | _ => false
theorem oexB_ok {K : PySem.W.Frag} {C : Addr} (h : oexB K C = true) : ∃ nm q N bs bm sn sub ab col dd k0 k1 k2 k3 k5, K.lookup C = some (excClassObj nm q C N bs bm true sn sub ab col dd k0 k1 k2 k3 k5 "ValueError.__new__") ∧ PySem.HandSPX.refsVE bm = true := by
  unfold oexB at h
  split at h
  · rename_i dd cd sl ho
    split at h
    · rename_i C' bm k0 k1 k2 k3 n k5 hm hs
      simp only [Bool.and_eq_true, beq_iff_eq, Bool.not_eq_true'] at h
      obtain ⟨rfl, rfl, hdel, hdct, hok⟩ := h
      obtain ⟨nm, bs, mro, ns, qn, hd, sn, sub, ab, col, del⟩ := cd
      dsimp only at hm hdel hdct hok
      subst hm hdel hdct
      have hsl : sl = #[k0, k1, k2, k3, some (.builtin "ValueError.__new__"), k5] := by
        obtain ⟨l⟩ := sl
        simp only at hs
        rw [hs]
      subst hsl
      exact ⟨nm, qn, ns, bs, bm, sn, sub, ab, col, dd, k0, k1, k2, k3, k5, ho, hok⟩
    · cases h
  · cases h
def nsB (file : Str) (K : PySem.W.Frag) (C : Addr) : Bool :=
  oexB K C && (He.eqO (PySem.W.findIn K (.ref C) "__setattr__") (some (some (.builtin "object.__setattr__"))) && (decide (PySem.W.subIn K (.ref C) (.type "BaseException") = some true) && (decide (PySem.W.typeIn K (.ref C) = some (.type "type")) && (PySem.W.keepIn K (.ref C) &&
  (He.eqO (PySem.W.findIn K (.ref C) "name") (some none) && (He.eqO (PySem.W.nsIn K cStatics "thirdparty.any") (some none) && (He.eqO (PySem.W.ks_superIn K C C "__init__") (some (some (.builtin "ValueError.__init__"))) &&
  (decide (PySem.W.subIn K (.ref C) (.type "ValueError") = some true) && (decide (PySem.W.mroIn K C (.ref C) = some true) &&
  (match PySem.W.findIn K (.ref C) "__init__" with
    | some (some (.ref f)) => (match K.lookup f with
      | some ⟨.type "function", _, .func fd, _⟩ => nsFd file K C fd
      | _ => false)
    | _ => false))))))))))
theorem nsBody_ok {b : List Stmt} (h : nsBody b = true) : ∃ (p0 p1 p2 p3 p4 p5 p6 p7 p8 p9 p10 p11 p12 : Pos) (m0 : Str) (j : Nat), m0.length ≤ 1000 ∧ (p2.endLine == p7.line) = true ∧ (p12.line == p12.line) = true ∧ b = [.Expr (.Call (.Attribute (.Call (.Name "super" p0) [] [] p1) "__init__" p2) [.JoinedStr [.Constant (.str m0) j p3, .FormattedValue (.Name "name" p4) (-1) none p5] p6] [] p7) p8,
    .Assign [.Attribute (.Name "self" p9) "name" p10] (.Name "name" p11) p12] := by
  unfold nsBody at h
  split at h
  · simp only [Bool.and_eq_true, beq_iff_eq, decide_eq_true_eq] at h
    obtain ⟨rfl, rfl, h3, rfl, rfl, rfl, rfl, h8⟩ := h
    exact ⟨_, _, _, _, _, _, _, _, _, _, _, _, _, _, _, h3, by simp [h8], by simp, rfl⟩
  · cases h
theorem nsPar_ok {ar : Arguments} (h : nsPar ar = true) : ∃ a0 a1 : Arg, a0.arg = "self" ∧ a1.arg = "name" ∧ ar = ⟨[], [a0, a1], none, [], [], none, []⟩ := by
  unfold nsPar at h
  split at h
  · simp only [Bool.and_eq_true, beq_iff_eq] at h
    exact ⟨_, _, h.1, h.2, rfl⟩
  · cases h
theorem nsFd_ok {P : Program} {file : Str} {K : PySem.W.Frag} {C fI : Addr} {fd : FuncData} (hf : (P.main.file == file) = true) (h : nsFd file K C fd = true) : ExS.NsF P K C fI fd := by
  unfold nsFd at h
  simp only [Bool.and_eq_true, Bool.not_eq_true', decide_eq_true_eq] at h
  obtain ⟨h1, h2, h3, h4, h5, h6, h7, h8, h9, h10, h11, h12, h13, h14, h15, h16⟩ := h
  refine ⟨?_, nsPar_ok h2, ?_, h4, h5, fun y hy e => ?_, h7, h8, h9, h10, ?_, h12, h13, ?_, ?_⟩
  · split at h1
    · rename_i b hb
      obtain ⟨p0, p1, p2, p3, p4, p5, p6, p7, p8, p9, p10, p11, p12, m0, j, q1, q2, q3, q4⟩ := nsBody_ok h1
      exact ⟨p0, p1, p2, p3, p4, p5, p6, p7, p8, p9, p10, p11, p12, m0, j, q1, q2, q3, by rw [hb, q4]⟩
    · cases h1
  · split at h3
    · assumption
    · cases h3
  · have := List.all_eq_true.mp h6 y hy
    rw [e] at this; cases this
  · split at h11
    · assumption
    · cases h11
  · split at h14
    · rename_i cc hcc
      split at h14
      · rename_i cl cld C' csl hl
        have := eq_of_beq h14
        subst this
        exact ⟨cc, hcc, _, _, _, hl⟩
      · cases h14
    · cases h14
  · split at h16
    · rename_i cda hcd
      split at h16
      · rename_i ccl cdd vs ccs hl
        split at h16
        · rename_i f tf hv
          have := eq_of_beq h16
          subst this
          exact ⟨cda, _, _, _, vs, f, tf, hcd, h15, hl, hv, hf⟩
        · cases h16
      · cases h16
    · cases h16
theorem nsB_ok {P : Program} {file : Str} {K : PySem.W.Frag} {C : Addr} (hf : (P.main.file == file) = true) (ht : (P.main.scope.names.lookup ("super" : Str)).isSome = false) (h : nsB file K C = true) : ExS.NsC P K C := by
  unfold nsB at h
  simp only [Bool.and_eq_true, decide_eq_true_eq] at h
  obtain ⟨h1, h2, h3, h4, h5, h6, h7, h8, h9, h10, h11⟩ := h
  refine ⟨⟨oexB_ok h1, He.eqO_ok h2, h3, h4, h5⟩, He.eqO_ok h6, He.eqO_ok h7, He.eqO_ok h8, h9, h10, ht, ?_⟩
  split at h11
  · rename_i f hfi
    split at h11
    · rename_i od fd osl hl
      exact ⟨f, fd, od, osl, hfi, hl, nsFd_ok hf h11⟩
    · cases h11
  · cases h11
/-- what is asked of the program for such classes -/
def xnP (x : XC) (P : Program) : Prop := x.xn = [] ∨ ((P.main.file == x.file) = true ∧ (P.main.scope.names.lookup ("super" : Str)).isSome = false)
def xnB (x : XC) (K : PySem.W.Frag) : Bool := x.xn.all fun n => (He.Fa.glo n).ok K && (nsB x.file K (He.ga K n) && excB K (He.ga K n))
def noListsX (x : XC) (K : PySem.W.Frag) : Bool := noLists K && (xcB x K && xnB x K)
theorem xcB_ok {x : XC} {P : Program} {K : PySem.W.Frag} {h : Heap} {mg : Str → Option Value} (KX : K.In h) (G : h.Ns mainGlobals mg) (hb : xcB x K = true) (hn : xnB x K = true) (hP : xnP x P) : XF x P K mg := by
  unfold xcB at hb
  simp only [Bool.and_eq_true, List.all_eq_true] at hb
  obtain ⟨h1, h2, h3⟩ := hb
  refine ⟨fun n hx => ?_, fun n hn => ?_, fun p hp => ?_, fun p hp => ?_⟩
  · rcases hP with hP | ⟨p1, p2⟩
    · rw [hP] at hx; cases hx
    · have := List.all_eq_true.mp hn n hx
      simp only [Bool.and_eq_true] at this
      exact ⟨_, He.glo_ok KX G this.1, nsB_ok p1 p2 this.2.1, excB_ok this.2.2⟩
  · obtain ⟨a, b⟩ := h1 n hn
    unfold He.Fa.ok at b
    simp only [Bool.and_eq_true, decide_eq_true_eq] at b
    exact ⟨_, He.glo_ok KX G a, b.2.1, b.1, b.2.2.1, b.2.2.2⟩
  · obtain ⟨a, b, c⟩ := h2 p hp
    unfold He.Fa.ok at c
    exact ⟨_, _, He.glo_ok KX G a, He.glo_ok KX G b, of_decide_eq_true c⟩
  · obtain ⟨a, b, c⟩ := h3 p hp
    split at c
    · rename_i cv hcv
      unfold cvB at hcv
      split at hcv
      · rename_i hy
        split at hcv
        · rename_i hf
          cases hcv
          have hy := eq_of_beq hy
          refine ⟨_, .ty "ValueError", _, He.glo_ok KX G a, excB_ok b, .inr ⟨He.free_ok KX G hf, ?_, ?_⟩, rfl, fun u r => r, of_decide_eq_true c⟩
          · rw [hy]; exact boot_ValueError
          · rw [hy]; decide
        · cases hcv
      · split at hcv
        · rename_i hf
          cases hcv
          exact ⟨_, .ref _, _, He.glo_ok KX G a, excB_ok b, .inl (He.glo_ok KX G hf), rfl, fun u r => r, of_decide_eq_true c⟩
        · cases hcv
    · cases c
/-! the head's observation with the statics' dict beside -/
def kY (n : Nat) (g : Addr → Option Obj) : PySem.W.Frag := He.frT g (cStatics :: He.asD g n)
def obsY (n : Nat) (fa : List He.Fa) (fn : List He.DefD) (ts : List He.Tab) (tf : List He.Defn) (ex : PySem.W.Frag → Bool) (g : Addr → Option Obj) : He.AlX := (He.obsT fa fn ts (kY n g), ex (kY n g) && He.tabsB g tf (kY n g))
theorem tabsY {g : Addr → Option Obj} {tf : List He.Defn} {K : PySem.W.Frag} (h : He.tabsB g tf K = true) : ∀ p ∈ tf, PySem.W.codeHdIn K (He.cT K p).1 (He.cT K p).2 = true ∧ ∃ o, g (He.cT K p).2 = some o ∧ He.emptyTab o = true := fun p hp => by
  have := List.all_eq_true.mp h p hp
  rw [Bool.and_eq_true] at this
  refine ⟨this.1, ?_⟩
  have h2 := this.2
  split at h2
  · exact ⟨_, by assumption, h2⟩
  · cases h2
theorem saysY {n : Nat} {fa : List He.Fa} {fn : List He.DefD} {ts : List He.Tab} {tf : List He.Defn} {ex : PySem.W.Frag → Bool} {w : World} {h : Heap} (e : obsY n fa fn ts tf ex h.get? = He.valX fn ts w) : He.SaysX fa fn ts tf ex w h (kY n h.get?) := by
  have e1 : He.obsT fa fn ts (kY n h.get?) = He.valT fn ts w := congrArg (fun z : He.AlX => z.1) e
  have e2 : (ex (kY n h.get?) && He.tabsB h.get? tf (kY n h.get?)) = true := congrArg (fun z : He.AlX => z.2) e
  rw [Bool.and_eq_true] at e2
  have ht := tabsY e2.2
  refine { t := e1, more := e2.1, hd := fun p hp => (ht p hp).1, out := fun p hp => ?_, empty := fun p hp => ?_ }
  · obtain ⟨_, o, q, z⟩ := ht p hp
    exact He.frT_none q z
  · obtain ⟨_, o, q, z⟩ := ht p hp
    rw [q, He.emptyTab_eq z]
def hookY (n : Nat) (fa : List He.Fa) (fn : List He.DefD) (ts : List He.Tab) (tf : List He.Defn) (ex : PySem.W.Frag → Bool) : PySem.W.Hook where
  α := He.AlX
  obs := fun s => obsY n fa fn ts tf ex s.heap.get?
  val := fun w => He.valX fn ts w
  says := fun w h => ∃ K : PySem.W.Frag, K.In h ∧ He.SaysX fa fn ts tf ex w h K
  of := fun _ _ e => ⟨_, He.frT_in, saysY e⟩
  keeps := fun _ _ _ ⟨K, hK, c⟩ k => ⟨K, PySem.W.Frag.In.keeps hK k, { t := c.t, more := c.more, hd := c.hd, out := c.out, empty := fun p hp => k _ _ (c.empty p hp) }⟩
theorem obsY_eq {n : Nat} {fa : List He.Fa} {fn : List He.DefD} {ts : List He.Tab} {tf : List He.Defn} {ex : PySem.W.Frag → Bool} {g : Addr → Option Obj} {s : Shared} (h : ∀ a, g a = s.heap.get? a) : obsY n fa fn ts tf ex g = (hookY n fa fn ts tf ex).obs s := by
  have e : g = s.heap.get? := funext h
  subst e; rfl
theorem law_endX {mo : PySem.W.Frag → Bool} {xc : XC} {l : PySem.W.OpenLaw} {w : World} {K : PySem.W.Frag} {h : Heap} {mg : Str → Option Value} {fa : Addr} {x : Str} (tbl : List Ent) (iv : List (Str × Int)) (k iL : Nat) (eL : Ent) (heL : tbl[iL]? = some eL) (hps : eL.ps = [x])
    (KX : K.In h) (G : h.Ns mainGlobals mg) (hfa : mg eL.x = some (.ref fa)) (c : He.SaysX (faOf tbl iv) (tbl.map Ent.dd) [] (tfOf tbl) mo w h K) (hmo : mo K = true → noLists K = true ∧ XF xc l.prog K mg)
    (hall : ∀ e ∈ tbl, e.ok tbl iv xc = true) (hbd : ∀ e ∈ tbl, e.Bd)
    (hlaw : ∀ (ns : List Int) (d : D), ns.length ≤ 63 → (∀ z ∈ ns, Builtin.Int.intBits z ≤ 1048576) → (d = .lst (ns.map D.int) ∨ d = .frz (ns.map D.int)) → ∃ S', run (tbl.map Ent.d) k iL [d] [] = .ok (.bl true) S') :
    LamX.LawAtS l w K (L2.CX l.prog w) (2 * k) 63 x mg fa h := by
  have cd := He.SaysT.d c.t
  have hdef : ∀ e ∈ tbl, ∃ fd, FunD K e.x e.x (defArgs e.st) (defBody e.st) (defScope e.st) [] [] (He.fAd K (e.x, none)) fd := fun e he => He.SaysD.defs (d := e.dd) cd (List.mem_map.mpr ⟨e, he, rfl⟩)
  have fact : ∀ {f : He.Fa}, f ∈ faOf tbl iv → f.ok K = true := fun hf => He.SaysD.facts cd hf
  have hglo : ∀ e ∈ tbl, mg e.x = some (.ref (He.fAd K (e.x, none))) := fun e he => He.glo_ok KX G (fact (by unfold faOf; exact List.mem_append_left _ (List.mem_append_left _ (List.mem_map.mpr ⟨e, he, rfl⟩))))
  have hbi : ∀ x ∈ bNames, mg x = none := fun x hx => He.free_ok KX G (fact (by unfold faOf; exact List.mem_append_left _ (List.mem_append_right _ (List.mem_map.mpr ⟨x, hx, rfl⟩))))
  have hgi : ∀ x n, iv.lookup x = some n → ∃ t, mg x = some (.int n t) := fun x n hx => He.int_ok KX G (fact (by unfold faOf; exact List.mem_append_right _ (List.mem_map.mpr ⟨(x, n), lookup_memI hx, rfl⟩)))
  have hL := List.mem_of_getElem? heL
  obtain ⟨fd, U⟩ := hdef eL hL
  have efa : fa = He.fAd K (eL.x, none) := by
    have := hglo eL hL
    rw [hfa] at this
    cases this; rfl
  have memT : ∀ p ∈ (tfOf tbl).map (He.cT K), ∃ q ∈ tfOf tbl, He.cT K q = p := fun p hp => List.mem_map.mp hp
  refine ⟨fd, (tfOf tbl).map (He.cT K), spF (((tfOf tbl).map (He.cT K)).map (·.2)) mg (run (tbl.map Ent.d) k) iL, fun p hp => ?_, fun p hp => ?_, fun p hp => ?_, fun s u => ?_, fun H a ns hl hb hT hS => ?_, fun base Kb Nb TB => ?_⟩
  · obtain ⟨q, hq, rfl⟩ := memT p hp; exact c.empty q hq
  · obtain ⟨q, hq, rfl⟩ := memT p hp; exact c.out q hq
  · obtain ⟨q, hq, rfl⟩ := memT p hp; exact PySem.W.codeHd_of_K KX (c.hd q hq)
  · have b := FunD.bindsA (ps := eL.ps) U (hbd eL hL) s [u] (by rw [hps]; rfl)
    rw [hps] at b
    exact b
  · have hv := no_list (hmo c.more).1 hS
    have tabs : ∀ P ∈ ((tfOf tbl).map (He.cT K)).map (·.2), GxR.TabG H P := fun P hP => by
      obtain ⟨p, hp, rfl⟩ := List.mem_map.mp hP
      exact ⟨#[], hT p hp, by first | trivial | (intro t ht; cases ht) | simp [TriplesOk]⟩
    let Z : Hp := fun p => if p = a then H a else none
    have ha : Z a = H a := if_pos rfl
    have rs : Rst (((tfOf tbl).map (He.cT K)).map (·.2)) [] Z [] H := by
      refine ⟨fun p o e => ?_, fun p q e => ?_, List.nodup_nil, rfl, fun a o p e => by simp at e, tabs⟩
      · by_cases hp : p = a
        · subst hp; rw [ha] at e; exact e
        · rw [show Z p = none from if_neg hp] at e; cases e
      · by_cases hp : p = a
        · subst hp
          rw [ha] at e
          rcases hv with z | ⟨o, z⟩ <;> (rw [z] at e; cases e)
        · rw [show Z p = none from if_neg hp] at e; cases e
    obtain ⟨d, hd, rd⟩ : ∃ d, (d = .lst (ns.map D.int) ∨ d = .frz (ns.map D.int)) ∧ RelD Z [] d (.ref a) := by
      rcases hv with z | ⟨o, z⟩
      · exact ⟨_, .inl rfl, .lst (by rw [ha]; exact z) (RelDs.intsR ns)⟩
      · exact ⟨_, .inr rfl, .frz (by rw [ha]; exact z) (RelDs.intsR ns)⟩
    obtain ⟨S', e⟩ := hlaw ns d hl hb hd
    refine ⟨[], Z, [], [d], rs, .cons rd .nil, ?_⟩
    rw [e]
    intro b ρ' Z' H' p rr
    exact rel_bl rr
  · rw [efa, ← hps]
    refine tbl_ok tbl iv xc (hmo c.more).2 hall hbd hdef hglo hbi hgi (fun e he hg => ?_) k iL eL heL fd U
    have hq : He.cT K (e.x, none) ∈ (tfOf tbl).map (He.cT K) := List.mem_map.mpr ⟨(e.x, none), List.mem_map.mpr ⟨e, List.mem_filter.mpr ⟨he, hg⟩, rfl⟩, rfl⟩
    have t := TB _ hq
    exact ⟨⟨t.code, t.bm, t.gP⟩, List.mem_map.mpr ⟨_, hq, rfl⟩⟩
theorem law_end {l : PySem.W.OpenLaw} {w : World} {K : PySem.W.Frag} {h : Heap} {mg : Str → Option Value} {fa : Addr} {x : Str} (tbl : List Ent) (iv : List (Str × Int)) (k iL : Nat) (eL : Ent) (heL : tbl[iL]? = some eL) (hps : eL.ps = [x])
    (KX : K.In h) (G : h.Ns mainGlobals mg) (hfa : mg eL.x = some (.ref fa)) (c : He.SaysX (faOf tbl iv) (tbl.map Ent.dd) [] (tfOf tbl) noLists w h K)
    (hall : ∀ e ∈ tbl, e.ok tbl iv = true) (hbd : ∀ e ∈ tbl, e.Bd)
    (hlaw : ∀ (ns : List Int) (d : D), ns.length ≤ 63 → (∀ z ∈ ns, Builtin.Int.intBits z ≤ 1048576) → (d = .lst (ns.map D.int) ∨ d = .frz (ns.map D.int)) → ∃ S', run (tbl.map Ent.d) k iL [d] [] = .ok (.bl true) S') :
    LamX.LawAtS l w K (L2.CX l.prog w) (2 * k) 63 x mg fa h :=
  law_endX tbl iv k iL eL heL hps KX G hfa c (fun hm => ⟨hm, xcB_ok (x := noX) KX G rfl rfl (.inl rfl)⟩) hall hbd hlaw
theorem law_endE {xc : XC} {l : PySem.W.OpenLaw} {w : World} {K : PySem.W.Frag} {h : Heap} {mg : Str → Option Value} {fa : Addr} {x : Str} (tbl : List Ent) (iv : List (Str × Int)) (k iL : Nat) (eL : Ent) (heL : tbl[iL]? = some eL) (hps : eL.ps = [x])
    (KX : K.In h) (G : h.Ns mainGlobals mg) (hfa : mg eL.x = some (.ref fa)) (c : He.SaysX (faOf tbl iv) (tbl.map Ent.dd) [] (tfOf tbl) (noListsX xc) w h K)
    (hall : ∀ e ∈ tbl, e.ok tbl iv xc = true) (hbd : ∀ e ∈ tbl, e.Bd)
    (hlaw : ∀ (ns : List Int) (d : D), ns.length ≤ 63 → (∀ z ∈ ns, Builtin.Int.intBits z ≤ 1048576) → (d = .lst (ns.map D.int) ∨ d = .frz (ns.map D.int)) → ∃ S', run (tbl.map Ent.d) k iL [d] [] = .ok (.bl true) S')
    (hP : xnP xc l.prog := by first | exact .inl rfl | exact .inr ⟨by kernel_rfl, by kernel_rfl⟩) :
    LamX.LawAtS l w K (L2.CX l.prog w) (2 * k) 63 x mg fa h :=
  law_endX tbl iv k iL eL heL hps KX G hfa c (fun hm => by
    unfold noListsX at hm
    rw [Bool.and_eq_true, Bool.and_eq_true] at hm
    exact ⟨hm.1, xcB_ok KX G hm.2.1 hm.2.2 hP⟩) hall hbd hlaw
end Li
end

section
set_option Elab.async false
set_option linter.all false
set_option maxRecDepth 100000
set_option maxHeartbeats 4000000
namespace Li
open PySem L2
open Classical
/-! ### runs, by what they answer -/
def wpR {α : Type} (r : Res α) (Q : α → Store → Prop) : Prop := match r with
  | .ok a S => Q a S
  | _ => False
def wpS (r : SR) (N : GE → Store → Prop) (R : D → Store → Prop) : Prop := match r with
  | .nx g S => N g S
  | .rt d S => R d S
  | _ => False
section
variable {α β : Type} {r : Res α} {Q Q' : α → Store → Prop} {N N' : GE → Store → Prop} {R R' : D → Store → Prop}
@[simp] theorem wpR_ok {a : α} {S : Store} : wpR (.ok a S) Q ↔ Q a S := Iff.rfl
@[simp] theorem wpR_stuck : wpR (.stuck : Res α) Q ↔ False := Iff.rfl
@[simp] theorem wpR_exc {e : Ex} {S : Store} : wpR (.exc e S : Res α) Q ↔ False := Iff.rfl
@[simp] theorem wpR_bind {k : α → Store → Res β} {Q : β → Store → Prop} : wpR (r.bind k) Q ↔ wpR r fun a S => wpR (k a S) Q := by cases r <;> exact Iff.rfl
theorem wpR_mono (h : wpR r Q) (k : ∀ a S, Q a S → Q' a S) : wpR r Q' := by cases r <;> first | exact k _ _ h | exact h
@[simp] theorem wpR_noexc : wpR r.noexc Q ↔ wpR r Q := by cases r <;> exact Iff.rfl
@[simp] theorem wpR_ite {c : Prop} [Decidable c] {a b : Res α} : wpR (if c then a else b) Q ↔ ((c → wpR a Q) ∧ (¬ c → wpR b Q)) := by
  split <;> simp [*]
theorem wpR_get (h : wpR r Q) : ∃ a S, r = .ok a S ∧ Q a S := by
  cases r with
  | ok a S => exact ⟨a, S, rfl, h⟩
  | exc _ _ => exact h.elim
  | stuck => exact h.elim
@[simp] theorem wpS_nx {g : GE} {S : Store} : wpS (.nx g S) N R ↔ N g S := Iff.rfl
@[simp] theorem wpS_rt {d : D} {S : Store} : wpS (.rt d S) N R ↔ R d S := Iff.rfl
@[simp] theorem wpS_stuck : wpS .stuck N R ↔ False := Iff.rfl
@[simp] theorem wpS_of {k : α → Store → SR} : wpS (SR.of r k) N R ↔ wpR r fun a S => wpS (k a S) N R := by cases r <;> exact Iff.rfl
@[simp] theorem wpS_thn {r : SR} {k : GE → Store → SR} : wpS (r.thn k) N R ↔ wpS r (fun g S => wpS (k g S) N R) R := by cases r <;> exact Iff.rfl
theorem wpS_mono {r : SR} (h : wpS r N R) (k1 : ∀ g S, N g S → N' g S) (k2 : ∀ d S, R d S → R' d S) : wpS r N' R' := by cases r <;> first | exact k1 _ _ h | exact k2 _ _ h | exact h
@[simp] theorem wpS_ite {c : Prop} [Decidable c] {a b : SR} : wpS (if c then a else b) N R ↔ ((c → wpS a N R) ∧ (¬ c → wpS b N R)) := by
  split <;> simp [*]
theorem wpR_run {F : Fn} {d : FD} {ds : List D} {S : Store} {Q : D → Store → Prop} : wpR (runD F d ds S) Q ↔ ds.length = d.np ∧ wpS (exSs F d.body (ds.map some ++ List.replicate (d.nn - ds.length) none) S) (fun _ S => Q .non S) Q := by
  unfold runD
  split
  · rename_i h
    cases exSs F d.body (ds.map some ++ List.replicate (d.nn - ds.length) none) S <;> simp [wpR, wpS, h]
  · rename_i h
    simp [wpR, h]
/-- a for loop by an invariant over what is left -/
theorem wpS_for {G : Store → Prop} {t : Tg} {body : GE → Store → SR} (I : List D → GE → Store → Prop) : ∀ {xs : List D} {g : GE} {S : Store}, I xs g S →
    (∀ x xs g S, I (x :: xs) g S → G S ∧ ∃ g', setT S t x g = some g' ∧ wpS (body g' S) (I xs) R) → (∀ g S, I [] g S → G S ∧ N g S) → wpS (forGo G t body xs g S) N R
  | [], g, S, h, _, k => by
    rw [forGo, if_pos (k g S h).1]; exact (k g S h).2
  | x :: xs, g, S, h, st, k => by
    obtain ⟨hG, g', hs, hb⟩ := st x xs g S h
    rw [forGo, if_pos hG, hs]
    simp only
    cases e : body g' S with
    | nx g2 S2 => rw [e] at hb; exact wpS_for I hb st k
    | rt d S2 => rw [e] at hb; exact hb
    | bk _ _ => rw [e] at hb; exact hb.elim
    | ct _ _ => rw [e] at hb; exact hb.elim
    | exc _ _ => rw [e] at hb; exact hb.elim
    | stuck => rw [e] at hb; exact hb.elim
end
/-! ### data -/
@[simp] theorem asSeq_itup (S : Store) (xs : List Int) : asSeq S (itup xs) = some (xs.map D.int) := rfl
@[simp] theorem asL_ilst (S : Store) (xs : List Int) : asL S (ilst xs) = some (xs.map D.int) := rfl
@[simp] theorem fz_int {k n : Nat} {S : Store} {i : Int} : fz (k + 1) n S (.int i) = some (.int i) := rfl
@[simp] theorem fz_bl {k n : Nat} {S : Store} {b : Bool} : fz (k + 1) n S (.bl b) = some (.bl b) := rfl
theorem mapM_some {α : Type} {f : α → Option α} : ∀ {xs : List α}, (∀ x ∈ xs, f x = some x) → xs.mapM f = some xs
  | [], _ => rfl
  | x :: xs, h => by rw [List.mapM_cons, h x List.mem_cons_self, mapM_some fun y hy => h y (List.mem_cons_of_mem _ hy)]; rfl
theorem fz_ints {k n : Nat} {S : Store} (xs : List Int) : (xs.map D.int).mapM (fz (k + 1) n S) = some (xs.map D.int) := mapM_some fun x hx => by
  obtain ⟨i, _, rfl⟩ := List.mem_map.mp hx; rfl
@[simp] theorem fz_itup {k n : Nat} {S : Store} {xs : List Int} : fz (k + 2) n S (itup xs) = some (itup xs) := by
  show Option.map D.tup ((xs.map D.int).mapM (fz (k + 1) n S)) = _
  rw [fz_ints]; rfl
@[simp] theorem fz_ilst {k n : Nat} {S : Store} {xs : List Int} : fz (k + 2) n S (ilst xs) = some (ilst xs) := by
  show Option.map D.lst ((xs.map D.int).mapM (fz (k + 1) n S)) = _
  rw [fz_ints]; rfl
theorem fz_refl {k n : Nat} {S : Store} {a : Nat} {xs : List Int} (h : n ≤ a) (e : S[a]? = some (.lst (xs.map D.int))) : fz (k + 2) n S (.ref a) = some (ilst xs) := by
  show (if n ≤ a then (match S[a]? with
      | some (.lst xs) => Option.map D.lst (xs.mapM (fz (k + 1) n S))
      | _ => none) else none) = _
  rw [if_pos h, e]
  show Option.map D.lst ((xs.map D.int).mapM (fz (k + 1) n S)) = _
  rw [fz_ints]; rfl
/-- a call, from the callee's raw answer -/
theorem wpR_call {S : Store} {r : Res D} {Q : D → Store → Prop} (h : wpR r fun d S' => okPre S S' ∧ ∃ d', fz 12 S.length S' d = some d' ∧ Q d' (S'.take S.length)) : wpR (frzR S r) Q := by
  unfold frzR
  rw [wpR_bind]
  refine wpR_mono h fun d S' ⟨ok, d', e, q⟩ => ?_
  rw [e]
  simp only
  rw [if_pos ok]
  exact q
theorem okPre_refl (S : Store) : okPre S S := ⟨Nat.le_refl _, fun _ _ => .inl rfl⟩
theorem okPre_app (S T : Store) : okPre S (S ++ T) := ⟨by rw [List.length_append]; omega, fun a ha => .inl (List.getElem?_append_left ha)⟩
/-- a callee that changes nothing -/
theorem wpR_pure {S : Store} {r : Res D} {Q : D → Store → Prop} (h : wpR r fun d S' => (∃ T, S' = S ++ T) ∧ ∃ d', fz 12 S.length S' d = some d' ∧ Q d' S) : wpR (frzR S r) Q :=
  wpR_call (wpR_mono h fun d S' ⟨⟨T, e⟩, d', e2, q⟩ => ⟨by rw [e]; exact okPre_app S T, d', e2, by rw [e, List.take_left]; exact q⟩)
@[simp] theorem len_itup (S : Store) (xs : List Int) : biR .len [itup xs] S = .ok (.int xs.length) S := by
  show (match asSeq S (itup xs) with | some xs => Res.ok (D.int xs.length) S | none => .stuck) = _
  simp [asSeq_itup]
@[simp] theorem asSeq_ilst (S : Store) (xs : List Int) : asSeq S (ilst xs) = some (xs.map D.int) := rfl
@[simp] theorem len_ilst (S : Store) (xs : List Int) : biR .len [ilst xs] S = .ok (.int xs.length) S := by
  show (match asSeq S (ilst xs) with | some xs => Res.ok (D.int xs.length) S | none => .stuck) = _
  simp [asSeq_ilst]
theorem ixN_nat {n : Nat} {i : Int} (h0 : 0 ≤ i) (h1 : i < n) : ixN n i = some i.toNat := by
  unfold ixN; rw [if_pos h0, if_pos h1]
theorem ixN_neg {n : Nat} {i : Int} (h0 : i < 0) (h1 : -(n : Int) ≤ i) : ixN n i = some (i + n).toNat := by
  unfold ixN; rw [if_neg (by omega), if_pos h1]
theorem idx_seq {S : Store} {x : D} {xs : List D} {i : Int} {d : D} (h : asSeq S x = some xs) (h0 : 0 ≤ i) (h1 : xs[i.toNat]? = some d) : idxR x (.int i) S = .ok d S := by
  have hl : i < xs.length := by have := (List.getElem?_eq_some_iff.mp h1).1; omega
  simp only [idxR, h, atI, ixN_nat h0 hl, Option.bind_some, h1]
theorem idx_itup {S : Store} {xs : List Int} {i : Int} (h0 : 0 ≤ i) (h1 : i < xs.length) : idxR (itup xs) (.int i) S = .ok (.int (xs.getD i.toNat 0)) S := by
  refine idx_seq (asSeq_itup S xs) h0 ?_
  rw [List.getElem?_map, List.getD_eq_getElem?_getD, List.getElem?_eq_getElem (by omega)]; rfl
theorem idx_ilst {S : Store} {xs : List Int} {i : Int} (h0 : 0 ≤ i) (h1 : i < xs.length) : idxR (ilst xs) (.int i) S = .ok (.int (xs.getD i.toNat 0)) S := by
  refine idx_seq (asSeq_ilst S xs) h0 ?_
  rw [List.getElem?_map, List.getD_eq_getElem?_getD, List.getElem?_eq_getElem (by omega)]; rfl
end Li
end

section
set_option linter.all false
set_option maxRecDepth 100000
set_option maxHeartbeats 1000000
namespace Li
open PySem L2
open Classical
/-! ### comprehensions by invariants -/
theorem wpR_lc {G : Store → Prop} {step : D → Store → Res (Option D)} {Q : List D → Store → Prop} (I : List D → List D → Store → Prop) : ∀ {xs : List D} {acc : List D} {S : Store}, I xs acc S →
    (∀ x xs acc S, I (x :: xs) acc S → G S ∧ wpR (step x S) fun o S1 => I xs (acc ++ o.toList) S1) → (∀ acc S, I [] acc S → G S ∧ Q acc S) → wpR (lcGo G step xs S) fun ds S1 => Q (acc ++ ds) S1
  | [], acc, S, h, _, k => by
    rw [lcGo, if_pos (k acc S h).1]
    show Q (acc ++ []) S
    rw [List.append_nil]; exact (k acc S h).2
  | x :: xs, acc, S, h, st, k => by
    obtain ⟨hG, hb⟩ := st x xs acc S h
    rw [lcGo, if_pos hG, wpR_bind]
    refine wpR_mono hb fun o S1 h1 => ?_
    rw [wpR_bind]
    refine wpR_mono (wpR_lc I h1 st k) fun ds S2 h2 => ?_
    rw [wpR_ok]
    cases o with
    | none => simpa using h2
    | some d => simpa using h2
theorem wpR_lc0 {G : Store → Prop} {step : D → Store → Res (Option D)} {Q : List D → Store → Prop} (I : List D → List D → Store → Prop) {xs : List D} {S : Store} (h : I xs [] S)
    (st : ∀ x xs acc S, I (x :: xs) acc S → G S ∧ wpR (step x S) fun o S1 => I xs (acc ++ o.toList) S1) (k : ∀ acc S, I [] acc S → G S ∧ Q acc S) : wpR (lcGo G step xs S) Q := by
  have := wpR_lc I h st k
  simpa using this
theorem all_pure {G : Store → Prop} {step : D → Store → Res (Option D)} {S : Store} (p : D → Bool) (hG : G S) : ∀ {xs : List D}, (∀ x ∈ xs, step x S = .ok (some (.bl (p x))) S) → allGo G step false xs S = .ok (.bl (xs.all p)) S
  | [], _ => by rw [allGo, if_pos hG]; rfl
  | x :: xs, h => by
    rw [allGo, if_pos hG, h x List.mem_cons_self, Res.bind_ok]
    simp only
    have ih := all_pure p hG (xs := xs) fun y hy => h y (List.mem_cons_of_mem _ hy)
    rw [List.all_cons]
    cases hp : p x with
    | true => simp only [Bool.true_eq_false, if_false, Bool.true_and]; exact ih
    | false => simp
theorem any_pure {G : Store → Prop} {step : D → Store → Res (Option D)} {S : Store} (p : D → Bool) (hG : G S) : ∀ {xs : List D}, (∀ x ∈ xs, step x S = .ok (some (.bl (p x))) S) → allGo G step true xs S = .ok (.bl (xs.any p)) S
  | [], _ => by rw [allGo, if_pos hG]; rfl
  | x :: xs, h => by
    rw [allGo, if_pos hG, h x List.mem_cons_self, Res.bind_ok]
    simp only
    have ih := any_pure p hG (xs := xs) fun y hy => h y (List.mem_cons_of_mem _ hy)
    rw [List.any_cons]
    cases hp : p x with
    | true => simp
    | false => simp only [Bool.false_eq_true, if_false, Bool.false_or]; exact ih
/-- a comprehension that changes nothing -/
theorem lc_pure {G : Store → Prop} {step : D → Store → Res (Option D)} {S : Store} (p : D → Option D) (hG : G S) : ∀ {xs : List D}, (∀ x ∈ xs, step x S = .ok (p x) S) → lcGo G step xs S = .ok (xs.filterMap p) S
  | [], _ => by rw [lcGo, if_pos hG]; rfl
  | x :: xs, h => by
    rw [lcGo, if_pos hG, h x List.mem_cons_self, Res.bind_ok, lc_pure p hG (xs := xs) fun y hy => h y (List.mem_cons_of_mem _ hy), Res.bind_ok, List.filterMap_cons]
    cases p x <;> rfl
/-! ### the drawing state -/
def St (S : Store) (a : Nat) (n : Int) : Prop := ∃ tape : List Int, S[a]? = some (.lst [ilst tape, .int n]) ∧ 0 ≤ n ∧ ∀ z ∈ tape, 0 ≤ z ∧ z < 2 ^ 31
/-- all but the object at a is as it was, new ones behind -/
def Fr (a : Nat) (S S' : Store) : Prop := S.length ≤ S'.length ∧ ∀ b, b < S.length → b ≠ a → S'[b]? = S[b]?
theorem Fr.refl (a : Nat) (S : Store) : Fr a S S := ⟨Nat.le_refl _, fun _ _ _ => rfl⟩
theorem Fr.trans {a : Nat} {S S1 S2 : Store} (x : Fr a S S1) (y : Fr a S1 S2) : Fr a S S2 := ⟨Nat.le_trans x.1 y.1, fun b hb hn => (y.2 b (Nat.lt_of_lt_of_le hb x.1) hn).trans (x.2 b hb hn)⟩
theorem Fr.app (a : Nat) (S T : Store) : Fr a S (S ++ T) := ⟨by rw [List.length_append]; omega, fun b hb _ => List.getElem?_append_left hb⟩
theorem Fr.set (a : Nat) (S : Store) (o : Ob) : Fr a S (S.set a o) := ⟨by rw [List.length_set]; exact Nat.le_refl _, fun b hb hn => List.getElem?_set_ne (fun e => hn e.symm)⟩
theorem Fr.setN {a p : Nat} {S S1 : Store} (x : Fr a S S1) (h : S.length ≤ p) (o : Ob) : Fr a S (S1.set p o) := ⟨by rw [List.length_set]; exact x.1, fun b hb hn => by rw [List.getElem?_set_ne (by omega)]; exact x.2 b hb hn⟩
theorem Fr.take {a : Nat} {S S1 : Store} (x : Fr a S S1) : Fr a S (S1.take S.length) := by
  refine ⟨by rw [List.length_take]; have := x.1; omega, fun b hb hn => ?_⟩
  rw [List.getElem?_take_of_lt hb]; exact x.2 b hb hn
theorem St.lt {S : Store} {a : Nat} {n : Int} (h : St S a n) : a < S.length := by obtain ⟨t, e, _⟩ := h; exact (List.getElem?_eq_some_iff.mp e).1
theorem St.app {S T : Store} {a : Nat} {n : Int} (h : St S a n) : St (S ++ T) a n := by
  obtain ⟨t, e, r⟩ := h
  exact ⟨t, by rw [List.getElem?_append_left (List.getElem?_eq_some_iff.mp e).1]; exact e, r⟩
theorem St.setN {S : Store} {a p : Nat} {n : Int} {o : Ob} (h : St S a n) (hp : p ≠ a) : St (S.set p o) a n := by
  obtain ⟨t, e, r⟩ := h
  exact ⟨t, by rw [List.getElem?_set_ne hp]; exact e, r⟩
theorem bd_ints {m : Nat} (t : List Int) : Bd m (ilst t) := .lst fun x hx => by obtain ⟨i, _, rfl⟩ := List.mem_map.mp hx; exact .int i
theorem okPre_st {S S' : Store} {a : Nat} {n : Int} (f : Fr a S S') (h : St S' a n) : okPre S S' := by
  refine ⟨f.1, fun b hb => ?_⟩
  by_cases e : b = a
  · subst e
    obtain ⟨t, e, _⟩ := h
    exact .inr ⟨_, e, fun x hx => by
      rcases List.mem_cons.mp hx with rfl | hx
      · exact bd_ints t
      · rcases List.mem_cons.mp hx with rfl | hx
        · exact .int _
        · cases hx⟩
  · exact .inl (f.2 b hb e)
/-- data without references -/
def Pure (d : D) : Prop := ∀ n S, fz 12 n S d = some d
theorem Pure.int (i : Int) : Pure (.int i) := fun _ _ => rfl
theorem Pure.bl (b : Bool) : Pure (.bl b) := fun _ _ => rfl
theorem Pure.itup (xs : List Int) : Pure (itup xs) := fun _ _ => fz_itup
theorem Pure.ilst (xs : List Int) : Pure (ilst xs) := fun _ _ => fz_ilst
/-- a call that draws: at most c numbers -/
def Dr (r : Res D) (S : Store) (a : Nat) (n c : Int) (P : D → Prop) : Prop := wpR r fun d S' => Fr a S S' ∧ (∃ m, n ≤ m ∧ m ≤ n + c ∧ St S' a m) ∧ P d
theorem Dr.call {r : Res D} {S : Store} {a : Nat} {n c : Int} {P : D → Prop} (h : Dr r S a n c P) (ha : a < S.length) (hp : ∀ d, P d → Pure d) : wpR (frzR S r) fun d S' => Fr a S S' ∧ S'.length = S.length ∧ (∃ m, n ≤ m ∧ m ≤ n + c ∧ St S' a m) ∧ P d := by
  refine wpR_call (wpR_mono h fun d S' ⟨f, ⟨m, h1, h2, st⟩, q⟩ => ⟨okPre_st f st, d, hp d q _ _, f.take, by rw [List.length_take]; have := f.1; omega, ⟨m, h1, h2, ?_⟩, q⟩)
  obtain ⟨t, e, r⟩ := st
  exact ⟨t, by rw [List.getElem?_take_of_lt ha]; exact e, r⟩
theorem Fr.at {a b : Nat} {S S' : Store} {o : Ob} (f : Fr a S S') (h : S[b]? = some o) (hn : b ≠ a) : S'[b]? = some o := by
  rw [f.2 b (List.getElem?_eq_some_iff.mp h).1 hn]; exact h
/-! ### operators at known data -/
section
variable (S : Store) (i j : Int) (a b : Bool) (xs ys : List Int)
@[simp] theorem co_lt : copR .lt (.int i) (.int j) S = .ok (.bl (decide (i < j))) S := rfl
@[simp] theorem co_le : copR .le (.int i) (.int j) S = .ok (.bl (decide (i ≤ j))) S := rfl
@[simp] theorem co_gt : copR .gt (.int i) (.int j) S = .ok (.bl (decide (j < i))) S := rfl
@[simp] theorem co_ge : copR .ge (.int i) (.int j) S = .ok (.bl (decide (j ≤ i))) S := rfl
@[simp] theorem bo_add : bopR .add (.int i) (.int j) S = .ok (.int (i + j)) S := rfl
@[simp] theorem bo_sub : bopR .sub (.int i) (.int j) S = .ok (.int (i - j)) S := rfl
@[simp] theorem bo_mul : bopR .mul (.int i) (.int j) S = if CMul i j then .ok (.int (i * j)) S else .stuck := rfl
@[simp] theorem bo_fdiv : bopR .fdiv (.int i) (.int j) S = if CDiv i j then .ok (.int (i / j)) S else .stuck := rfl
@[simp] theorem bo_mod : bopR .mod (.int i) (.int j) S = if 0 < j then .ok (.int (i % j)) S else .stuck := rfl
@[simp] theorem bo_pow : bopR .pow (.int i) (.int j) S = if CPow i j then .ok (.int (i ^ j.toNat)) S else .stuck := rfl
@[simp] theorem bo_tup : bopR .add (itup xs) (itup ys) S = if xs.length + ys.length ≤ sizeLine then .ok (itup (xs ++ ys)) S else .stuck := by
  show (if (xs.map D.int).length + (ys.map D.int).length ≤ sizeLine then Res.ok (D.tup (xs.map D.int ++ ys.map D.int)) S else .stuck) = _
  rw [List.length_map, List.length_map, ← List.map_append]; rfl
@[simp] theorem tr_bl : truD S (.bl a) = some a := rfl
@[simp] theorem tr_int : truD S (.int i) = some (i != 0) := rfl
@[simp] theorem bi_int : biR .int1 [.int i] S = .ok (.int i) S := rfl
@[simp] theorem bi_max : biR .max2 [.int i, .int j] S = .ok (.int (max i j)) S := rfl
@[simp] theorem bi_min : biR .min2 [.int i, .int j] S = .ok (.int (min i j)) S := rfl
@[simp] theorem is_bl : isR .bool (.bl a) S = .ok (.bl true) S := rfl
@[simp] theorem eq_int : eqD S (.int i) (.int j) = some (decide (i = j)) := by
  show some (PyData.eqv (.int i) (.int j)) = _
  simp only [PyData.eqv]
  rfl
@[simp] theorem eq_bl : eqD S (.bl a) (.bl b) = some (decide (a = b)) := by
  show some (PyData.eqv (.bool a) (.bool b)) = _
  cases a <;> cases b <;> simp [PyData.eqv]
@[simp] theorem co_eqi : copR .eq (.int i) (.int j) S = .ok (.bl (decide (i = j))) S := by
  show (match eqD S (.int i) (.int j) with | some b => Res.ok (D.bl b) S | none => .stuck) = _
  rw [eq_int]
@[simp] theorem co_nei : copR .ne (.int i) (.int j) S = .ok (.bl (!decide (i = j))) S := by
  show (match eqD S (.int i) (.int j) with | some b => Res.ok (D.bl (!b)) S | none => .stuck) = _
  rw [eq_int]
@[simp] theorem co_eqb : copR .eq (.bl a) (.bl b) S = .ok (.bl (decide (a = b))) S := by
  show (match eqD S (.bl a) (.bl b) with | some b => Res.ok (D.bl b) S | none => .stuck) = _
  rw [eq_bl]
@[simp] theorem co_neb : copR .ne (.bl a) (.bl b) S = .ok (.bl (!decide (a = b))) S := by
  show (match eqD S (.bl a) (.bl b) with | some b => Res.ok (D.bl (!b)) S | none => .stuck) = _
  rw [eq_bl]
end
theorem cmul_r {i j : Int} (h0 : -(2 ^ 64) < j) (h1 : j < 2 ^ 64) : CMul i j := .inr ⟨h0, h1⟩
theorem cmul_l {i j : Int} (h0 : -(2 ^ 64) < i) (h1 : i < 2 ^ 64) : CMul i j := .inl ⟨h0, h1⟩
@[simp high] theorem wpR_guard {α : Type} {c : Prop} [Decidable c] {a : Res α} {Q : α → Store → Prop} : wpR (if c then a else .stuck) Q ↔ c ∧ wpR a Q := by
  split <;> simp [*]
@[simp] theorem setT_one (S : Store) (i : Nat) (d : D) (g : GE) : setT S (.one i) d g = some (g.set i (some d)) := rfl
theorem idx_ilst_q {S : Store} {xs : List Int} {i : Int} {Q : D → Store → Prop} (h0 : 0 ≤ i) (h1 : i < xs.length) (k : ∀ z, z ∈ xs → Q (.int z) S) : wpR (idxR (ilst xs) (.int i) S) Q := by
  rw [idx_ilst h0 h1]
  refine k _ ?_
  rw [List.getD_eq_getElem?_getD, List.getElem?_eq_getElem (by omega)]
  exact List.getElem_mem _
theorem st_0 {S : Store} {a : Nat} {tape : List Int} {n : D} (e : S[a]? = some (.lst [ilst tape, n])) : idxR (.ref a) (.int 0) S = .ok (ilst tape) S := idx_seq (xs := [ilst tape, n]) (by simp [asSeq, asT, asL, e]) (by decide) rfl
theorem st_1 {S : Store} {a : Nat} {t n : D} (e : S[a]? = some (.lst [t, n])) : idxR (.ref a) (.int 1) S = .ok n S := idx_seq (xs := [t, n]) (by simp [asSeq, asT, asL, e]) (by decide) rfl
theorem st_s {S : Store} {a : Nat} {t n v : D} (e : S[a]? = some (.lst [t, n])) : stR (.ref a) (.int 1) v S = some (S.set a (.lst [t, v])) := by
  simp [stR, e, ixN]
@[simp] theorem wpR_alloc {o : Ob} {S : Store} {Q : D → Store → Prop} : wpR (alloc o S) Q ↔ Q (.ref S.length) (S ++ [o]) := Iff.rfl
theorem wpR_seqI {S : Store} {d : D} {ys : List D} {Q : Itm → Store → Prop} (h : asSeq S d = some ys) (k : ∀ G : Store → Prop, (∀ S', (∀ a, d = .ref a → S'[a]? = S[a]?) → G S') → Q (ys, G) S) : wpR (seqI d S) Q := by
  cases d with
  | ref a =>
    simp only [asSeq, asT, asL] at h
    split at h
    · rename_i xs hx
      cases h
      simp only [seqI, hx, wpR_ok]
      exact k _ fun S' e => (e a rfl).trans hx
    · cases h
  | tup xs => cases h; exact k _ fun _ _ => trivial
  | lst xs => cases h; exact k _ fun _ _ => trivial
  | frz xs => cases h; exact k _ fun _ _ => trivial
  | non => cases h
  | bl b => cases h
  | int i => cases h
  | str x => cases h
  | dct x => cases h
  | dfz x => cases h
theorem asSeq_L {S : Store} {d : D} {ys : List D} (h : asL S d = some ys) : asSeq S d = some ys := by
  cases d with
  | tup xs => cases h
  | _ => exact h
@[simp] theorem snoc_get (S : Store) (o : Ob) : (S ++ [o])[S.length]? = some o := by
  rw [List.getElem?_append_right (Nat.le_refl _), Nat.sub_self]; rfl
theorem bi_tupL {S : Store} {a : Nat} {xs : List D} (h : S[a]? = some (.lst xs)) : biR .tuple1 [.ref a] S = .ok (.tup xs) S := by
  show (match asL S (.ref a) with | some xs => Res.ok (D.tup xs) S | none => .stuck) = _
  simp only [asL, h]
theorem asL_ref {S : Store} {a : Nat} {xs : List D} (h : S[a]? = some (.lst xs)) : asL S (.ref a) = some xs := by simp only [asL, h]
theorem wpR_lcp {G : Store → Prop} {step : D → Store → Res (Option D)} {S : Store} {xs : List D} {Q : List D → Store → Prop} (p : D → Option D) (hG : G S) (h : ∀ x ∈ xs, step x S = .ok (p x) S) (k : Q (xs.filterMap p) S) : wpR (lcGo G step xs S) Q := by
  rw [lc_pure p hG h]; exact k
theorem idx_refI {S : Store} {b : Nat} {xs : List Int} {v : Int} {Q : D → Store → Prop} (e : S[b]? = some (.lst (xs.map D.int))) (h0 : 0 ≤ v) (h1 : v < xs.length) (k : ∀ z ∈ xs, Q (.int z) S) : wpR (idxR (.ref b) (.int v) S) Q := by
  have hl : v.toNat < xs.length := by omega
  rw [idx_seq (xs := xs.map D.int) (d := .int xs[v.toNat]) (asSeq_L (asL_ref e)) h0 (by rw [List.getElem?_map, List.getElem?_eq_getElem hl]; rfl)]
  exact k _ (List.getElem_mem _)
theorem frz_okI {S : Store} {i : Int} : frzR S (.ok (.int i) S) = .ok (.int i) S := by
  have : frzR S (.ok (.int i) S) = (if okPre S S then Res.ok (D.int i) (S.take S.length) else .stuck) := rfl
  rw [this, if_pos (okPre_refl S), List.take_length]
theorem frz_okB {S : Store} {i : Bool} : frzR S (.ok (.bl i) S) = .ok (.bl i) S := by
  have : frzR S (.ok (.bl i) S) = (if okPre S S then Res.ok (D.bl i) (S.take S.length) else .stuck) := rfl
  rw [this, if_pos (okPre_refl S), List.take_length]
@[simp] theorem mt_app {S : Store} {a : Nat} {xs : List D} {d : D} (e : S[a]? = some (.lst xs)) : mtR .append (.ref a) [d] S = if xs.length < sizeLine then .ok .non (S.set a (.lst (xs ++ [d]))) else .stuck := by
  simp only [mtR, e]
theorem asM_ref {S : Store} {a : Nat} {xs : List D} (e : S[a]? = some (.lst xs)) : asM S (.ref a) = some xs := by simp only [asM, e]
theorem bi_sort {S : Store} {a : Nat} {xs : List Int} (e : S[a]? = some (.lst (xs.map D.int))) : biR .sorted1 [.ref a] S = alloc (.lst ((xs.mergeSort fun a b => decide (a ≤ b)).map D.int)) S := by
  have h := asL_ref e
  simp only [biR, h, intsD_map]
theorem rev_ref {S : Store} {a : Nat} {xs : List D} (e : S[a]? = some (.lst xs)) : revR (.ref a) S = alloc (.lst xs.reverse) S := by
  show (match asL S (.ref a) with | some xs => alloc (.lst xs.reverse) S | none => .stuck) = _
  rw [asL_ref e]
theorem sl_sz : (1000000 : Nat) ≤ sizeLine := by rw [sizeLine_eq]; decide
/-- loops by the number of turns -/
theorem wpS_list {G : Store → Prop} {t : Tg} {body : GE → Store → SR} {N : GE → Store → Prop} {R : D → Store → Prop} (J : Nat → GE → Store → Prop) {xs : List D} {g : GE} {S : Store} (h : J 0 g S)
    (st : ∀ k x g S, xs[k]? = some x → J k g S → G S ∧ ∃ g', setT S t x g = some g' ∧ wpS (body g' S) (J (k + 1)) R) (e : ∀ g S, J xs.length g S → G S ∧ N g S) : wpS (forGo G t body xs g S) N R := by
  refine wpS_for (fun left g S => ∃ k, k ≤ xs.length ∧ left = xs.drop k ∧ J k g S) ⟨0, Nat.zero_le _, rfl, h⟩ (fun x l g S ⟨k, hk, hd, hJ⟩ => ?_) (fun g S ⟨k, hk, hd, hJ⟩ => ?_)
  · have hlt : k < xs.length := by
      by_cases hlt : k < xs.length
      · exact hlt
      · rw [List.drop_eq_nil_of_le (by omega)] at hd; cases hd
    rw [List.drop_eq_getElem_cons hlt] at hd
    cases hd
    obtain ⟨h1, g', h2, h3⟩ := st k _ g S (List.getElem?_eq_getElem hlt) hJ
    exact ⟨h1, g', h2, wpS_mono h3 (fun g2 S2 hj => ⟨k + 1, hlt, rfl, hj⟩) fun _ _ q => q⟩
  · have hk : k = xs.length := by
      have := congrArg List.length hd
      rw [List.length_drop] at this
      simp only [List.length_nil] at this
      omega
    subst hk
    exact e g S hJ
theorem rngL_len (lo : Int) (n : Nat) : (rngL lo n).length = n := by unfold rngL; rw [List.length_map, List.length_range]
theorem rngL_get {lo : Int} {n k : Nat} {x : D} (h : (rngL lo n)[k]? = some x) : k < n ∧ x = .int (lo + k) := by
  unfold rngL at h
  rw [List.getElem?_map] at h
  obtain ⟨y, hy, rfl⟩ := Option.map_eq_some_iff.mp h
  obtain ⟨hlt, ey⟩ := List.getElem?_eq_some_iff.mp hy
  rw [List.length_range] at hlt
  rw [List.getElem_range] at ey
  subst ey
  exact ⟨hlt, rfl⟩
theorem wpS_rng {i : Nat} {lo : Int} {n : Nat} {body : GE → Store → SR} {N : GE → Store → Prop} {R : D → Store → Prop} (J : Nat → GE → Store → Prop) {g : GE} {S : Store} (h : J 0 g S)
    (st : ∀ (k : Nat) g S, k < n → J k g S → wpS (body (g.set i (some (.int (lo + k)))) S) (J (k + 1)) R) (e : ∀ g S, J n g S → N g S) : wpS (forGo (fun _ => True) (.one i) body (rngL lo n) g S) N R := by
  refine wpS_list J h (fun k x g S hx hJ => ?_) (fun g S hJ => ⟨trivial, e g S (by rw [rngL_len] at hJ; exact hJ)⟩)
  obtain ⟨h1, rfl⟩ := rngL_get hx
  exact ⟨trivial, _, rfl, st k g S h1 hJ⟩
theorem wpR_lcl {G : Store → Prop} {step : D → Store → Res (Option D)} {Q : List D → Store → Prop} (J : Nat → List D → Store → Prop) {xs : List D} {S : Store} (h : J 0 [] S)
    (st : ∀ k x acc S, xs[k]? = some x → J k acc S → G S ∧ wpR (step x S) fun o S1 => J (k + 1) (acc ++ o.toList) S1) (e : ∀ acc S, J xs.length acc S → G S ∧ Q acc S) : wpR (lcGo G step xs S) Q := by
  refine wpR_lc0 (fun left acc S => ∃ k, k ≤ xs.length ∧ left = xs.drop k ∧ J k acc S) ⟨0, Nat.zero_le _, rfl, h⟩ (fun x l acc S ⟨k, hk, hd, hJ⟩ => ?_) (fun acc S ⟨k, hk, hd, hJ⟩ => ?_)
  · have hlt : k < xs.length := by
      by_cases hlt : k < xs.length
      · exact hlt
      · rw [List.drop_eq_nil_of_le (by omega)] at hd; cases hd
    rw [List.drop_eq_getElem_cons hlt] at hd
    cases hd
    obtain ⟨h1, h3⟩ := st k _ acc S (List.getElem?_eq_getElem hlt) hJ
    exact ⟨h1, wpR_mono h3 fun o S2 hj => ⟨k + 1, hlt, rfl, hj⟩⟩
  · have hk : k = xs.length := by
      have := congrArg List.length hd
      rw [List.length_drop] at this
      simp only [List.length_nil] at this
      omega
    subst hk
    exact e acc S hJ
theorem rngOk_small {i : Int} (h0 : -1000000000 ≤ i) (h1 : i ≤ 1000000000) : rngOk i := ⟨by omega, by omega⟩
theorem wpS_cons {F : Fn} {s : CS} {r : CSs} {g : GE} {S : Store} {N : GE → Store → Prop} {R : D → Store → Prop} : wpS (exSs F (.cons s r) g S) N R ↔ wpS (exS F s g S) (fun g S => wpS (exSs F r g S) N R) R := by
  rw [exSs, wpS_thn]
theorem wpS_nil {F : Fn} {g : GE} {S : Store} {N : GE → Store → Prop} {R : D → Store → Prop} : wpS (exSs F .nil g S) N R ↔ N g S := by
  rw [exSs, wpS_nx]
theorem wpS_then {r : SR} {N N' : GE → Store → Prop} {R : D → Store → Prop} (h : wpS r N' R) (k : ∀ g S, N' g S → N g S) : wpS r N R := wpS_mono h k fun _ _ q => q
end Li
end

section
set_option linter.all false
set_option maxRecDepth 100000
set_option maxHeartbeats 1000000
namespace Li
open PySem L2
open Classical
/-! ### encoders -/
section
variable {α β : Type} {e e' : α → D} {f : β → D} {m k n a : Nat} {S : Store} {xs ys : List α} {x y : α}
def T (e : α → D) (xs : List α) : D := .tup (xs.map e)
def Ls (e : α → D) (xs : List α) : D := .lst (xs.map e)
def oL (e : α → D) (xs : List α) : Ob := .lst (xs.map e)
def P2 (e : α → D) (f : β → D) (p : α × β) : D := .tup [e p.1, f p.2]
theorem itup_T (xs : List Int) : itup xs = T D.int xs := rfl
theorem ilst_L (xs : List Int) : ilst xs = Ls D.int xs := rfl
class Fz (e : α → D) (m : outParam Nat) : Prop where
  ok : ∀ (x : α) (k n : Nat) (S : Store), m ≤ k → fz k n S (e x) = some (e x)
instance : Fz D.int 1 := ⟨fun x k n S h => by cases k with | zero => omega | succ k => rfl⟩
instance : Fz D.bl 1 := ⟨fun x k n S h => by cases k with | zero => omega | succ k => rfl⟩
instance : Fz D.str 1 := ⟨fun x k n S h => by cases k with | zero => omega | succ k => rfl⟩
theorem fz_mapM [Fz e m] (h : m ≤ k) (xs : List α) : (xs.map e).mapM (fz k n S) = some (xs.map e) := mapM_some fun d hd => by
  obtain ⟨x, _, rfl⟩ := List.mem_map.mp hd; exact Fz.ok x k n S h
instance [Fz e m] : Fz (T e) (m + 1) := ⟨fun xs k n S h => by
  cases k with
  | zero => omega
  | succ k =>
    show ((xs.map e).mapM (fz k n S)).map D.tup = _
    rw [fz_mapM (by omega)]; rfl⟩
instance [Fz e m] : Fz (Ls e) (m + 1) := ⟨fun xs k n S h => by
  cases k with
  | zero => omega
  | succ k =>
    show ((xs.map e).mapM (fz k n S)).map D.lst = _
    rw [fz_mapM (by omega)]; rfl⟩
instance {m' : Nat} [Fz e m] [Fz f m'] : Fz (P2 e f) (m + m' + 1) := ⟨fun p k n S h => by
  cases k with
  | zero => omega
  | succ k =>
    show (([e p.1, f p.2] : List D).mapM (fz k n S)).map D.tup = _
    rw [mapM_some fun d hd => ?_]
    · rfl
    · simp only [List.mem_cons, List.not_mem_nil, or_false] at hd
      rcases hd with rfl | rfl
      · exact Fz.ok _ k n S (by omega)
      · exact Fz.ok _ k n S (by omega)⟩
@[simp] theorem fz_enc [Fz e m] (h : m ≤ 12) : fz 12 n S (e x) = some (e x) := Fz.ok x 12 n S h
theorem fz_oref [Fz e m] (h : m ≤ 11) (ha : n ≤ a) (e1 : S[a]? = some (oL e xs)) : fz 12 n S (.ref a) = some (Ls e xs) := by
  show (if n ≤ a then (match S[a]? with
      | some (.lst xs) => Option.map D.lst (xs.mapM (fz 11 n S))
      | _ => none) else none) = _
  rw [if_pos ha, e1]
  show Option.map D.lst ((xs.map e).mapM (fz 11 n S)) = _
  rw [fz_mapM h]; rfl
class EqE (e : α → D) (m : outParam Nat) where
  py : α → PyData
  ok : ∀ (x : α) (k : Nat) (S : Store), m ≤ k → pyOf k S (e x) = some (py x)
  eqv : ∀ x y : α, PyData.eqv (py x) (py y) = decide (x = y)
instance : EqE D.int 1 := ⟨.int, fun x k S h => by cases k with | zero => omega | succ k => rfl, fun x y => by simp only [PyData.eqv]; by_cases h : x = y <;> simp [h]⟩
instance : EqE D.bl 1 := ⟨.bool, fun x k S h => by cases k with | zero => omega | succ k => rfl, fun x y => by simp only [PyData.eqv]; by_cases h : x = y <;> simp [h]⟩
theorem py_mapM [EqE e m] (h : m ≤ k) (xs : List α) : (xs.map e).mapM (pyOf k S) = some (xs.map (EqE.py e)) := by
  induction xs with
  | nil => rfl
  | cons x xs ih => rw [List.map_cons, List.mapM_cons, EqE.ok x k S h, ih]; rfl
theorem py_eqvAll [EqE e m] : ∀ xs ys : List α, PyData.eqvAll (xs.map (EqE.py e)) (ys.map (EqE.py e)) = decide (xs = ys)
  | [], [] => by simp [PyData.eqvAll]
  | [], _ :: _ => by simp [PyData.eqvAll]
  | _ :: _, [] => by simp [PyData.eqvAll]
  | x :: xs, y :: ys => by
    simp only [List.map_cons, PyData.eqvAll, EqE.eqv, py_eqvAll xs ys]
    by_cases h : x = y <;> by_cases h2 : xs = ys <;> simp [h, h2]
instance [EqE e m] : EqE (T e) (m + 1) := ⟨fun xs => .tuple (xs.map (EqE.py e)), fun xs k S h => by
  cases k with
  | zero => omega
  | succ k =>
    show ((xs.map e).mapM (pyOf k S)).map PyData.tuple = _
    rw [py_mapM (by omega)]; rfl, fun xs ys => by rw [PyData.eqv, py_eqvAll]; exact decide_eq_decide.mpr Iff.rfl⟩
instance [EqE e m] : EqE (Ls e) (m + 1) := ⟨fun xs => .list (xs.map (EqE.py e)), fun xs k S h => by
  cases k with
  | zero => omega
  | succ k =>
    show ((xs.map e).mapM (pyOf k S)).map PyData.list = _
    rw [py_mapM (by omega)]; rfl, fun xs ys => by rw [PyData.eqv, py_eqvAll]; exact decide_eq_decide.mpr Iff.rfl⟩
instance {m' : Nat} [EqE e m] [EqE f m'] : EqE (P2 e f) (m + m' + 1) := ⟨fun p => .tuple [EqE.py e p.1, EqE.py f p.2], fun p k S h => by
  cases k with
  | zero => omega
  | succ k =>
    show (([e p.1, f p.2] : List D).mapM (pyOf k S)).map PyData.tuple = _
    rw [List.mapM_cons, List.mapM_cons, EqE.ok p.1 k S (by omega), EqE.ok p.2 k S (by omega)]; rfl, fun p q => by
  obtain ⟨a, b⟩ := p
  obtain ⟨c, d⟩ := q
  simp only [PyData.eqv, PyData.eqvAll, EqE.eqv]
  by_cases h : a = c <;> by_cases h2 : b = d <;> simp [h, h2]⟩
theorem eqD_enc [EqE e m] (h : m ≤ 12) : eqD S (e x) (e y) = some (decide (x = y)) := by
  unfold eqD
  rw [EqE.ok x 12 S h, EqE.ok y 12 S h]
  simp only [EqE.eqv]
theorem eqD_ref [EqE e m] (h : m ≤ 11) (e1 : S[a]? = some (oL e xs)) : eqD S (.ref a) (Ls e ys) = some (decide (xs = ys)) := by
  have e2 : pyOf 12 S (.ref a) = some (.list (xs.map (EqE.py e))) := by
    show (match S[a]? with | some (.lst xs) => (xs.mapM (pyOf 11 S)).map PyData.list | _ => none) = _
    rw [e1]
    show ((xs.map e).mapM (pyOf 11 S)).map PyData.list = _
    rw [py_mapM h]; rfl
  unfold eqD
  rw [e2, show pyOf 12 S (Ls e ys) = some (.list (ys.map (EqE.py e))) from EqE.ok ys 12 S (by omega)]
  simp only [PyData.eqv, py_eqvAll]
theorem co_eqD {x y : D} {b : Bool} (h : eqD S x y = some b) : copR .eq x y S = .ok (.bl b) S := by
  have : copR .eq x y S = (match eqD S x y with | some b => Res.ok (D.bl b) S | none => .stuck) := by cases x <;> cases y <;> rfl
  rw [this, h]
theorem co_neD {x y : D} {b : Bool} (h : eqD S x y = some b) : copR .ne x y S = .ok (.bl (!b)) S := by
  have : copR .ne x y S = (match eqD S x y with | some b => Res.ok (D.bl (!b)) S | none => .stuck) := by
    cases x <;> cases y <;> first | rfl | exact nomatch (show (none : Option Bool) = some b from h)
  rw [this, h]
@[simp] theorem co_eqE [EqE e m] (h : m ≤ 12) : copR .eq (e x) (e y) S = .ok (.bl (decide (x = y))) S := co_eqD (eqD_enc h)
@[simp] theorem co_neE [EqE e m] (h : m ≤ 12) : copR .ne (e x) (e y) S = .ok (.bl (!decide (x = y))) S := co_neD (eqD_enc h)
@[simp] theorem co_eqN [EqE e m] (h : m ≤ 11) : copR .eq (T e xs) (.tup []) S = .ok (.bl (@decide (xs = []) (propDecidable _))) S := co_eqD (y := T e []) (eqD_enc (e := T e) (m := m + 1) (by omega))
@[simp] theorem co_neN [EqE e m] (h : m ≤ 11) : copR .ne (T e xs) (.tup []) S = .ok (.bl (!@decide (xs = []) (propDecidable _))) S := co_neD (y := T e []) (eqD_enc (e := T e) (m := m + 1) (by omega))
theorem co_eqR [EqE e m] (h : m ≤ 11) (e1 : S[a]? = some (oL e xs)) : copR .eq (.ref a) (Ls e ys) S = .ok (.bl (decide (xs = ys))) S := co_eqD (eqD_ref h e1)
theorem co_neR [EqE e m] (h : m ≤ 11) (e1 : S[a]? = some (oL e xs)) : copR .ne (.ref a) (Ls e ys) S = .ok (.bl (!decide (xs = ys))) S := co_neD (eqD_ref h e1)
@[simp] theorem co_isb {a b : Bool} : copR .is_ (.bl a) (.bl b) S = .ok (.bl (decide (a = b))) S := rfl
@[simp] theorem co_isnb {a b : Bool} : copR .isnot (.bl a) (.bl b) S = .ok (.bl (!decide (a = b))) S := rfl
@[simp] theorem co_isN {d : D} : copR .is_ d .non S = .ok (.bl (isNonD d)) S := by cases d <;> rfl
@[simp] theorem co_isnN {d : D} : copR .isnot d .non S = .ok (.bl (!isNonD d)) S := by cases d <;> rfl
@[simp] theorem isNon_non : isNonD .non = true := rfl
@[simp] theorem isNon_int {i : Int} : isNonD (.int i) = false := rfl
@[simp] theorem isNon_T : isNonD (T e xs) = false := rfl
@[simp] theorem isNon_P {p : α × β} : isNonD (P2 e f p) = false := rfl
/-! ### reads -/
@[simp] theorem asSeq_T : asSeq S (T e xs) = some (xs.map e) := rfl
@[simp] theorem asSeq_Ls : asSeq S (Ls e xs) = some (xs.map e) := rfl
@[simp] theorem asL_Ls : asL S (Ls e xs) = some (xs.map e) := rfl
@[simp] theorem asM_Ls : asM S (Ls e xs) = some (xs.map e) := rfl
theorem asL_o (h : S[a]? = some (oL e xs)) : asL S (.ref a) = some (xs.map e) := asL_ref h
theorem asSeq_o (h : S[a]? = some (oL e xs)) : asSeq S (.ref a) = some (xs.map e) := asSeq_L (asL_ref h)
theorem asM_o (h : S[a]? = some (oL e xs)) : asM S (.ref a) = some (xs.map e) := asM_ref h
@[simp] theorem seqI_T : seqI (T e xs) S = .ok (xs.map e, fun _ => True) S := rfl
@[simp] theorem seqI_Ls : seqI (Ls e xs) S = .ok (xs.map e, fun _ => True) S := rfl
theorem seqI_o (h : S[a]? = some (oL e xs)) : seqI (.ref a) S = .ok (xs.map e, fun S' => S'[a]? = some (oL e xs)) S := by
  simp only [seqI, h, oL]
@[simp] theorem len_T : biR .len [T e xs] S = .ok (.int xs.length) S := by
  show (match asSeq S (T e xs) with | some xs => Res.ok (D.int xs.length) S | none => .stuck) = _
  simp
@[simp] theorem len_Ls : biR .len [Ls e xs] S = .ok (.int xs.length) S := by
  show (match asSeq S (Ls e xs) with | some xs => Res.ok (D.int xs.length) S | none => .stuck) = _
  simp
theorem len_o (h : S[a]? = some (oL e xs)) : biR .len [.ref a] S = .ok (.int xs.length) S := by
  show (match asSeq S (.ref a) with | some xs => Res.ok (D.int xs.length) S | none => .stuck) = _
  rw [asSeq_o h]; simp
@[simp] theorem tru_T : truD S (T e xs) = some (!xs.isEmpty) := by
  show (match asSeq S (T e xs) with | some xs => some (!xs.isEmpty) | none => none) = _
  simp
@[simp] theorem tru_Ls : truD S (Ls e xs) = some (!xs.isEmpty) := by
  show (match asSeq S (Ls e xs) with | some xs => some (!xs.isEmpty) | none => none) = _
  simp
theorem tru_o (h : S[a]? = some (oL e xs)) : truD S (.ref a) = some (!xs.isEmpty) := by
  show (match asSeq S (.ref a) with | some xs => some (!xs.isEmpty) | none => none) = _
  rw [asSeq_o h]; simp
def ix [Inhabited α] (xs : List α) (i : Int) : α := xs.getD i.toNat default
theorem ix_get [Inhabited α] {i : Int} (h0 : 0 ≤ i) (h1 : i < xs.length) : xs[i.toNat]? = some (ix xs i) := by
  unfold ix; rw [List.getD_eq_getElem?_getD, List.getElem?_eq_getElem (by omega)]; rfl
theorem ix_mem [Inhabited α] {i : Int} (h0 : 0 ≤ i) (h1 : i < xs.length) : ix xs i ∈ xs := List.mem_of_getElem? (ix_get h0 h1)
theorem ix_nat [Inhabited α] {j : Nat} (h : j < xs.length) : ix xs (j : Int) = xs[j] := by
  unfold ix; rw [List.getD_eq_getElem?_getD, Int.toNat_natCast, List.getElem?_eq_getElem h]; rfl
theorem pt_ix (xs : List Int) (i : Int) : ix xs i = xs.getD i.toNat 0 := rfl
theorem idx_q [Inhabited α] {d : D} {i : Int} (h : asSeq S d = some (xs.map e)) (h0 : 0 ≤ i) (h1 : i < xs.length) : idxR d (.int i) S = .ok (e (ix xs i)) S :=
  idx_seq h h0 (by rw [List.getElem?_map, ix_get h0 h1]; rfl)
theorem idx_T [Inhabited α] {i : Int} (h0 : 0 ≤ i) (h1 : i < xs.length) : idxR (T e xs) (.int i) S = .ok (e (ix xs i)) S := idx_q rfl h0 h1
theorem idx_L [Inhabited α] {i : Int} (h0 : 0 ≤ i) (h1 : i < xs.length) : idxR (Ls e xs) (.int i) S = .ok (e (ix xs i)) S := idx_q rfl h0 h1
theorem idx_o [Inhabited α] {i : Int} (h : S[a]? = some (oL e xs)) (h0 : 0 ≤ i) (h1 : i < xs.length) : idxR (.ref a) (.int i) S = .ok (e (ix xs i)) S := idx_q (asSeq_o h) h0 h1
theorem idx_qm [Inhabited α] {d : D} (h : asSeq S d = some (xs.map e)) (h1 : 0 < xs.length) : idxR d (.int (-1)) S = .ok (e (ix xs ((xs.length : Int) - 1))) S := by
  have hg : xs[xs.length - 1]? = some (ix xs ((xs.length : Int) - 1)) := by
    have := ix_get (xs := xs) (i := (xs.length : Int) - 1) (by omega) (by omega)
    rw [show ((xs.length : Int) - 1).toNat = xs.length - 1 by omega] at this
    exact this
  simp only [idxR, h, atI]
  rw [ixN_neg (by omega) (by rw [List.length_map]; omega), List.length_map, show (-1 + (xs.length : Int)).toNat = xs.length - 1 by omega]
  simp only [Option.bind_some, List.getElem?_map, hg, Option.map_some]
theorem idx_Tm [Inhabited α] (h1 : 0 < xs.length) : idxR (T e xs) (.int (-1)) S = .ok (e (ix xs ((xs.length : Int) - 1))) S := idx_qm rfl h1
theorem idx_Lm [Inhabited α] (h1 : 0 < xs.length) : idxR (Ls e xs) (.int (-1)) S = .ok (e (ix xs ((xs.length : Int) - 1))) S := idx_qm rfl h1
theorem idx_om [Inhabited α] (h : S[a]? = some (oL e xs)) (h1 : 0 < xs.length) : idxR (.ref a) (.int (-1)) S = .ok (e (ix xs ((xs.length : Int) - 1))) S := idx_qm (asSeq_o h) h1
@[simp] theorem idx_P0 {p : α × β} : idxR (P2 e f p) (.int 0) S = .ok (e p.1) S := rfl
@[simp] theorem idx_P1 {p : α × β} : idxR (P2 e f p) (.int 1) S = .ok (f p.2) S := rfl
theorem idx_lit {ds : List D} {v : Int} {Q : D → Store → Prop} (h0 : 0 ≤ v) (h1 : v < ds.length) (k : ∀ d ∈ ds, Q d S) : wpR (idxR (.lst ds) (.int v) S) Q := by
  rw [idx_seq (xs := ds) (d := ds[v.toNat]'(by omega)) rfl h0 (List.getElem?_eq_getElem _)]
  exact k _ (List.getElem_mem _)
def cutL (xs : List α) (lo hi : Option Int) : List α := (xs.drop (HT.sIx xs.length 0 lo)).take (HT.sIx xs.length xs.length hi - HT.sIx xs.length 0 lo)
theorem cut_map (xs : List α) (lo hi : Option Int) : cutD (xs.map e) lo hi = (cutL xs lo hi).map e := by
  unfold cutD cutL; rw [List.map_take, List.map_drop, List.length_map]
theorem sl_T {lo hi : Option Int} : slR (T e xs) lo hi S = .ok (T e (cutL xs lo hi)) S := by
  show Res.ok (D.tup (cutD (xs.map e) lo hi)) S = _
  rw [cut_map]; rfl
theorem cut_to {i : Int} (h : 0 ≤ i) : cutL xs none (some i) = xs.take i.toNat := by
  unfold cutL
  have e1 : HT.sIx xs.length 0 none = 0 := rfl
  have e2 : HT.sIx xs.length xs.length (some i) = min i.toNat xs.length := by
    show (if i < 0 then (i + (xs.length : Int)).toNat else min i.toNat xs.length) = _
    rw [if_neg (by omega)]
  rw [e1, e2, List.drop_zero, Nat.sub_zero]
  by_cases hh : i.toNat ≤ xs.length
  · rw [Nat.min_eq_left hh]
  · rw [Nat.min_eq_right (by omega), List.take_length, List.take_of_length_le (by omega)]
theorem cut_from {i : Int} (h : 0 ≤ i) : cutL xs (some i) none = xs.drop i.toNat := by
  unfold cutL
  have e1 : HT.sIx xs.length xs.length none = xs.length := rfl
  have e2 : HT.sIx xs.length 0 (some i) = min i.toNat xs.length := by
    show (if i < 0 then (i + (xs.length : Int)).toNat else min i.toNat xs.length) = _
    rw [if_neg (by omega)]
  rw [e1, e2]
  by_cases hh : i.toNat ≤ xs.length
  · rw [Nat.min_eq_left hh, List.take_of_length_le (by rw [List.length_drop]; omega)]
  · rw [Nat.min_eq_right (by omega), List.drop_length, List.drop_eq_nil_of_le (by omega)]; simp
theorem cut_mid {i j : Int} (h : 0 ≤ i) (h2 : 0 ≤ j) : cutL xs (some i) (some j) = (xs.take j.toNat).drop i.toNat := by
  unfold cutL
  have e1 : HT.sIx xs.length xs.length (some j) = min j.toNat xs.length := by
    show (if j < 0 then (j + (xs.length : Int)).toNat else min j.toNat xs.length) = _
    rw [if_neg (by omega)]
  have e2 : HT.sIx xs.length 0 (some i) = min i.toNat xs.length := by
    show (if i < 0 then (i + (xs.length : Int)).toNat else min i.toNat xs.length) = _
    rw [if_neg (by omega)]
  rw [e1, e2, List.drop_take]
  refine List.ext_getElem? fun k => ?_
  simp only [List.getElem?_take, List.getElem?_drop]
  by_cases hi : i.toNat ≤ xs.length
  · rw [Nat.min_eq_left hi]
    by_cases hj : j.toNat ≤ xs.length
    · rw [Nat.min_eq_left hj]
    · rw [Nat.min_eq_right (by omega)]
      by_cases hk : k < xs.length - i.toNat
      · rw [if_pos hk, if_pos (by omega)]
      · rw [if_neg hk, List.getElem?_eq_none (by omega)]; simp
  · rw [Nat.min_eq_right (show xs.length ≤ i.toNat by omega), List.getElem?_eq_none (by omega), List.getElem?_eq_none (by omega)]; simp
theorem cut_all : cutL xs none none = xs := by
  unfold cutL
  have e1 : HT.sIx xs.length xs.length none = xs.length := rfl
  have e2 : HT.sIx xs.length 0 none = 0 := rfl
  rw [e1, e2, List.drop_zero, Nat.sub_zero, List.take_length]
theorem cut_m1 : cutL xs none (some (-1)) = xs.dropLast := by
  unfold cutL
  have e1 : HT.sIx xs.length 0 none = 0 := rfl
  have e2 : HT.sIx xs.length xs.length (some (-1)) = (-1 + (xs.length : Int)).toNat := by
    show (if (-1 : Int) < 0 then (-1 + (xs.length : Int)).toNat else min (-1 : Int).toNat xs.length) = _
    rw [if_pos (by omega)]
  rw [e1, e2, List.drop_zero, Nat.sub_zero, List.dropLast_eq_take]
  congr 1; omega
@[simp] theorem bo_T : bopR .add (T e xs) (T e ys) S = if xs.length + ys.length ≤ sizeLine then .ok (T e (xs ++ ys)) S else .stuck := by
  show (if (xs.map e).length + (ys.map e).length ≤ sizeLine then Res.ok (D.tup (xs.map e ++ ys.map e)) S else .stuck) = _
  rw [List.length_map, List.length_map, ← List.map_append]; rfl
theorem bo_T1 : bopR .add (T e xs) (.tup [e y]) S = if xs.length + 1 ≤ sizeLine then .ok (T e (xs ++ [y])) S else .stuck := bo_T (ys := [y])
/-! ### frozen lists -/
theorem frz_ok {d d' : D} (h : fz 12 S.length S d = some d') : frzR S (.ok d S) = .ok d' S := by
  have : frzR S (.ok d S) = (match fz 12 S.length S d with | some d' => if okPre S S then Res.ok d' (S.take S.length) else .stuck | none => .stuck) := rfl
  rw [this, h]
  simp only
  rw [if_pos (okPre_refl S), List.take_length]
@[simp] theorem frz_enc [Fz e m] (h : m ≤ 12) : frzR S (.ok (e x) S) = .ok (e x) S := frz_ok (fz_enc h)
theorem frz_app {d d' : D} {U : Store} (h : fz 12 S.length (S ++ U) d = some d') : frzR S (.ok d (S ++ U)) = .ok d' S := by
  have : frzR S (.ok d (S ++ U)) = (match fz 12 S.length (S ++ U) d with | some d' => if okPre S (S ++ U) then Res.ok d' ((S ++ U).take S.length) else .stuck | none => .stuck) := rfl
  rw [this, h]
  simp only
  rw [if_pos (okPre_app S U), List.take_left]
@[simp] theorem frz_alloc [Fz e m] (h : m ≤ 11) : frzR S (alloc (.lst (xs.map e)) S) = .ok (Ls e xs) S := frz_app (U := [oL e xs]) (fz_oref h (Nat.le_refl _) (snoc_get _ _))
theorem frz_lit {ds : List D} (h : ∀ d ∈ ds, ∀ n S, fz 11 n S d = some d) : frzR S (alloc (.lst ds) S) = .ok (.lst ds) S := frz_app (U := [.lst ds]) (by
  show (if S.length ≤ S.length then (match (S ++ [Ob.lst ds])[S.length]? with
      | some (.lst xs) => Option.map D.lst (xs.mapM (fz 11 S.length (S ++ [Ob.lst ds])))
      | _ => none) else none) = _
  rw [if_pos (Nat.le_refl _), snoc_get]
  show Option.map D.lst (ds.mapM (fz 11 S.length (S ++ [Ob.lst ds]))) = _
  rw [mapM_some fun d hd => h d hd _ _]; rfl)
@[simp] theorem frz_al0 : frzR S (alloc (.lst []) S) = .ok (.lst []) S := frz_lit fun d hd => by cases hd
theorem frz_al1 [Fz e m] (h : m ≤ 11) : frzR S (alloc (.lst [e x]) S) = .ok (Ls e [x]) S := frz_alloc (xs := [x]) h
theorem frz_al2 [Fz e m] (h : m ≤ 11) : frzR S (alloc (.lst [e x, e y]) S) = .ok (Ls e [x, y]) S := frz_alloc (xs := [x, y]) h
theorem frz_sl [Fz e m] (h : m ≤ 11) {lo hi : Option Int} : frzR S (slR (Ls e xs) lo hi S) = .ok (Ls e (cutL xs lo hi)) S := by
  rw [show slR (Ls e xs) lo hi S = alloc (.lst (cutD (xs.map e) lo hi)) S from rfl, cut_map, frz_alloc h]
theorem frz_slo [Fz e m] (h : m ≤ 11) (h1 : S[a]? = some (oL e xs)) {lo hi : Option Int} : frzR S (slR (.ref a) lo hi S) = .ok (Ls e (cutL xs lo hi)) S := by
  have : slR (.ref a) lo hi S = alloc (.lst (cutD (xs.map e) lo hi)) S := by simp only [slR, asL_o h1]
  rw [this, cut_map, frz_alloc h]
theorem frz_rev [Fz e m] (h : m ≤ 11) : frzR S (revR (Ls e xs) S) = .ok (Ls e xs.reverse) S := by
  rw [show revR (Ls e xs) S = alloc (.lst (xs.map e).reverse) S from rfl, ← List.map_reverse, frz_alloc h]
theorem rev_T : revR (T e xs) S = .ok (T e xs.reverse) S := by
  rw [T, T, List.map_reverse]; rfl
theorem frz_revo [Fz e m] (h : m ≤ 11) (h1 : S[a]? = some (oL e xs)) : frzR S (revR (.ref a) S) = .ok (Ls e xs.reverse) S := by
  rw [rev_ref h1, ← List.map_reverse, frz_alloc h]
theorem frz_add [Fz e m] (h : m ≤ 11) (h2 : xs.length + ys.length ≤ sizeLine) : frzR S (bopR .add (Ls e xs) (Ls e ys) S) = .ok (Ls e (xs ++ ys)) S := by
  have : bopR .add (Ls e xs) (Ls e ys) S = if (xs.map e).length + (ys.map e).length ≤ sizeLine then alloc (.lst (xs.map e ++ ys.map e)) S else .stuck := rfl
  rw [this, List.length_map, List.length_map, if_pos h2, ← List.map_append, frz_alloc h]
theorem frz_addN [Fz e m] (h : m ≤ 11) (h2 : xs.length ≤ sizeLine) : frzR S (bopR .add (Ls e xs) (.lst []) S) = .ok (Ls e xs) S := by
  have := frz_add (S := S) (ys := []) (xs := xs) (e := e) h h2
  rw [List.append_nil] at this; exact this
theorem frz_Nadd [Fz e m] (h : m ≤ 11) (h2 : xs.length ≤ sizeLine) : frzR S (bopR .add (.lst []) (Ls e xs) S) = .ok (Ls e xs) S := by
  exact frz_add (S := S) (xs := []) (ys := xs) (e := e) h (by simpa using h2)
theorem frz_listT [Fz e m] (h : m ≤ 11) : frzR S (biR .list1 [T e xs] S) = .ok (Ls e xs) S := frz_alloc h
theorem frz_listL [Fz e m] (h : m ≤ 11) : frzR S (biR .list1 [Ls e xs] S) = .ok (Ls e xs) S := frz_alloc h
theorem frz_listo [Fz e m] (h : m ≤ 11) (h1 : S[a]? = some (oL e xs)) : frzR S (biR .list1 [.ref a] S) = .ok (Ls e xs) S := by
  rw [show biR .list1 [.ref a] S = (match asSeq S (.ref a) with | some xs => alloc (.lst xs) S | none => .stuck) from rfl, asSeq_o h1]
  exact frz_alloc h
@[simp] theorem tup_L : biR .tuple1 [Ls e xs] S = .ok (T e xs) S := rfl
@[simp] theorem tup_T : biR .tuple1 [T e xs] S = .ok (T e xs) S := rfl
theorem tup_o (h : S[a]? = some (oL e xs)) : biR .tuple1 [.ref a] S = .ok (T e xs) S := bi_tupL h
@[simp] theorem is_tT : isR .tuple (T e xs) S = .ok (.bl true) S := rfl
@[simp] theorem is_lL : isR .list (Ls e xs) S = .ok (.bl true) S := rfl
@[simp] theorem is_lT : isR .list (T e xs) S = .ok (.bl false) S := rfl
@[simp] theorem is_tP {p : α × β} : isR .tuple (P2 e f p) S = .ok (.bl true) S := rfl
@[simp] theorem is_bT : isR .bool (T e xs) S = .ok (.bl false) S := rfl
theorem is_lo (h : S[a]? = some (oL e xs)) : isR .list (.ref a) S = .ok (.bl true) S := by simp only [isR, h, oL]
theorem frz_rep [Fz e m] (h : m ≤ 11) {i : Int} (h1 : -(2 ^ 63) ≤ i) (h2 : i < 2 ^ 63) (h3 : xs.length * i.toNat ≤ sizeLine) : frzR S (bopR .mul (Ls e xs) (.int i) S) = .ok (Ls e (List.replicate i.toNat xs).flatten) S := by
  have : bopR .mul (Ls e xs) (.int i) S = if -(2 ^ 63) ≤ i ∧ i < 2 ^ 63 ∧ (xs.map e).length * i.toNat ≤ sizeLine then alloc (.lst (List.replicate i.toNat (xs.map e)).flatten) S else .stuck := rfl
  rw [this, List.length_map, if_pos ⟨h1, h2, h3⟩]
  have e2 : (List.replicate i.toNat (xs.map e)).flatten = ((List.replicate i.toNat xs).flatten).map e := by rw [List.map_flatten, List.map_replicate]
  rw [e2, frz_alloc h]
theorem rep_T {i : Int} (h1 : -(2 ^ 62) ≤ i) (h2 : i ≤ 1000) (h3 : xs.length ≤ 1000) : bopR .mul (T e xs) (.int i) S = .ok (T e (List.replicate i.toNat xs).flatten) S := by
  have : bopR .mul (T e xs) (.int i) S = if -(2 ^ 62) ≤ i ∧ i ≤ 1000 ∧ (xs.map e).length ≤ 1000 then Res.ok (.tup (List.replicate i.toNat (xs.map e)).flatten) S else .stuck := rfl
  rw [this, List.length_map, if_pos ⟨h1, h2, h3⟩, ← List.map_replicate, ← List.map_flatten]; rfl
theorem mt_appo (h : S[a]? = some (oL e xs)) (h2 : xs.length < sizeLine) : mtR .append (.ref a) [e x] S = .ok .non (S.set a (oL e (xs ++ [x]))) := by
  simp only [mtR, h, oL]
  rw [List.length_map, if_pos h2, List.map_append]; rfl
end
section
variable {S : Store} {ns : List Int} {a : Nat}
@[simp] theorem sum_T : biR .sum1 [T D.int ns] S = .ok (.int ns.sum) S := by
  show (match asSeq S (T D.int ns) with | some xs => (match intsD xs with | some ns => Res.ok (D.int ns.sum) S | none => .stuck) | none => .stuck) = _
  rw [asSeq_T]; simp only [intsD_map]
@[simp] theorem sum_L : biR .sum1 [Ls D.int ns] S = .ok (.int ns.sum) S := by
  show (match asSeq S (Ls D.int ns) with | some xs => (match intsD xs with | some ns => Res.ok (D.int ns.sum) S | none => .stuck) | none => .stuck) = _
  rw [asSeq_Ls]; simp only [intsD_map]
theorem max_L (h : 0 < ns.length) : biR .max1 [Ls D.int ns] S = .ok (.int (maxL ns)) S := by
  show (match asSeq S (Ls D.int ns) with | some xs => (match intsD xs with | some ns => (if 0 < ns.length then Res.ok (D.int (maxL ns)) S else .stuck) | none => .stuck) | none => .stuck) = _
  rw [asSeq_Ls]; simp only [intsD_map, if_pos h]
theorem max_T (h : 0 < ns.length) : biR .max1 [T D.int ns] S = .ok (.int (maxL ns)) S := by
  show (match asSeq S (T D.int ns) with | some xs => (match intsD xs with | some ns => (if 0 < ns.length then Res.ok (D.int (maxL ns)) S else .stuck) | none => .stuck) | none => .stuck) = _
  rw [asSeq_T]; simp only [intsD_map, if_pos h]
def srt (ns : List Int) : List Int := ns.mergeSort fun a b => decide (a ≤ b)
theorem frz_srt : frzR S (biR .sorted1 [Ls D.int ns] S) = .ok (Ls D.int (srt ns)) S := by
  have : biR .sorted1 [Ls D.int ns] S = alloc (.lst ((srt ns).map D.int)) S := by
    show (match asL S (Ls D.int ns) with | some xs => (match intsD xs with | some ns => alloc (.lst ((ns.mergeSort fun a b => decide (a ≤ b)).map D.int)) S | none => .stuck) | none => .stuck) = _
    rw [asL_Ls]; simp only [intsD_map]; rfl
  rw [this, frz_alloc (by decide)]
theorem srt_perm : (srt ns).Perm ns := List.mergeSort_perm ns _
theorem srt_pw : (srt ns).Pairwise (fun a b => a ≤ b) :=
  (List.pairwise_mergeSort (le := fun a b : Int => decide (a ≤ b)) (fun a b c h1 h2 => by simp at h1 h2 ⊢; omega) (fun a b => by simp; omega) ns).imp fun h => of_decide_eq_true h
end
/-! ### comprehensions, quantifiers -/
section
variable {α β : Type} {e : α → D} {e' : β → D} {f : α → β} {m : Nat} {S : Store} {xs : List α} {G : Store → Prop} {step : D → Store → Res (Option D)} {Q : D → Store → Prop}
theorem lc_map (hG : G S) (h : ∀ x ∈ xs, step (e x) S = .ok (some (e' (f x))) S) : lcGo G step (xs.map e) S = .ok ((xs.map f).map e') S := by
  induction xs with
  | nil => rw [List.map_nil, lcGo, if_pos hG]; rfl
  | cons x xs ih =>
    rw [List.map_cons, lcGo, if_pos hG, h x List.mem_cons_self, Res.bind_ok, ih fun y hy => h y (List.mem_cons_of_mem _ hy), Res.bind_ok]; rfl
theorem lc_fil {p : α → Bool} (hG : G S) (h : ∀ x ∈ xs, step (e x) S = .ok (if p x then some (e' (f x)) else none) S) : lcGo G step (xs.map e) S = .ok (((xs.filter p).map f).map e') S := by
  induction xs with
  | nil => rw [List.map_nil, lcGo, if_pos hG]; rfl
  | cons x xs ih =>
    rw [List.map_cons, lcGo, if_pos hG, h x List.mem_cons_self, Res.bind_ok, ih fun y hy => h y (List.mem_cons_of_mem _ hy), Res.bind_ok, List.filter_cons]
    cases p x <;> rfl
theorem flc_map [Fz e' m] (hm : m ≤ 11) (hG : G S) (hl : xs.length ≤ 1000000) (h : ∀ x ∈ xs, step (e x) S = .ok (some (e' (f x))) S) :
    frzR S ((lcGo G step (xs.map e) S).noexc.bind fun ds S2 => if ds.length ≤ sizeLine then alloc (.lst ds) S2 else .stuck) = .ok (Ls e' (xs.map f)) S := by
  have hz := sl_sz
  rw [lc_map hG h, Res.noexc_ok, Res.bind_ok, if_pos (by rw [List.length_map, List.length_map]; omega), frz_alloc hm]
theorem flc_fil [Fz e' m] {p : α → Bool} (hm : m ≤ 11) (hG : G S) (hl : xs.length ≤ 1000000) (h : ∀ x ∈ xs, step (e x) S = .ok (if p x then some (e' (f x)) else none) S) :
    frzR S ((lcGo G step (xs.map e) S).noexc.bind fun ds S2 => if ds.length ≤ sizeLine then alloc (.lst ds) S2 else .stuck) = .ok (Ls e' ((xs.filter p).map f)) S := by
  have hz := sl_sz
  have := List.length_filter_le p xs
  rw [lc_fil hG h, Res.noexc_ok, Res.bind_ok, if_pos (by rw [List.length_map, List.length_map]; omega), frz_alloc hm]
/-- over a range -/
theorem flc_rng [Fz e' m] {f : Nat → β} {lo : Int} {n : Nat} (hm : m ≤ 11) (hG : G S) (hl : n ≤ 1000000) (h : ∀ k, k < n → step (.int (lo + (k : Int))) S = .ok (some (e' (f k))) S) :
    frzR S ((lcGo G step (rngL lo n) S).noexc.bind fun ds S2 => if ds.length ≤ sizeLine then alloc (.lst ds) S2 else .stuck) = .ok (Ls e' ((List.range n).map f)) S :=
  flc_map (e := fun i : Nat => D.int (lo + (i : Int))) hm hG (by rw [List.length_range]; exact hl) fun k hk => h k (List.mem_range.mp hk)
theorem flc_rngF [Fz e' m] {f : Nat → β} {p : Nat → Bool} {lo : Int} {n : Nat} (hm : m ≤ 11) (hG : G S) (hl : n ≤ 1000000) (h : ∀ k, k < n → step (.int (lo + (k : Int))) S = .ok (if p k then some (e' (f k)) else none) S) :
    frzR S ((lcGo G step (rngL lo n) S).noexc.bind fun ds S2 => if ds.length ≤ sizeLine then alloc (.lst ds) S2 else .stuck) = .ok (Ls e' (((List.range n).filter p).map f)) S :=
  flc_fil (e := fun i : Nat => D.int (lo + (i : Int))) hm hG (by rw [List.length_range]; exact hl) fun k hk => h k (List.mem_range.mp hk)
theorem all_map {p : α → Bool} (hG : G S) (h : ∀ x ∈ xs, step (e x) S = .ok (some (.bl (p x))) S) : allGo G step false (xs.map e) S = .ok (.bl (xs.all p)) S := by
  induction xs with
  | nil => rw [List.map_nil, allGo, if_pos hG]; rfl
  | cons x xs ih =>
    rw [List.map_cons, allGo, if_pos hG, h x List.mem_cons_self, Res.bind_ok]
    simp only
    rw [List.all_cons]
    cases hp : p x with
    | true => simp only [Bool.true_eq_false, if_false, Bool.true_and]; exact ih fun y hy => h y (List.mem_cons_of_mem _ hy)
    | false => simp
theorem any_map {p : α → Bool} (hG : G S) (h : ∀ x ∈ xs, step (e x) S = .ok (some (.bl (p x))) S) : allGo G step true (xs.map e) S = .ok (.bl (xs.any p)) S := by
  induction xs with
  | nil => rw [List.map_nil, allGo, if_pos hG]; rfl
  | cons x xs ih =>
    rw [List.map_cons, allGo, if_pos hG, h x List.mem_cons_self, Res.bind_ok]
    simp only
    rw [List.any_cons]
    cases hp : p x with
    | true => simp
    | false => simp only [Bool.false_eq_true, if_false, Bool.false_or]; exact ih fun y hy => h y (List.mem_cons_of_mem _ hy)
theorem all_rng {p : Nat → Bool} {lo : Int} {n : Nat} (hG : G S) (h : ∀ k, k < n → step (.int (lo + (k : Int))) S = .ok (some (.bl (p k))) S) : allGo G step false (rngL lo n) S = .ok (.bl ((List.range n).all p)) S :=
  all_map (e := fun i : Nat => D.int (lo + (i : Int))) hG fun k hk => h k (List.mem_range.mp hk)
theorem any_rng {p : Nat → Bool} {lo : Int} {n : Nat} (hG : G S) (h : ∀ k, k < n → step (.int (lo + (k : Int))) S = .ok (some (.bl (p k))) S) : allGo G step true (rngL lo n) S = .ok (.bl ((List.range n).any p)) S :=
  any_map (e := fun i : Nat => D.int (lo + (i : Int))) hG fun k hk => h k (List.mem_range.mp hk)
/-- for x in xs -/
theorem wpS_each {t : Tg} {body : GE → Store → SR} {N : GE → Store → Prop} {R : D → Store → Prop} (J : Nat → GE → Store → Prop) {g : GE} (h : J 0 g S)
    (st : ∀ (k : Nat) (hk : k < xs.length) g S, J k g S → G S ∧ ∃ g', setT S t (e xs[k]) g = some g' ∧ wpS (body g' S) (J (k + 1)) R) (en : ∀ g S, J xs.length g S → G S ∧ N g S) : wpS (forGo G t body (xs.map e) g S) N R := by
  refine wpS_list J h (fun k x g S hx hJ => ?_) (fun g S hJ => en g S (by rw [List.length_map] at hJ; exact hJ))
  rw [List.getElem?_map] at hx
  obtain ⟨y, hy, rfl⟩ := Option.map_eq_some_iff.mp hx
  obtain ⟨hk, rfl⟩ := List.getElem?_eq_some_iff.mp hy
  exact st k hk g S hJ
end
theorem l1_T {α : Type} {e : α → D} {S : Store} {xs : List α} : biR .list1 [T e xs] S = alloc (oL e xs) S := rfl
theorem l1_L {α : Type} {e : α → D} {S : Store} {xs : List α} : biR .list1 [Ls e xs] S = alloc (oL e xs) S := rfl
theorem l1_o {α : Type} {e : α → D} {S : Store} {a : Nat} {xs : List α} (h : S[a]? = some (oL e xs)) : biR .list1 [.ref a] S = alloc (oL e xs) S := by
  rw [show biR .list1 [.ref a] S = (match asSeq S (.ref a) with | some xs => alloc (.lst xs) S | none => .stuck) from rfl, asSeq_o h]; rfl
theorem mt_popo {α : Type} {e : α → D} {S : Store} {a : Nat} {q : List α} {y : α} (h : S[a]? = some (oL e (q ++ [y]))) : mtR .pop (.ref a) [] S = .ok (e y) (S.set a (oL e q)) := by
  simp only [mtR, h, oL]
  simp
theorem set_snoc (S : Store) (o o' : Ob) : (S ++ [o]).set S.length o' = S ++ [o'] := by
  rw [List.set_append_right _ _ (Nat.le_refl _), Nat.sub_self]; rfl
/-! ### statement by statement -/
/-- what is left of a block -/
def Then (F : Fn) (r : CSs) (N : GE → Store → Prop) (R : D → Store → Prop) (g : GE) (S : Store) : Prop := wpS (exSs F r g S) N R
theorem Then_cons {F : Fn} {s : CS} {r : CSs} {N : GE → Store → Prop} {R : D → Store → Prop} {g : GE} {S : Store} : Then F (.cons s r) N R g S ↔ wpS (exS F s g S) (Then F r N R) R := wpS_cons
@[simp] theorem Then_nil {F : Fn} {N : GE → Store → Prop} {R : D → Store → Prop} {g : GE} {S : Store} : Then F .nil N R g S ↔ N g S := wpS_nil
theorem wpS_blk {F : Fn} {b : CSs} {N : GE → Store → Prop} {R : D → Store → Prop} {g : GE} {S : Store} : wpS (exSs F b g S) N R ↔ Then F b N R g S := Iff.rfl
@[simp] theorem wpS_blk1 {F : Fn} {s : CS} {N : GE → Store → Prop} {R : D → Store → Prop} {g : GE} {S : Store} : wpS (exSs F (.cons s .nil) g S) N R ↔ wpS (exS F s g S) N R := by
  rw [wpS_cons]; simp only [wpS_nil]
@[simp] theorem wpS_blk0 {F : Fn} {N : GE → Store → Prop} {R : D → Store → Prop} {g : GE} {S : Store} : wpS (exSs F .nil g S) N R ↔ N g S := wpS_nil
theorem wpR_def {F : Fn} {d : FD} {ds : List D} {S : Store} {Q : D → Store → Prop} (hl : ds.length = d.np) (h : Then F d.body (fun _ S => Q .non S) Q (ds.map some ++ List.replicate (d.nn - ds.length) none) S) : wpR (runD F d ds S) Q := wpR_run.mpr ⟨hl, h⟩
/-! ### calls -/
/-- a function's equation from its run -/
theorem fn_eq {F : Fn} {d : FD} {ds : List D} {S : Store} {v : D} (h : wpR (runD F d ds S) fun r S' => (∃ U, S' = S ++ U) ∧ fz 12 S.length S' r = some v) : frzR S (runD F d ds S) = .ok v S := by
  obtain ⟨r, S', e, ⟨U, rfl⟩, hf⟩ := wpR_get h
  rw [e]; exact frz_app hf
theorem fn_eq0 {F : Fn} {d : FD} {ds : List D} {S : Store} {α : Type} {e : α → D} {m : Nat} [Fz e m] {x : α} (hm : m ≤ 12) (h : wpR (runD F d ds S) fun r S' => S' = S ∧ r = e x) : frzR S (runD F d ds S) = .ok (e x) S :=
  fn_eq (wpR_mono h fun r S' ⟨e1, e2⟩ => ⟨⟨[], by rw [e1, List.append_nil]⟩, by rw [e2, fz_enc hm]⟩)
def SoB (so : Int → Ob) : Prop := ∀ n m, BdO m (so n)
/-- a call that draws: at most c numbers -/
def Dw {α : Type} (so : Int → Ob) (r : Store → Res D) (c : Int) (e : α → D) (P : α → Prop) : Prop :=
  ∀ (n : Int) (R : Store), 0 ≤ n → n + c ≤ 2 ^ 60 → wpR (r (so n :: R)) fun d S' => ∃ n' x, n ≤ n' ∧ n' ≤ n + c ∧ S' = so n' :: R ∧ d = e x ∧ P x
/-- the end of a run that draws -/
def DwP {α : Type} (so : Int → Ob) (n : Int) (R : Store) (c : Int) (e : α → D) (P : α → Prop) (d : D) (S' : Store) : Prop := ∃ n' U x, n ≤ n' ∧ n' ≤ n + c ∧ S' = so n' :: (R ++ U) ∧ d = e x ∧ P x
section
variable {α : Type} {so : Int → Ob} {c n : Int} {e : α → D} {P : α → Prop} {R : Store} {Q : D → Store → Prop} {r : Store → Res D} {m : Nat}
theorem Dw.go (h : Dw so r c e P) (h0 : 0 ≤ n) (h1 : n + c ≤ 2 ^ 60) (k : ∀ x n', n ≤ n' → n' ≤ n + c → P x → Q (e x) (so n' :: R)) : wpR (r (so n :: R)) Q :=
  wpR_mono (h n R h0 h1) fun d S' ⟨n', x, a1, a2, a3, a4, a5⟩ => by rw [a3, a4]; exact k x n' a1 a2 a5
theorem okPre_so (hso : SoB so) {n n' : Int} {R U : Store} : okPre (so n :: R) (so n' :: (R ++ U)) := by
  refine ⟨by simp, fun a ha => ?_⟩
  cases a with
  | zero => exact .inr ⟨_, rfl, hso n' _⟩
  | succ a =>
    refine .inl ?_
    simp only [List.length_cons, Nat.add_lt_add_iff_right] at ha
    rw [List.getElem?_cons_succ, List.getElem?_cons_succ, List.getElem?_append_left ha]
theorem wpR_frzD (hso : SoB so) {r : Res D} (h : wpR r fun d S' => ∃ n' U d', S' = so n' :: (R ++ U) ∧ fz 12 (R.length + 1) S' d = some d' ∧ Q d' (so n' :: R)) : wpR (frzR (so n :: R) r) Q := by
  refine wpR_call (wpR_mono h fun d S' ⟨n', U, d', e1, e2, q⟩ => ?_)
  subst e1
  refine ⟨okPre_so hso, d', e2, ?_⟩
  rw [List.length_cons, List.take_succ_cons, List.take_left]; exact q
theorem wpR_frzB {γ : Type} (hso : SoB so) {r : Res γ} {k : γ → Store → Res D} (h : wpR r fun a S1 => ∃ n', S1 = so n' :: R ∧ wpR (frzR (so n' :: R) (k a (so n' :: R))) Q) : wpR (frzR (so n :: R) (r.bind k)) Q := by
  obtain ⟨a, S1, e, n', rfl, h2⟩ := wpR_get h
  rw [e, Res.bind_ok]
  unfold frzR at h2 ⊢
  rw [wpR_bind] at h2 ⊢
  refine wpR_mono h2 fun d S' h3 => ?_
  have hl : (so n :: R).length = (so n' :: R).length := rfl
  rw [hl]
  split at h3
  · rename_i d' hd
    split at h3
    · rename_i hp
      rw [if_pos ?_]
      · exact h3
      refine ⟨hp.1, fun a ha => ?_⟩
      cases a with
      | zero =>
        rcases hp.2 0 (by simp) with e0 | e0
        · exact .inr ⟨so n', e0, hso n' _⟩
        · exact .inr e0
      | succ a => exact hp.2 (a + 1) ha
    · exact h3.elim
  · exact h3.elim
theorem Dw.of [Fz e m] (hm : m ≤ 12) (hso : SoB so) {G : List D → Store → Res D} {args : List D} (h : ∀ (n : Int) (R : Store), 0 ≤ n → n + c ≤ 2 ^ 60 → wpR (G args (so n :: R)) (DwP so n R c e P)) :
    Dw so (fun S => frzR S (G args S)) c e P := fun n R h0 h1 => wpR_frzD hso (wpR_mono (h n R h0 h1) fun d S' ⟨n', U, x, a1, a2, a3, a4, a5⟩ => ⟨n', U, e x, a3, by rw [a4, fz_enc hm], n', x, a1, a2, rfl, rfl, a5⟩)
theorem Dw.mono {c' : Int} (h : Dw so r c e P) (hc : c ≤ c') : Dw so r c' e P := fun n R h0 h1 => wpR_mono (h n R h0 (by omega)) fun d S' ⟨n', x, a1, a2, a3⟩ => ⟨n', x, a1, by omega, a3⟩
/-- a comprehension's turn that draws -/
def StP {β : Type} (so : Int → Ob) (n' : Int) (R : Store) (c : Int) (e : β → D) (P : β → Prop) (o : Option D) (S' : Store) : Prop := ∃ n'' x, n' ≤ n'' ∧ n'' ≤ n' + c ∧ S' = so n'' :: R ∧ o = some (e x) ∧ P x
/-- a comprehension that draws, frozen -/
theorem wpR_flcD {β : Type} {e : β → D} {m : Nat} [Fz e m] (hm : m ≤ 11) (hso : SoB so) {lo : Int} {len : Nat} {step : D → Store → Res (Option D)} (hl : len ≤ 1000000) (P : β → Prop) (c : Int)
    (st : ∀ (k : Nat) (n' : Int), k < len → n ≤ n' → n' ≤ n + c * k → wpR (step (.int (lo + (k : Int))) (so n' :: R)) (StP so n' R c e P))
    (k : ∀ (xs : List β) (n' : Int), xs.length = len → (∀ x ∈ xs, P x) → n ≤ n' → n' ≤ n + c * len → Q (Ls e xs) (so n' :: R)) :
    wpR (frzR (so n :: R) ((lcGo (fun _ => True) step (rngL lo len) (so n :: R)).noexc.bind fun ds S2 => if ds.length ≤ sizeLine then alloc (.lst ds) S2 else .stuck)) Q := by
  have hz := sl_sz
  refine wpR_frzD hso ?_
  rw [wpR_bind, wpR_noexc]
  refine wpR_lcl (fun i acc S' => ∃ n' xs, n ≤ n' ∧ n' ≤ n + c * i ∧ S' = so n' :: R ∧ acc = xs.map e ∧ xs.length = i ∧ ∀ x ∈ xs, P x) ⟨n, [], Int.le_refl _, by simp, rfl, rfl, rfl, fun x hx => by cases hx⟩ (fun i x acc S' hx hJ => ⟨trivial, ?_⟩) (fun acc S' hJ => ⟨trivial, ?_⟩)
  · obtain ⟨n', xs, h1, h2, rfl, rfl, hl', hP⟩ := hJ
    obtain ⟨hk, rfl⟩ := rngL_get hx
    refine wpR_mono (st i n' hk h1 h2) fun o S'' ⟨n'', x, a1, a2, a3, a4, a5⟩ => ⟨n'', xs ++ [x], by omega, ?_, a3, by rw [a4]; simp, by simp [hl'], fun y hy => ?_⟩
    · have : c * ((i + 1 : Nat) : Int) = c * i + c := by rw [show ((i + 1 : Nat) : Int) = (i : Int) + 1 by omega, Int.mul_add, Int.mul_one]
      omega
    · rcases List.mem_append.mp hy with hy | hy
      · exact hP y hy
      · rw [List.mem_singleton.mp hy]; exact a5
  · obtain ⟨n', xs, h1, h2, rfl, rfl, hl', hP⟩ := hJ
    rw [rngL_len] at hl' h2
    rw [if_pos (by rw [List.length_map]; omega), wpR_alloc]
    refine ⟨n', [oL e xs], Ls e xs, rfl, ?_, k xs n' hl' hP h1 h2⟩
    exact fz_oref hm (by simp) (by
      show (so n' :: R ++ [oL e xs])[(so n' :: R).length]? = _
      exact snoc_get _ _)
end
end Li
end

section
set_option linter.all false
set_option maxRecDepth 100000
namespace Df
open PySem Li
def d_part : FD := ⟨2, 2, (.cons (.ret (.ite (.cmp .le (.var 1) (.bi .len (.cons (.var 0) .nil))) (.idx (.var 0) (.bin .sub (.var 1) (.cst (.int 1)))) (.cst (.int 0)))) .nil)⟩
def d_trimmed : FD := ⟨1, 2, (.cons (.asg (.one 1) (.bi .list1 (.cons (.var 0) .nil))) (.cons (.whl 100000 (.and_ (.cons (.var 1) (.cons (.cmp .eq (.idx (.var 1) (.neg (.cst (.int 1)))) (.cst (.int 0))) .nil))) (.cons (.ex (.mt .pop (.var 1) .nil)) .nil)) (.cons (.ret (.bi .tuple1 (.cons (.var 1) .nil))) .nil)))⟩
def d_is_strip (f0 : Nat) : FD := ⟨2, 4, (.cons (.asg (.one 2) (.bin .add (.bi .max2 (.cons (.bi .len (.cons (.var 0) .nil)) (.cons (.bi .len (.cons (.var 1) .nil)) .nil))) (.cst (.int 1)))) (.cons (.ret (.gn .all (.one 3) (.rng2 (.cst (.int 1)) (.bin .add (.var 2) (.cst (.int 1)))) .non (.cmp2 .ge .ge (.call f0 (.cons (.var 0) (.cons (.var 3) .nil))) (.call f0 (.cons (.var 1) (.cons (.var 3) .nil))) (.call f0 (.cons (.var 0) (.cons (.bin .add (.var 3) (.cst (.int 1))) .nil)))))) .nil))⟩
def d_is_chain (f0 : Nat) : FD := ⟨1, 2, (.cons (.iff (.or_ (.cons (.not_ (.var 0)) (.cons (.cmp .ne (.idx (.var 0) (.cst (.int 0))) (.tup .nil)) .nil))) (.cons (.ret (.cst (.bl false))) .nil) .nil) (.cons (.ret (.gn .all (.one 1) (.rng1 (.bin .sub (.bi .len (.cons (.var 0) .nil)) (.cst (.int 1)))) .non (.call f0 (.cons (.idx (.var 0) (.bin .add (.var 1) (.cst (.int 1)))) (.cons (.idx (.var 0) (.var 1)) .nil))))) .nil))⟩
def d_law_tape : FD := ⟨1, 6, (.cons (.asg (.one 1) (.lst .nil)) (.cons (.for_ (.one 2) (.seq (.var 0)) (.cons (.asg (.one 3) (.bin .mul (.cst (.int 2)) (.bi .int1 (.cons (.var 2) .nil)))) (.cons (.iff (.cmp .lt (.var 3) (.cst (.int 0))) (.cons (.asg (.one 3) (.bin .sub (.neg (.cst (.int 1))) (.var 3))) .nil) .nil) (.cons (.iff (.cmp .ge (.var 3) (.bin .pow (.cst (.int 10)) (.cst (.int 18)))) (.cons (.for_ (.one 4) (.rng1 (.cst (.int 40))) (.cons (.iff (.cmp .gt (.var 3) (.cst (.int 0))) (.cons (.ex (.mt .append (.var 1) (.cons (.bin .mod (.bi .int1 (.cons (.var 3) .nil)) (.cst (.int 1000))) .nil))) (.cons (.asg (.one 3) (.bin .fdiv (.var 3) (.cst (.int 1000)))) .nil)) .nil) .nil)) .nil) (.cons (.for_ (.one 4) (.rng1 (.cst (.int 3))) (.cons (.asg (.one 5) (.bin .mod (.bi .int1 (.cons (.bin .add (.bin .add (.bin .mul (.var 3) (.cst (.int 48271))) (.bin .mul (.var 4) (.cst (.int 40503)))) (.cst (.int 11))) .nil)) (.cst (.int 2147483629)))) (.cons (.ex (.mt .append (.var 1) (.cons (.bin .mod (.bi .int1 (.cons (.bin .add (.bin .mul (.var 5) (.cst (.int 69621))) (.bin .fdiv (.var 5) (.cst (.int 65536)))) .nil)) (.cst (.int 2147483629))) .nil))) .nil))) .nil)) .nil)))) (.cons (.ret (.var 1)) .nil)))⟩
def d_law_draw : FD := ⟨3, 4, (.cons (.iff (.cmp .lt (.var 1) (.bi .len (.cons (.var 0) .nil))) (.cons (.ret (.bin .mod (.bi .int1 (.cons (.idx (.var 0) (.var 1)) .nil)) (.var 2))) .nil) .nil) (.cons (.asg (.one 3) (.cst (.int 1))) (.cons (.iff (.cmp .gt (.bi .len (.cons (.var 0) .nil)) (.cst (.int 0))) (.cons (.asg (.one 3) (.idx (.var 0) (.bin .mod (.bi .int1 (.cons (.var 1) .nil)) (.bi .len (.cons (.var 0) .nil))))) .nil) .nil) (.cons (.ret (.bin .mod (.bin .mod (.bi .int1 (.cons (.bin .add (.bin .mul (.bin .mul (.bin .add (.var 3) (.var 1)) (.bin .add (.var 1) (.cst (.int 3)))) (.cst (.int 7919))) (.bin .mul (.var 1) (.cst (.int 104729)))) .nil)) (.cst (.int 65521))) (.var 2))) .nil))))⟩
def d_law_take (f0 : Nat) : FD := ⟨2, 2, (.cons (.st (.var 0) (.cst (.int 1)) (.bin .add (.idx (.var 0) (.cst (.int 1))) (.cst (.int 1)))) (.cons (.ret (.call f0 (.cons (.idx (.var 0) (.cst (.int 0))) (.cons (.idx (.var 0) (.cst (.int 1))) (.cons (.var 1) .nil))))) .nil))⟩
def d_law_part : FD := ⟨2, 2, (.cons (.iff (.cmp .le (.var 1) (.bi .len (.cons (.var 0) .nil))) (.cons (.ret (.idx (.var 0) (.bin .sub (.var 1) (.cst (.int 1))))) .nil) .nil) (.cons (.ret (.cst (.int 0))) .nil))⟩
def d_law_trim : FD := ⟨1, 2, (.cons (.ret (.bi .tuple1 (.cons (.frz (.lc (.one 1) (.seq (.var 0)) (.som (.cmp .ne (.var 1) (.cst (.int 0)))) (.var 1))) .nil))) .nil)⟩
def d_law_between (f0 : Nat) : FD := ⟨3, 4, (.cons (.asg (.one 3) (.call f0 (.cons (.var 0) (.cons (.cst (.int 6)) .nil)))) (.cons (.iff (.cmp .eq (.var 3) (.cst (.int 0))) (.cons (.ret (.var 1)) .nil) .nil) (.cons (.iff (.cmp .eq (.var 3) (.cst (.int 1))) (.cons (.ret (.var 2)) .nil) .nil) (.cons (.ret (.bin .add (.var 1) (.call f0 (.cons (.var 0) (.cons (.bin .add (.bin .sub (.var 2) (.var 1)) (.cst (.int 1))) .nil))))) .nil))))⟩
def d_law_shape (f0 f1 : Nat) : FD := ⟨2, 5, (.cons (.asg (.one 2) (.idx (.frz (.lst (.cons (.cst (.int 1)) (.cons (.cst (.int 3)) (.cons (.cst (.int 6)) (.cons (.cst (.int 999000)) .nil)))))) (.call f1 (.cons (.var 0) (.cons (.cst (.int 4)) .nil))))) (.cons (.iff (.and_ (.cons (.cmp .gt (.var 1) (.cst (.int 3))) (.cons (.cmp .gt (.var 2) (.cst (.int 6))) (.cons (.cmp .eq (.call f1 (.cons (.var 0) (.cons (.cst (.int 2)) .nil))) (.cst (.int 0))) .nil)))) (.cons (.asg (.one 2) (.cst (.int 9))) .nil) .nil) (.cons (.asg (.one 3) (.frz (.bi .sorted1 (.cons (.frz (.lc (.one 4) (.rng1 (.call f1 (.cons (.var 0) (.cons (.bin .add (.var 1) (.cst (.int 1))) .nil)))) .non (.call f1 (.cons (.var 0) (.cons (.bin .add (.var 2) (.cst (.int 1))) .nil))))) .nil)))) (.cons (.ret (.call f0 (.cons (.frz (.rev (.var 3))) .nil))) .nil))))⟩
def d_law_over (f0 f1 f2 f3 : Nat) : FD := ⟨2, 4, (.cons (.asg (.one 2) (.lst (.cons (.bin .add (.call f2 (.cons (.var 1) (.cons (.cst (.int 1)) .nil))) (.call f3 (.cons (.var 0) (.cons (.idx (.frz (.lst (.cons (.cst (.int 1)) (.cons (.cst (.int 2)) (.cons (.cst (.int 5)) .nil))))) (.call f3 (.cons (.var 0) (.cons (.cst (.int 3)) .nil)))) .nil)))) .nil))) (.cons (.for_ (.one 3) (.rng2 (.cst (.int 2)) (.bin .add (.bi .len (.cons (.var 1) .nil)) (.cst (.int 2)))) (.cons (.ex (.mt .append (.var 2) (.cons (.call f1 (.cons (.var 0) (.cons (.call f2 (.cons (.var 1) (.cons (.var 3) .nil))) (.cons (.call f2 (.cons (.var 1) (.cons (.bin .sub (.var 3) (.cst (.int 1))) .nil))) .nil)))) .nil))) .nil)) (.cons (.ret (.call f0 (.cons (.var 2) .nil))) .nil)))⟩
def d_law_below (f0 f1 f2 : Nat) : FD := ⟨2, 4, (.cons (.asg (.one 2) (.lst .nil)) (.cons (.for_ (.one 3) (.rng2 (.cst (.int 1)) (.bin .add (.bi .len (.cons (.var 1) .nil)) (.cst (.int 1)))) (.cons (.ex (.mt .append (.var 2) (.cons (.call f1 (.cons (.var 0) (.cons (.call f2 (.cons (.var 1) (.cons (.bin .add (.var 3) (.cst (.int 1))) .nil))) (.cons (.call f2 (.cons (.var 1) (.cons (.var 3) .nil))) .nil)))) .nil))) .nil)) (.cons (.ret (.call f0 (.cons (.var 2) .nil))) .nil)))⟩
def d_law_strip (f0 : Nat) : FD := ⟨2, 3, (.cons (.for_ (.one 2) (.rng2 (.cst (.int 1)) (.bin .add (.bin .add (.bi .len (.cons (.var 0) .nil)) (.bi .len (.cons (.var 1) .nil))) (.cst (.int 2)))) (.cons (.iff (.or_ (.cons (.cmp .lt (.call f0 (.cons (.var 0) (.cons (.var 2) .nil))) (.call f0 (.cons (.var 1) (.cons (.var 2) .nil)))) (.cons (.cmp .gt (.call f0 (.cons (.var 0) (.cons (.bin .add (.var 2) (.cst (.int 1))) .nil))) (.call f0 (.cons (.var 1) (.cons (.var 2) .nil)))) .nil))) (.cons (.ret (.cst (.bl false))) .nil) .nil) .nil)) (.cons (.ret (.cst (.bl true))) .nil))⟩
def d_law_chain (f0 f1 : Nat) : FD := ⟨3, 8, (.cons (.asg (.one 3) (.frz (.lst (.cons (.var 1) .nil)))) (.cons (.for_ (.one 4) (.rng1 (.var 2)) (.cons (.asg (.one 5) (.bin .sub (.bin .sub (.var 2) (.cst (.int 1))) (.var 4))) (.cons (.asg (.one 6) (.bi .list1 (.cons (.call f1 (.cons (.var 0) (.cons (.idx (.var 3) (.cst (.int 0))) .nil))) .nil))) (.cons (.for_ (.one 7) (.rng2 (.bin .add (.bi .len (.cons (.var 6) .nil)) (.cst (.int 1))) (.bin .add (.bi .len (.cons (.idx (.var 3) (.cst (.int 0))) .nil)) (.cst (.int 1)))) (.cons (.ex (.mt .append (.var 6) (.cons (.cst (.int 0)) .nil))) .nil)) (.cons (.asg (.one 6) (.frz (.sl (.var 6) .non (.som (.var 5))))) (.cons (.asg (.one 3) (.frz (.bin .add (.frz (.lst (.cons (.call f0 (.cons (.var 6) .nil)) .nil))) (.var 3)))) .nil)))))) (.cons (.ret (.var 3)) .nil)))⟩
def d_law_end (f0 f1 : Nat) : FD := ⟨2, 4, (.cons (.asg (.one 2) (.idx (.frz (.lst (.cons (.cst (.int 1)) (.cons (.cst (.int 2)) (.cons (.cst (.int 4)) (.cons (.cst (.int 9)) .nil)))))) (.call f1 (.cons (.var 0) (.cons (.cst (.int 4)) .nil))))) (.cons (.ret (.call f0 (.cons (.frz (.rev (.frz (.bi .sorted1 (.cons (.frz (.lc (.one 3) (.rng1 (.var 1)) .non (.call f1 (.cons (.var 0) (.cons (.bin .add (.var 2) (.cst (.int 1))) .nil))))) .nil))))) .nil))) .nil))⟩
def d_toggled (f0 f1 : Nat) : FD := ⟨2, 8, (.cons (.asg (.many [4, 5, 6]) (.frz (.sl (.var 0) (.som (.bin .sub (.var 1) (.cst (.int 1)))) (.som (.bin .add (.var 1) (.cst (.int 2))))))) (.cons (.asg (.one 2) (.lst .nil)) (.cons (.for_ (.one 3) (.rng2 (.cst (.int 1)) (.bin .add (.bi .len (.cons (.var 6) .nil)) (.cst (.int 1)))) (.cons (.asg (.one 7) (.ite (.cmp .eq (.var 3) (.cst (.int 1))) (.call f1 (.cons (.var 6) (.cons (.cst (.int 1)) .nil))) (.bi .min2 (.cons (.call f1 (.cons (.var 6) (.cons (.var 3) .nil))) (.cons (.call f1 (.cons (.var 4) (.cons (.bin .sub (.var 3) (.cst (.int 1))) .nil))) .nil))))) (.cons (.ex (.mt .append (.var 2) (.cons (.bin .sub (.bin .add (.var 7) (.bi .max2 (.cons (.call f1 (.cons (.var 6) (.cons (.bin .add (.var 3) (.cst (.int 1))) .nil))) (.cons (.call f1 (.cons (.var 4) (.cons (.var 3) .nil))) .nil)))) (.call f1 (.cons (.var 5) (.cons (.var 3) .nil)))) .nil))) .nil))) (.cons (.ret (.bin .add (.frz (.bin .add (.frz (.sl (.var 0) .non (.som (.var 1)))) (.frz (.lst (.cons (.call f0 (.cons (.var 2) .nil)) .nil))))) (.frz (.sl (.var 0) (.som (.bin .add (.var 1) (.cst (.int 1)))) .non)))) .nil))))⟩
def d_law_turned (f0 f1 : Nat) : FD := ⟨2, 8, (.cons (.asg (.one 2) (.idx (.var 0) (.bin .sub (.var 1) (.cst (.int 1))))) (.cons (.asg (.one 3) (.idx (.var 0) (.var 1))) (.cons (.asg (.one 4) (.idx (.var 0) (.bin .add (.var 1) (.cst (.int 1))))) (.cons (.asg (.one 5) (.lst .nil)) (.cons (.for_ (.one 6) (.rng2 (.cst (.int 1)) (.bin .add (.bin .add (.bi .len (.cons (.var 4) .nil)) (.bi .len (.cons (.var 2) .nil))) (.cst (.int 1)))) (.cons (.asg (.one 7) (.call f1 (.cons (.var 4) (.cons (.var 6) .nil)))) (.cons (.iff (.cmp .gt (.var 6) (.cst (.int 1))) (.cons (.asg (.one 7) (.bi .min2 (.cons (.var 7) (.cons (.call f1 (.cons (.var 2) (.cons (.bin .sub (.var 6) (.cst (.int 1))) .nil))) .nil)))) .nil) .nil) (.cons (.ex (.mt .append (.var 5) (.cons (.bin .sub (.bin .add (.var 7) (.bi .max2 (.cons (.call f1 (.cons (.var 4) (.cons (.bin .add (.var 6) (.cst (.int 1))) .nil))) (.cons (.call f1 (.cons (.var 2) (.cons (.var 6) .nil))) .nil)))) (.call f1 (.cons (.var 3) (.cons (.var 6) .nil)))) .nil))) .nil)))) (.cons (.ret (.bin .add (.frz (.bin .add (.frz (.sl (.var 0) .non (.som (.var 1)))) (.frz (.lst (.cons (.call f0 (.cons (.var 5) .nil)) .nil))))) (.frz (.sl (.var 0) (.som (.bin .add (.var 1) (.cst (.int 1)))) .non)))) .nil))))))⟩
def d_grow (f0 f1 f2 : Nat) : FD := ⟨4, 7, (.cons (.iff (.not_ (.call f2 (.cons (.var 1) (.cons (.var 0) .nil)))) (.cons .dead .nil) .nil) (.cons (.iff (.not_ (.call f2 (.cons (.var 2) (.cons (.var 0) .nil)))) (.cons .dead .nil) .nil) (.cons (.asg (.one 4) (.lst (.cons (.bin .add (.bi .max2 (.cons (.call f1 (.cons (.var 1) (.cons (.cst (.int 1)) .nil))) (.cons (.call f1 (.cons (.var 2) (.cons (.cst (.int 1)) .nil))) .nil))) (.var 3)) .nil))) (.cons (.for_ (.one 5) (.rng2 (.cst (.int 2)) (.bin .add (.bi .max2 (.cons (.bi .len (.cons (.var 1) .nil)) (.cons (.bi .len (.cons (.var 2) .nil)) .nil))) (.cst (.int 2)))) (.cons (.asg (.one 6) (.bi .min2 (.cons (.call f1 (.cons (.var 1) (.cons (.bin .sub (.var 5) (.cst (.int 1))) .nil))) (.cons (.call f1 (.cons (.var 2) (.cons (.bin .sub (.var 5) (.cst (.int 1))) .nil))) .nil)))) (.cons (.ex (.mt .append (.var 4) (.cons (.bin .sub (.bin .add (.bi .max2 (.cons (.call f1 (.cons (.var 1) (.cons (.var 5) .nil))) (.cons (.call f1 (.cons (.var 2) (.cons (.var 5) .nil))) .nil))) (.var 6)) (.call f1 (.cons (.var 0) (.cons (.bin .sub (.var 5) (.cst (.int 1))) .nil)))) .nil))) .nil))) (.cons (.ret (.call f0 (.cons (.var 4) .nil))) .nil)))))⟩
def d_shrink (f0 f1 f2 : Nat) : FD := ⟨3, 6, (.cons (.iff (.not_ (.call f2 (.cons (.var 2) (.cons (.var 0) .nil)))) (.cons .dead .nil) .nil) (.cons (.iff (.not_ (.call f2 (.cons (.var 2) (.cons (.var 1) .nil)))) (.cons .dead .nil) .nil) (.cons (.asg (.one 3) (.lst .nil)) (.cons (.for_ (.one 4) (.rng2 (.cst (.int 1)) (.bin .add (.bi .max2 (.cons (.bi .len (.cons (.var 0) .nil)) (.cons (.bi .len (.cons (.var 1) .nil)) .nil))) (.cst (.int 1)))) (.cons (.asg (.one 5) (.bi .min2 (.cons (.call f0 (.cons (.var 0) (.cons (.var 4) .nil))) (.cons (.call f0 (.cons (.var 1) (.cons (.var 4) .nil))) .nil)))) (.cons (.ex (.mt .append (.var 3) (.cons (.bin .sub (.bin .add (.bi .max2 (.cons (.call f0 (.cons (.var 0) (.cons (.bin .add (.var 4) (.cst (.int 1))) .nil))) (.cons (.call f0 (.cons (.var 1) (.cons (.bin .add (.var 4) (.cst (.int 1))) .nil))) .nil))) (.var 5)) (.call f0 (.cons (.var 2) (.cons (.bin .add (.var 4) (.cst (.int 1))) .nil)))) .nil))) .nil))) (.cons (.ret (.tup (.cons (.call f1 (.cons (.var 3) .nil)) (.cons (.bin .sub (.call f0 (.cons (.var 2) (.cons (.cst (.int 1)) .nil))) (.bi .max2 (.cons (.call f0 (.cons (.var 0) (.cons (.cst (.int 1)) .nil))) (.cons (.call f0 (.cons (.var 1) (.cons (.cst (.int 1)) .nil))) .nil)))) .nil)))) .nil)))))⟩
def d_shapes_of (f0 : Nat) : FD := ⟨1, 8, (.cons (.asg (.one 1) (.lst (.cons (.lc (.one 7) (.rng1 (.bin .add (.bi .len (.cons (.idx (.var 0) (.cst (.int 0))) .nil)) (.cst (.int 1)))) .non (.tup .nil)) .nil))) (.cons (.for_ (.one 2) (.seq (.var 0)) (.cons (.asg (.one 3) (.idx (.var 1) (.neg (.cst (.int 1))))) (.cons (.asg (.one 4) (.lst (.cons (.tup .nil) .nil))) (.cons (.for_ (.many [5, 6]) (.enum (.var 2)) (.cons (.ex (.mt .append (.var 4) (.cons (.call f0 (.cons (.idx (.var 3) (.var 5)) (.cons (.idx (.var 3) (.bin .add (.var 5) (.cst (.int 1)))) (.cons (.idx (.var 4) (.var 5)) (.cons (.var 6) .nil))))) .nil))) .nil)) (.cons (.ex (.mt .append (.var 1) (.cons (.var 4) .nil))) .nil))))) (.cons (.ret (.var 1)) .nil)))⟩
def d_law_grown (f0 f1 : Nat) : FD := ⟨4, 7, (.cons (.asg (.one 4) (.lst (.cons (.bin .add (.bi .max2 (.cons (.call f1 (.cons (.var 1) (.cons (.cst (.int 1)) .nil))) (.cons (.call f1 (.cons (.var 2) (.cons (.cst (.int 1)) .nil))) .nil))) (.var 3)) .nil))) (.cons (.for_ (.one 5) (.rng2 (.cst (.int 2)) (.bin .add (.bin .add (.bi .len (.cons (.var 1) .nil)) (.bi .len (.cons (.var 2) .nil))) (.cst (.int 2)))) (.cons (.asg (.one 6) (.bi .min2 (.cons (.call f1 (.cons (.var 1) (.cons (.bin .sub (.var 5) (.cst (.int 1))) .nil))) (.cons (.call f1 (.cons (.var 2) (.cons (.bin .sub (.var 5) (.cst (.int 1))) .nil))) .nil)))) (.cons (.ex (.mt .append (.var 4) (.cons (.bin .sub (.bin .add (.bi .max2 (.cons (.call f1 (.cons (.var 1) (.cons (.var 5) .nil))) (.cons (.call f1 (.cons (.var 2) (.cons (.var 5) .nil))) .nil))) (.var 6)) (.call f1 (.cons (.var 0) (.cons (.bin .sub (.var 5) (.cst (.int 1))) .nil)))) .nil))) .nil))) (.cons (.ret (.call f0 (.cons (.var 4) .nil))) .nil)))⟩
def d_law_board (f0 : Nat) : FD := ⟨2, 8, (.cons (.asg (.one 2) (.bin .add (.cst (.int 1)) (.call f0 (.cons (.var 0) (.cons (.var 1) .nil))))) (.cons (.asg (.one 3) (.bin .add (.cst (.int 1)) (.call f0 (.cons (.var 0) (.cons (.var 1) .nil))))) (.cons (.asg (.one 4) (.idx (.frz (.lst (.cons (.cst (.int 2)) (.cons (.cst (.int 3)) (.cons (.cst (.int 10)) (.cons (.cst (.int 1001)) .nil)))))) (.call f0 (.cons (.var 0) (.cons (.cst (.int 4)) .nil))))) (.cons (.asg (.one 5) (.lst .nil)) (.cons (.for_ (.one 6) (.rng1 (.var 2)) (.cons (.ex (.mt .append (.var 5) (.cons (.bi .tuple1 (.cons (.frz (.lc (.one 7) (.rng1 (.var 3)) .non (.idx (.frz (.lst (.cons (.cst (.int 0)) (.cons (.call f0 (.cons (.var 0) (.cons (.var 4) .nil))) .nil)))) (.bi .int1 (.cons (.cmp .gt (.call f0 (.cons (.var 0) (.cons (.cst (.int 4)) .nil))) (.cst (.int 0))) .nil))))) .nil)) .nil))) .nil)) (.cons (.ret (.bi .tuple1 (.cons (.var 5) .nil))) .nil))))))⟩
def d_law_corners (f0 : Nat) : FD := ⟨1, 6, (.cons (.asg (.one 1) (.lst (.cons (.bin .mul (.frz (.lst (.cons (.tup .nil) .nil))) (.bin .add (.bi .len (.cons (.idx (.var 0) (.cst (.int 0))) .nil)) (.cst (.int 1)))) .nil))) (.cons (.for_ (.one 2) (.seq (.var 0)) (.cons (.asg (.one 3) (.idx (.var 1) (.neg (.cst (.int 1))))) (.cons (.asg (.one 4) (.lst (.cons (.tup .nil) .nil))) (.cons (.for_ (.one 5) (.rng1 (.bi .len (.cons (.var 2) .nil))) (.cons (.ex (.mt .append (.var 4) (.cons (.call f0 (.cons (.idx (.var 3) (.var 5)) (.cons (.idx (.var 3) (.bin .add (.var 5) (.cst (.int 1)))) (.cons (.idx (.var 4) (.var 5)) (.cons (.idx (.var 2) (.var 5)) .nil))))) .nil))) .nil)) (.cons (.ex (.mt .append (.var 1) (.cons (.var 4) .nil))) .nil))))) (.cons (.ret (.var 1)) .nil)))⟩
def d_size_of : FD := ⟨1, 2, (.cons (.ret (.gn .sum (.one 1) (.seq (.var 0)) .non (.bi .len (.cons (.var 1) .nil)))) .nil)⟩
def d_is_tableau (f0 : Nat) : FD := ⟨1, 6, (.cons (.iff (.cmp .gt (.call f0 (.cons (.var 0) .nil)) (.gint "MOST_LETTERS" 200)) (.cons (.ret (.cst (.bl false))) .nil) .nil) (.cons (.for_ (.many [1, 2]) (.enum (.var 0)) (.cons (.iff (.or_ (.cons (.not_ (.var 2)) (.cons (.not_ (.gn .all (.one 5) (.seq (.var 2)) .non (.cmp2 .le .le (.cst (.int 1)) (.var 5) (.gint "MOST_LETTER" 60)))) .nil))) (.cons (.ret (.cst (.bl false))) .nil) .nil) (.cons (.iff (.gn .any (.one 4) (.rng1 (.bin .sub (.bi .len (.cons (.var 2) .nil)) (.cst (.int 1)))) .non (.cmp .gt (.idx (.var 2) (.var 4)) (.idx (.var 2) (.bin .add (.var 4) (.cst (.int 1)))))) (.cons (.ret (.cst (.bl false))) .nil) .nil) (.cons (.iff (.cmp .gt (.var 1) (.cst (.int 0))) (.cons (.asg (.one 3) (.idx (.var 0) (.bin .sub (.var 1) (.cst (.int 1))))) (.cons (.iff (.or_ (.cons (.cmp .gt (.bi .len (.cons (.var 2) .nil)) (.bi .len (.cons (.var 3) .nil))) (.cons (.gn .any (.one 4) (.rng1 (.bi .len (.cons (.var 2) .nil))) .non (.cmp .le (.idx (.var 2) (.var 4)) (.idx (.var 3) (.var 4)))) .nil))) (.cons (.ret (.cst (.bl false))) .nil) .nil) .nil)) .nil) .nil)))) (.cons (.ret (.cst (.bl true))) .nil)))⟩
def d_law_put : FD := ⟨2, 8, (.cons (.asg (.one 2) (.lst .nil)) (.cons (.for_ (.one 3) (.rng1 (.bi .len (.cons (.var 0) .nil))) (.cons (.asg (.one 4) (.idx (.var 0) (.var 3))) (.cons (.asg (.one 5) (.frz (.lc (.one 7) (.rng1 (.bi .len (.cons (.var 4) .nil))) (.som (.cmp .gt (.idx (.var 4) (.var 7)) (.var 1))) (.var 7)))) (.cons (.iff (.cmp .eq (.bi .len (.cons (.var 5) .nil)) (.cst (.int 0))) (.cons (.ret (.tup (.cons (.bin .add (.frz (.bin .add (.var 2) (.frz (.lst (.cons (.bin .add (.var 4) (.tup (.cons (.var 1) .nil))) .nil))))) (.frz (.sl (.var 0) (.som (.bin .add (.var 3) (.cst (.int 1)))) .non))) (.cons (.bin .add (.var 3) (.cst (.int 1))) .nil)))) .nil) .nil) (.cons (.asg (.one 6) (.idx (.var 5) (.cst (.int 0)))) (.cons (.ex (.mt .append (.var 2) (.cons (.bin .add (.bin .add (.sl (.var 4) .non (.som (.var 6))) (.tup (.cons (.var 1) .nil))) (.sl (.var 4) (.som (.bin .add (.var 6) (.cst (.int 1)))) .non)) .nil))) (.cons (.asg (.one 1) (.idx (.var 4) (.var 6))) .nil))))))) (.cons (.ret (.tup (.cons (.bin .add (.var 2) (.frz (.lst (.cons (.tup (.cons (.var 1) .nil)) .nil)))) (.cons (.bin .add (.bi .len (.cons (.var 0) .nil)) (.cst (.int 1))) .nil)))) .nil)))⟩
def d_law_made (f0 : Nat) : FD := ⟨1, 3, (.cons (.asg (.one 1) (.frz (.lst .nil))) (.cons (.for_ (.one 2) (.seq (.var 0)) (.cons (.asg (.one 1) (.idx (.call f0 (.cons (.var 1) (.cons (.var 2) .nil))) (.cst (.int 0)))) .nil)) (.cons (.ret (.bi .tuple1 (.cons (.var 1) .nil))) .nil)))⟩
def d_law_tableau : FD := ⟨1, 5, (.cons (.asg (.one 1) (.cst (.int 0))) (.cons (.for_ (.one 2) (.rng1 (.bi .len (.cons (.var 0) .nil))) (.cons (.asg (.one 3) (.idx (.var 0) (.var 2))) (.cons (.asg (.one 1) (.bin .add (.var 1) (.bi .len (.cons (.var 3) .nil)))) (.cons (.iff (.or_ (.cons (.cmp .eq (.bi .len (.cons (.var 3) .nil)) (.cst (.int 0))) (.cons (.and_ (.cons (.cmp .gt (.var 2) (.cst (.int 0))) (.cons (.cmp .gt (.bi .len (.cons (.var 3) .nil)) (.bi .len (.cons (.idx (.var 0) (.bin .sub (.var 2) (.cst (.int 1)))) .nil))) .nil))) .nil))) (.cons (.ret (.cst (.bl false))) .nil) .nil) (.cons (.for_ (.one 4) (.rng1 (.bi .len (.cons (.var 3) .nil))) (.cons (.iff (.or_ (.cons (.cmp .lt (.idx (.var 3) (.var 4)) (.cst (.int 1))) (.cons (.cmp .gt (.idx (.var 3) (.var 4)) (.cst (.int 60))) (.cons (.and_ (.cons (.cmp .gt (.var 4) (.cst (.int 0))) (.cons (.cmp .lt (.idx (.var 3) (.var 4)) (.idx (.var 3) (.bin .sub (.var 4) (.cst (.int 1))))) .nil))) .nil)))) (.cons (.ret (.cst (.bl false))) .nil) .nil) (.cons (.iff (.and_ (.cons (.cmp .gt (.var 2) (.cst (.int 0))) (.cons (.cmp .le (.idx (.var 3) (.var 4)) (.idx (.idx (.var 0) (.bin .sub (.var 2) (.cst (.int 1)))) (.var 4))) .nil))) (.cons (.ret (.cst (.bl false))) .nil) .nil) .nil))) .nil))))) (.cons (.ret (.cmp .le (.var 1) (.cst (.int 200)))) .nil)))⟩
def d_law_word (f0 : Nat) : FD := ⟨2, 4, (.cons (.asg (.one 2) (.idx (.frz (.lst (.cons (.cst (.int 1)) (.cons (.cst (.int 3)) (.cons (.cst (.int 6)) (.cons (.cst (.int 20)) (.cons (.cst (.int 60)) .nil))))))) (.call f0 (.cons (.var 0) (.cons (.cst (.int 5)) .nil))))) (.cons (.ret (.frz (.lc (.one 3) (.rng1 (.call f0 (.cons (.var 0) (.cons (.bin .add (.var 1) (.cst (.int 1))) .nil)))) .non (.bin .add (.cst (.int 1)) (.call f0 (.cons (.var 0) (.cons (.var 2) .nil))))))) .nil))⟩
def d_put : FD := ⟨2, 7, (.cons (.for_ (.many [2, 3]) (.enum (.var 0)) (.cons (.asg (.one 4) (.frz (.lc (.many [5, 6]) (.enum (.var 3)) (.som (.cmp .gt (.var 6) (.var 1))) (.var 5)))) (.cons (.iff (.not_ (.var 4)) (.cons (.ex (.mt .append (.var 3) (.cons (.var 1) .nil))) (.cons (.ret (.bin .add (.var 2) (.cst (.int 1)))) .nil)) .nil) (.cons (.stx (.var 3) (.idx (.var 4) (.cst (.int 0))) 1 (.tup (.cons (.var 1) (.cons (.idx (.var 3) (.idx (.var 4) (.cst (.int 0)))) .nil)))) .nil)))) (.cons (.ex (.mt .append (.var 0) (.cons (.lst (.cons (.var 1) .nil)) .nil))) (.cons (.ret (.bi .len (.cons (.var 0) .nil))) .nil)))⟩
def d_pair_of (f0 : Nat) : FD := ⟨1, 7, (.cons (.asg (.one 1) (.lst .nil)) (.cons (.asg (.one 2) (.lst .nil)) (.cons (.for_ (.many [3, 4]) (.enum (.var 0)) (.cons (.asg (.one 5) (.callR f0 (.cons (.var 1) (.cons (.var 4) .nil)))) (.cons (.iff (.cmp .gt (.var 5) (.bi .len (.cons (.var 2) .nil))) (.cons (.ex (.mt .append (.var 2) (.cons (.lst .nil) .nil))) .nil) .nil) (.cons (.ex (.mt .append (.idx (.var 2) (.bin .sub (.var 5) (.cst (.int 1)))) (.cons (.bin .add (.var 3) (.cst (.int 1))) .nil))) .nil)))) (.cons (.ret (.tup (.cons (.bi .tuple1 (.cons (.frz (.lc (.one 6) (.seq (.var 1)) .non (.bi .tuple1 (.cons (.var 6) .nil)))) .nil)) (.cons (.bi .tuple1 (.cons (.frz (.lc (.one 6) (.seq (.var 2)) .non (.bi .tuple1 (.cons (.var 6) .nil)))) .nil)) .nil)))) .nil))))⟩
def d_law_pair (f0 : Nat) : FD := ⟨1, 5, (.cons (.asg (.one 1) (.frz (.lst .nil))) (.cons (.asg (.one 2) (.lst .nil)) (.cons (.for_ (.one 3) (.rng1 (.bi .len (.cons (.var 0) .nil))) (.cons (.asg (.many [1, 4]) (.call f0 (.cons (.var 1) (.cons (.idx (.var 0) (.var 3)) .nil)))) (.cons (.iff (.cmp .gt (.var 4) (.bi .len (.cons (.var 2) .nil))) (.cons (.ex (.mt .append (.var 2) (.cons (.tup .nil) .nil))) .nil) .nil) (.cons (.st (.var 2) (.bin .sub (.var 4) (.cst (.int 1))) (.bin .add (.idx (.var 2) (.bin .sub (.var 4) (.cst (.int 1)))) (.tup (.cons (.bin .add (.var 3) (.cst (.int 1))) .nil)))) .nil)))) (.cons (.ret (.tup (.cons (.bi .tuple1 (.cons (.var 1) .nil)) (.cons (.bi .tuple1 (.cons (.var 2) .nil)) .nil)))) .nil))))⟩
def d_insert (f0 f1 : Nat) : FD := ⟨2, 5, (.cons (.iff (.cmp .eq (.call f1 (.cons (.var 0) .nil)) (.gint "MOST_LETTERS" 200)) (.cons (.rai "TooManyLetters") .nil) .nil) (.cons (.asg (.one 2) (.lc (.one 4) (.seq (.var 0)) .non (.bi .list1 (.cons (.var 4) .nil)))) (.cons (.asg (.one 3) (.callR f0 (.cons (.var 2) (.cons (.var 1) .nil)))) (.cons (.ret (.tup (.cons (.bi .tuple1 (.cons (.frz (.lc (.one 4) (.seq (.var 2)) .non (.bi .tuple1 (.cons (.var 4) .nil)))) .nil)) (.cons (.var 3) .nil)))) .nil))))⟩
def d_take : FD := ⟨2, 8, (.cons (.asg (.one 2) (.mt .pop (.idx (.var 0) (.bin .sub (.var 1) (.cst (.int 1)))) .nil)) (.cons (.iff (.not_ (.idx (.var 0) (.bin .sub (.var 1) (.cst (.int 1))))) (.cons (.ex (.mt .pop (.var 0) .nil)) .nil) .nil) (.cons (.for_ (.one 3) (.rrg (.bin .sub (.var 1) (.cst (.int 1)))) (.cons (.asg (.one 4) (.idx (.var 0) (.var 3))) (.cons (.asg (.one 5) (.frz (.lc (.many [6, 7]) (.enum (.var 4)) (.som (.cmp .lt (.var 7) (.var 2))) (.var 6)))) (.cons (.stx (.var 4) (.idx (.var 5) (.neg (.cst (.int 1)))) 2 (.tup (.cons (.var 2) (.cons (.idx (.var 4) (.idx (.var 5) (.neg (.cst (.int 1))))) .nil)))) .nil)))) (.cons (.ret (.var 2)) .nil))))⟩
def d_take_out (f0 : Nat) : FD := ⟨2, 5, (.cons (.iff (.or_ (.cons (.not_ (.cmp2 .le .le (.cst (.int 1)) (.var 1) (.bi .len (.cons (.var 0) .nil)))) (.cons (.and_ (.cons (.cmp .lt (.var 1) (.bi .len (.cons (.var 0) .nil))) (.cons (.cmp .eq (.bi .len (.cons (.idx (.var 0) (.var 1)) .nil)) (.bi .len (.cons (.idx (.var 0) (.bin .sub (.var 1) (.cst (.int 1)))) .nil))) .nil))) .nil))) (.cons (.rai "NoSuchRow") .nil) .nil) (.cons (.asg (.one 2) (.lc (.one 4) (.seq (.var 0)) .non (.bi .list1 (.cons (.var 4) .nil)))) (.cons (.asg (.one 3) (.callR f0 (.cons (.var 2) (.cons (.var 1) .nil)))) (.cons (.ret (.tup (.cons (.bi .tuple1 (.cons (.frz (.lc (.one 4) (.seq (.var 2)) .non (.bi .tuple1 (.cons (.var 4) .nil)))) .nil)) (.cons (.var 3) .nil)))) .nil))))⟩
end Df
end

section
set_option Elab.async false
set_option linter.all false
set_option maxRecDepth 100000
set_option maxHeartbeats 4000000
namespace Df
open PySem Li
def d_chain_of (f0 : Nat) : FD := ⟨2, 6, (.cons (.iff (.an2 (.one 4) (.seq (.var 0)) (.one 5) (.seq (.var 4)) (.cmp .gt (.var 5) (.var 1))) (.cons (.rai "LetterTooGreat") .nil) .nil) (.cons (.asg (.one 2) (.lst .nil)) (.cons (.for_ (.one 3) (.rng1 (.bin .add (.var 1) (.cst (.int 1)))) (.cons (.ex (.mt .append (.var 2) (.cons (.call f0 (.cons (.frz (.lc (.one 4) (.seq (.var 0)) .non (.gn .sum (.one 5) (.seq (.var 4)) (.som (.cmp .le (.var 5) (.var 3))) (.cst (.int 1))))) .nil)) .nil))) .nil)) (.cons (.ret (.var 2)) .nil))))⟩
def d_tableau_of (f0 : Nat) : FD := ⟨1, 5, (.cons (.iff (.cmp .gt (.bi .sum1 (.cons (.idx (.var 0) (.neg (.cst (.int 1)))) .nil)) (.gint "MOST_LETTERS" 200)) (.cons (.rai "TooManyLetters") .nil) .nil) (.cons (.asg (.one 1) (.lst .nil)) (.cons (.for_ (.one 2) (.rng2 (.cst (.int 1)) (.bin .add (.bi .len (.cons (.idx (.var 0) (.neg (.cst (.int 1)))) .nil)) (.cst (.int 1)))) (.cons (.asg (.one 3) (.lst .nil)) (.cons (.for_ (.one 4) (.rng2 (.cst (.int 1)) (.bi .len (.cons (.var 0) .nil))) (.cons (.aug 3 .add (.bin .mul (.frz (.lst (.cons (.var 4) .nil))) (.bin .sub (.call f0 (.cons (.idx (.var 0) (.var 4)) (.cons (.var 2) .nil))) (.call f0 (.cons (.idx (.var 0) (.bin .sub (.var 4) (.cst (.int 1)))) (.cons (.var 2) .nil)))))) .nil)) (.cons (.ex (.mt .append (.var 1) (.cons (.bi .tuple1 (.cons (.var 3) .nil)) .nil))) .nil)))) (.cons (.ret (.bi .tuple1 (.cons (.var 1) .nil))) .nil))))⟩
def d_law_shapes (f0 : Nat) : FD := ⟨2, 6, (.cons (.asg (.one 2) (.lst .nil)) (.cons (.for_ (.one 3) (.rng1 (.bin .add (.var 1) (.cst (.int 1)))) (.cons (.ex (.mt .append (.var 2) (.cons (.call f0 (.cons (.frz (.lc (.one 4) (.seq (.var 0)) .non (.bi .len (.cons (.frz (.lc (.one 5) (.seq (.var 4)) (.som (.cmp .le (.var 5) (.var 3))) (.var 5))) .nil)))) .nil)) .nil))) .nil)) (.cons (.ret (.var 2)) .nil)))⟩
def d_law_rows (f0 : Nat) : FD := ⟨1, 5, (.cons (.asg (.one 1) (.lst .nil)) (.cons (.for_ (.one 2) (.rng2 (.cst (.int 1)) (.bin .add (.bi .len (.cons (.idx (.var 0) (.neg (.cst (.int 1)))) .nil)) (.cst (.int 1)))) (.cons (.asg (.one 3) (.tup .nil)) (.cons (.for_ (.one 4) (.rng2 (.cst (.int 1)) (.bi .len (.cons (.var 0) .nil))) (.cons (.asg (.one 3) (.bin .add (.var 3) (.bin .mul (.tup (.cons (.var 4) .nil)) (.bin .sub (.call f0 (.cons (.idx (.var 0) (.var 4)) (.cons (.var 2) .nil))) (.call f0 (.cons (.idx (.var 0) (.bin .sub (.var 4) (.cst (.int 1)))) (.cons (.var 2) .nil))))))) .nil)) (.cons (.ex (.mt .append (.var 1) (.cons (.var 3) .nil))) .nil)))) (.cons (.ret (.bi .tuple1 (.cons (.var 1) .nil))) .nil)))⟩
end Df
end

section
set_option Elab.async false
set_option linter.all false
set_option maxRecDepth 100000
set_option maxHeartbeats 4000000
namespace Db
open PySem Li
def d_is_walk : FD := ⟨3, 4, (.cons (.iff (.or_ (.cons (.cmp .ne (.bi .len (.cons (.var 0) .nil)) (.var 1)) (.cons (.cmp .ne (.idx (.var 0) (.neg (.cst (.int 1)))) (.var 2)) (.cons (.cmp .lt (.idx (.var 0) (.cst (.int 0))) (.cst (.int 1))) .nil)))) (.cons (.ret (.cst (.bl false))) .nil) .nil) (.cons (.ret (.gn .all (.one 3) (.rng1 (.bin .sub (.var 1) (.cst (.int 1)))) .non (.cmp .le (.idx (.var 0) (.var 3)) (.idx (.var 0) (.bin .add (.var 3) (.cst (.int 1))))))) .nil))⟩
def d_check_family (f0 : Nat) : FD := ⟨2, 5, (.cons (.iff (.or_ (.cons (.not_ (.cmp2 .le .le (.cst (.int 1)) (.bi .len (.cons (.var 1) .nil)) (.gint "MOST_WALKS" 8))) (.cons (.not_ (.idx (.var 1) (.cst (.int 0)))) .nil))) (.cons (.rai "NotAFamily") .nil) .nil) (.cons (.asg (.many [2, 3]) (.tup (.cons (.bi .len (.cons (.idx (.var 1) (.cst (.int 0))) .nil)) (.cons (.idx (.idx (.var 1) (.cst (.int 0))) (.neg (.cst (.int 1)))) .nil)))) (.cons (.iff (.or_ (.cons (.cmp .gt (.var 2) (.bi .len (.cons (.var 0) .nil))) (.cons (.not_ (.cmp2 .le .le (.cst (.int 1)) (.var 3) (.bi .len (.cons (.idx (.var 0) (.cst (.int 0))) .nil)))) .nil))) (.cons (.rai "NotAFamily") .nil) .nil) (.cons (.iff (.not_ (.gn .all (.one 4) (.seq (.var 1)) .non (.call f0 (.cons (.var 4) (.cons (.var 2) (.cons (.var 3) .nil)))))) (.cons (.rai "NotAFamily") .nil) .nil) .nil))))⟩
def d_cells_of : FD := ⟨1, 6, (.cons (.asg (.one 1) (.lst .nil)) (.cons (.asg (.one 2) (.cst (.int 1))) (.cons (.for_ (.many [3, 4]) (.enum (.var 0)) (.cons (.aug 1 .add (.lc (.one 5) (.rng2 (.var 2) (.bin .add (.var 4) (.cst (.int 1)))) .non (.tup (.cons (.var 3) (.cons (.bin .sub (.var 5) (.cst (.int 1))) .nil))))) (.cons (.asg (.one 2) (.var 4)) .nil))) (.cons (.ret (.var 1)) .nil))))⟩
def d_sum_of (f0 : Nat) : FD := ⟨2, 7, (.cons (.adc 2 (.dc2 (.one 3) (.seq (.var 1)) (.one 4) (.seq (.call f0 (.cons (.var 3) .nil))) (.var 4))) (.cons (.ret (.gn .sum (.many [5, 6]) (.dit (.var 2)) .non (.idx (.idx (.var 0) (.var 5)) (.var 6)))) .nil))⟩
def d_collected (f0 f1 : Nat) : FD := ⟨2, 2, (.cons (.ex (.call f1 (.cons (.var 0) (.cons (.var 1) .nil)))) (.cons (.ret (.call f0 (.cons (.var 0) (.cons (.var 1) .nil)))) .nil))⟩
def d_law_draws : FD := ⟨3, 7, (.cons (.asg (.one 3) (.var 0)) (.cons (.iff (.cmp .lt (.var 3) (.cst (.int 0))) (.cons (.asg (.one 3) (.bin .sub (.cst (.int 0)) (.var 3))) .nil) .nil) (.cons (.asg (.one 4) (.lst .nil)) (.cons (.iff (.cmp .ge (.var 3) (.bin .pow (.cst (.int 10)) (.cst (.int 18)))) (.cons (.for_ (.one 5) (.rng1 (.var 2)) (.cons (.ex (.mt .append (.var 4) (.cons (.bin .mod (.bi .int1 (.cons (.var 3) .nil)) (.var 1)) .nil))) (.cons (.asg (.one 3) (.bin .fdiv (.var 3) (.var 1))) .nil))) (.cons (.ret (.var 4)) .nil)) .nil) (.cons (.for_ (.one 5) (.rng1 (.var 2)) (.cons (.asg (.one 6) (.bin .mod (.bi .int1 (.cons (.bin .mul (.bin .add (.bin .add (.var 3) (.bin .mul (.cst (.int 7)) (.var 5))) (.cst (.int 1))) (.cst (.int 48271))) .nil)) (.cst (.int 2147483647)))) (.cons (.asg (.one 6) (.bin .mod (.bi .int1 (.cons (.bin .add (.bin .mul (.var 6) (.cst (.int 69621))) (.bin .mul (.cst (.int 31)) (.var 5))) .nil)) (.cst (.int 2147483629)))) (.cons (.ex (.mt .append (.var 4) (.cons (.bin .mod (.bi .int1 (.cons (.bin .fdiv (.var 6) (.cst (.int 7))) .nil)) (.var 1)) .nil))) .nil)))) (.cons (.ret (.var 4)) .nil))))))⟩
def d_law_box (f0 : Nat) : FD := ⟨1, 3, (.cons (.asg (.one 1) (.frz (.lst .nil))) (.cons (.for_ (.one 2) (.seq (.var 0)) (.cons (.asg (.one 1) (.frz (.bin .add (.var 1) (.call f0 (.cons (.var 2) (.cons (.cst (.int 1000003)) (.cons (.cst (.int 6)) .nil))))))) .nil)) (.cons (.iff (.cmp .eq (.bi .len (.cons (.var 1) .nil)) (.cst (.int 0))) (.cons (.asg (.one 1) (.frz (.lst (.cons (.cst (.int 11)) (.cons (.cst (.int 5)) (.cons (.cst (.int 2)) (.cons (.cst (.int 7)) (.cons (.cst (.int 31)) (.cons (.cst (.int 101)) (.cons (.cst (.int 997)) .nil)))))))))) .nil) .nil) (.cons (.ret (.dsp ["row", "at"] (.cons (.var 1) (.cons (.cst (.int 0)) .nil)))) .nil))))⟩
def d_law_next : FD := ⟨2, 4, (.cons (.asg (.one 2) (.dgk (.var 0) "at")) (.cons (.dpk (.var 0) "at" (.bin .add (.var 2) (.cst (.int 1)))) (.cons (.asg (.one 3) (.idx (.dgk (.var 0) "row") (.bin .mod (.var 2) (.bi .len (.cons (.dgk (.var 0) "row") .nil))))) (.cons (.ret (.bin .mod (.bi .int1 (.cons (.bin .add (.var 3) (.bin .mul (.cst (.int 7919)) (.bin .fdiv (.var 2) (.bi .len (.cons (.dgk (.var 0) "row") .nil))))) .nil)) (.var 1))) .nil))))⟩
def d_law_board (f0 : Nat) : FD := ⟨3, 7, (.cons (.asg (.one 3) (.bin .add (.cst (.int 1)) (.call f0 (.cons (.var 0) (.cons (.var 1) .nil))))) (.cons (.asg (.one 4) (.bin .add (.cst (.int 1)) (.call f0 (.cons (.var 0) (.cons (.var 1) .nil))))) (.cons (.ret (.bi .tuple1 (.cons (.frz (.lc (.one 5) (.rng1 (.var 3)) .non (.bi .tuple1 (.cons (.frz (.lc (.one 6) (.rng1 (.var 4)) .non (.call f0 (.cons (.var 0) (.cons (.var 2) .nil))))) .nil)))) .nil))) .nil)))⟩
def d_law_grow (f0 : Nat) : FD := ⟨4, 8, (.cons (.asg (.one 4) (.lst (.cons (.bin .add (.bi .max2 (.cons (.call f0 (.cons (.var 1) (.cons (.cst (.int 1)) .nil))) (.cons (.call f0 (.cons (.var 2) (.cons (.cst (.int 1)) .nil))) .nil))) (.var 3)) .nil))) (.cons (.for_ (.one 5) (.rng2 (.cst (.int 2)) (.bin .add (.bi .max2 (.cons (.bi .len (.cons (.var 1) .nil)) (.cons (.bi .len (.cons (.var 2) .nil)) .nil))) (.cst (.int 2)))) (.cons (.asg (.one 6) (.bi .min2 (.cons (.call f0 (.cons (.var 1) (.cons (.bin .sub (.var 5) (.cst (.int 1))) .nil))) (.cons (.call f0 (.cons (.var 2) (.cons (.bin .sub (.var 5) (.cst (.int 1))) .nil))) .nil)))) (.cons (.ex (.mt .append (.var 4) (.cons (.bin .sub (.bin .add (.bi .max2 (.cons (.call f0 (.cons (.var 1) (.cons (.var 5) .nil))) (.cons (.call f0 (.cons (.var 2) (.cons (.var 5) .nil))) .nil))) (.var 6)) (.call f0 (.cons (.var 0) (.cons (.bin .sub (.var 5) (.cst (.int 1))) .nil)))) .nil))) .nil))) (.cons (.ret (.bi .tuple1 (.cons (.frz (.lc (.one 7) (.seq (.var 4)) (.som (.cmp .gt (.var 7) (.cst (.int 0)))) (.var 7))) .nil))) .nil)))⟩
def d_law_shapes (f0 : Nat) : FD := ⟨1, 6, (.cons (.asg (.one 1) (.lst (.cons (.lc (.one 5) (.rng1 (.bin .add (.bi .len (.cons (.idx (.var 0) (.cst (.int 0))) .nil)) (.cst (.int 1)))) .non (.tup .nil)) .nil))) (.cons (.for_ (.one 2) (.seq (.var 0)) (.cons (.asg (.one 3) (.lst (.cons (.tup .nil) .nil))) (.cons (.asg (.one 4) (.idx (.var 1) (.neg (.cst (.int 1))))) (.cons (.for_ (.one 5) (.rng1 (.bi .len (.cons (.var 2) .nil))) (.cons (.ex (.mt .append (.var 3) (.cons (.call f0 (.cons (.idx (.var 4) (.var 5)) (.cons (.idx (.var 4) (.bin .add (.var 5) (.cst (.int 1)))) (.cons (.idx (.var 3) (.var 5)) (.cons (.idx (.var 2) (.var 5)) .nil))))) .nil))) .nil)) (.cons (.ex (.mt .append (.var 1) (.cons (.var 3) .nil))) .nil))))) (.cons (.ret (.var 1)) .nil)))⟩
def d_law_walks : FD := ⟨2, 8, (.cons (.asg (.one 2) (.frz (.lst (.cons (.tup .nil) .nil)))) (.cons (.for_ (.one 3) (.rng1 (.var 0)) (.cons (.asg (.one 4) (.lst .nil)) (.cons (.for_ (.one 5) (.seq (.var 2)) (.cons (.asg (.one 6) (.cst (.int 1))) (.cons (.iff (.cmp .gt (.bi .len (.cons (.var 5) .nil)) (.cst (.int 0))) (.cons (.asg (.one 6) (.idx (.var 5) (.neg (.cst (.int 1))))) .nil) .nil) (.cons (.iff (.cmp .eq (.var 3) (.bin .sub (.var 0) (.cst (.int 1)))) (.cons (.asg (.one 6) (.var 1)) .nil) .nil) (.cons (.for_ (.one 7) (.rng2 (.var 6) (.bin .add (.var 1) (.cst (.int 1)))) (.cons (.ex (.mt .append (.var 4) (.cons (.bin .add (.var 5) (.tup (.cons (.var 7) .nil))) .nil))) .nil)) .nil))))) (.cons (.asg (.one 2) (.var 4)) .nil)))) (.cons (.ret (.var 2)) .nil)))⟩
def d_law_cells : FD := ⟨1, 5, (.cons (.asg (.one 1) (.lst .nil)) (.cons (.asg (.one 2) (.cst (.int 1))) (.cons (.for_ (.one 3) (.rng1 (.bi .len (.cons (.var 0) .nil))) (.cons (.for_ (.one 4) (.rng2 (.var 2) (.bin .add (.idx (.var 0) (.var 3)) (.cst (.int 1)))) (.cons (.ex (.mt .append (.var 1) (.cons (.tup (.cons (.var 3) (.cons (.bin .sub (.var 4) (.cst (.int 1))) .nil))) .nil))) .nil)) (.cons (.asg (.one 2) (.idx (.var 0) (.var 3))) .nil))) (.cons (.ret (.var 1)) .nil))))⟩
def d_law_sum (f0 : Nat) : FD := ⟨2, 5, (.cons (.asg (.one 2) .dnt) (.cons (.for_ (.one 3) (.seq (.var 1)) (.cons (.for_ (.one 4) (.seq (.call f0 (.cons (.var 3) .nil))) (.cons (.dpt (.var 2) (.var 4) (.idx (.idx (.var 0) (.idx (.var 4) (.cst (.int 0)))) (.idx (.var 4) (.cst (.int 1))))) .nil)) .nil)) (.cons (.ret (.bi .sum1 (.cons (.frz (.ldv 4 2)) .nil))) .nil)))⟩
def d_law_families (f0 : Nat) : FD := ⟨3, 6, (.cons (.iff (.cmp .eq (.var 1) (.cst (.int 0))) (.cons (.ret (.lst (.cons (.tup .nil) .nil))) .nil) .nil) (.cons (.asg (.one 3) (.lst .nil)) (.cons (.for_ (.one 4) (.rng2 (.var 2) (.bi .len (.cons (.var 0) .nil))) (.cons (.for_ (.one 5) (.seq (.call f0 (.cons (.var 0) (.cons (.bin .sub (.var 1) (.cst (.int 1))) (.cons (.var 4) .nil))))) (.cons (.ex (.mt .append (.var 3) (.cons (.bin .add (.tup (.cons (.idx (.var 0) (.var 4)) .nil)) (.var 5)) .nil))) .nil)) .nil)) (.cons (.ret (.var 3)) .nil))))⟩
end Db
end

section
set_option Elab.async false
set_option linter.all false
set_option maxRecDepth 100000
set_option maxHeartbeats 4000000
namespace Db
open PySem Li
def d_all_walks : FD := ⟨2, 8, (.cons (.asg (.one 2) (.frz (.lst (.cons (.tup .nil) .nil)))) (.cons (.for_ (.one 3) (.rng1 (.var 0)) (.cons (.asg (.one 4) (.lst .nil)) (.cons (.for_ (.one 5) (.seq (.var 2)) (.cons (.asg (.one 6) (.ite (.var 5) (.idx (.var 5) (.neg (.cst (.int 1)))) (.cst (.int 1)))) (.cons (.for_ (.one 7) (.rng2 (.ite (.cmp .eq (.var 3) (.bin .sub (.var 0) (.cst (.int 1)))) (.var 1) (.var 6)) (.bin .add (.var 1) (.cst (.int 1)))) (.cons (.ex (.mt .append (.var 4) (.cons (.bin .add (.var 5) (.tup (.cons (.var 7) .nil))) .nil))) .nil)) .nil))) (.cons (.asg (.one 2) (.var 4)) .nil)))) (.cons (.ret (.var 2)) .nil)))⟩
def d_first_family (f0 f1 : Nat) : FD := ⟨5, 8, (.cons (.iff (.cmp .eq (.var 2) (.cst (.int 0))) (.cons (.ret (.ite (.cmp .eq (.call f1 (.cons (.var 0) (.cons (.var 4) .nil))) (.var 3)) (.var 4) (.cst .non))) .nil) .nil) (.cons (.for_ (.many [5, 6]) (.enum (.var 1)) (.cons (.asg (.one 7) (.call f0 (.cons (.var 0) (.cons (.frz (.sl (.var 1) (.som (.var 5)) .non)) (.cons (.bin .sub (.var 2) (.cst (.int 1))) (.cons (.var 3) (.cons (.bin .add (.var 4) (.tup (.cons (.var 6) .nil))) .nil))))))) (.cons (.iff (.cmp .isnot (.var 7) (.cst .non)) (.cons (.ret (.var 7)) .nil) .nil) .nil))) (.cons (.ret (.cst .non)) .nil)))⟩
def d_best_family (f0 f1 f2 : Nat) : FD := ⟨4, 5, (.cons (.asg (.one 4) (.bi .sum1 (.cons (.sl (.idx (.idx (.call f2 (.cons (.var 0) .nil)) (.var 2)) (.var 3)) .non (.som (.var 1))) .nil))) (.cons (.ret (.call f0 (.cons (.var 0) (.cons (.call f1 (.cons (.var 2) (.cons (.var 3) .nil))) (.cons (.var 1) (.cons (.var 4) (.cons (.tup .nil) .nil))))))) .nil))⟩
end Db
end

section
set_option Elab.async false
set_option linter.all false
set_option maxRecDepth 100000
set_option maxHeartbeats 4000000
namespace Db
open PySem Li
def d_check_heights : FD := ⟨3, 6, (.cons (.iff (.or_ (.cons (.cmp .ne (.bi .len (.cons (.var 0) .nil)) (.bin .add (.var 1) (.cst (.int 1)))) (.cons (.gn .any (.one 5) (.seq (.var 0)) .non (.cmp .ne (.bi .len (.cons (.var 5) .nil)) (.bin .add (.var 2) (.cst (.int 1))))) .nil))) (.cons (.rai "NotHeights") .nil) .nil) (.cons (.iff (.or_ (.cons (.bi .any1 (.cons (.idx (.var 0) (.cst (.int 0))) .nil)) (.cons (.gn .anyI (.one 5) (.seq (.var 0)) .non (.idx (.var 5) (.cst (.int 0)))) .nil))) (.cons (.rai "NotHeights") .nil) .nil) (.cons (.for_ (.one 3) (.rng2 (.cst (.int 1)) (.bin .add (.var 1) (.cst (.int 1)))) (.cons (.for_ (.one 4) (.rng2 (.cst (.int 1)) (.bin .add (.var 2) (.cst (.int 1)))) (.cons (.iff (.or_ (.cons (.cmp .lt (.idx (.idx (.var 0) (.var 3)) (.var 4)) (.idx (.idx (.var 0) (.bin .sub (.var 3) (.cst (.int 1)))) (.var 4))) (.cons (.cmp .lt (.idx (.idx (.var 0) (.var 3)) (.var 4)) (.idx (.idx (.var 0) (.var 3)) (.bin .sub (.var 4) (.cst (.int 1))))) .nil))) (.cons (.rai "NotHeights") .nil) .nil) .nil)) .nil)) .nil)))⟩
def d_bound_of : FD := ⟨3, 7, (.cons (.asg (.one 3) (.bin .mul (.var 2) (.idx (.idx (.var 1) (.neg (.cst (.int 1)))) (.neg (.cst (.int 1)))))) (.cons (.for_ (.one 4) (.rng2 (.cst (.int 1)) (.bi .len (.cons (.var 1) .nil))) (.cons (.for_ (.one 5) (.rng2 (.cst (.int 1)) (.bi .len (.cons (.idx (.var 1) (.cst (.int 0))) .nil))) (.cons (.asg (.one 6) (.bin .sub (.idx (.idx (.var 1) (.var 4)) (.var 5)) (.bi .max2 (.cons (.idx (.idx (.var 1) (.bin .sub (.var 4) (.cst (.int 1)))) (.var 5)) (.cons (.idx (.idx (.var 1) (.var 4)) (.bin .sub (.var 5) (.cst (.int 1)))) .nil))))) (.cons (.aug 3 .add (.bi .max2 (.cons (.cst (.int 0)) (.cons (.bin .sub (.idx (.idx (.var 0) (.bin .sub (.var 4) (.cst (.int 1)))) (.bin .sub (.var 5) (.cst (.int 1)))) (.var 6)) .nil)))) .nil))) .nil)) (.cons (.ret (.var 3)) .nil)))⟩
def d_bound (f0 f1 : Nat) : FD := ⟨3, 4, (.cons (.asg (.one 3) (.bin .sub (.bi .len (.cons (.var 1) .nil)) (.cst (.int 1)))) (.cons (.iff (.or_ (.cons (.not_ (.cmp2 .le .le (.cst (.int 1)) (.var 3) (.bi .len (.cons (.var 0) .nil)))) (.cons (.not_ (.cmp2 .le .le (.cst (.int 2)) (.bi .len (.cons (.idx (.var 1) (.cst (.int 0))) .nil)) (.bin .add (.bi .len (.cons (.idx (.var 0) (.cst (.int 0))) .nil)) (.cst (.int 1))))) .nil))) (.cons (.rai "NotHeights") .nil) .nil) (.cons (.ex (.call f1 (.cons (.var 1) (.cons (.var 3) (.cons (.bin .sub (.bi .len (.cons (.idx (.var 1) (.cst (.int 0))) .nil)) (.cst (.int 1))) .nil))))) (.cons (.ret (.call f0 (.cons (.var 0) (.cons (.var 1) (.cons (.var 2) .nil))))) .nil))))⟩
def d_law_heights (f0 : Nat) : FD := ⟨4, 8, (.cons (.asg (.one 4) (.lst (.cons (.lc (.one 7) (.rng1 (.bin .add (.var 2) (.cst (.int 1)))) .non (.cst (.int 0))) .nil))) (.cons (.for_ (.one 5) (.rng1 (.var 1)) (.cons (.asg (.one 6) (.lst (.cons (.cst (.int 0)) .nil))) (.cons (.for_ (.one 7) (.rng1 (.var 2)) (.cons (.ex (.mt .append (.var 6) (.cons (.bin .add (.bi .max2 (.cons (.idx (.var 6) (.neg (.cst (.int 1)))) (.cons (.idx (.idx (.var 4) (.neg (.cst (.int 1)))) (.bin .add (.var 7) (.cst (.int 1)))) .nil))) (.call f0 (.cons (.var 0) (.cons (.var 3) .nil)))) .nil))) .nil)) (.cons (.ex (.mt .append (.var 4) (.cons (.var 6) .nil))) .nil)))) (.cons (.ret (.bi .tuple1 (.cons (.frz (.lc (.one 6) (.seq (.var 4)) .non (.bi .tuple1 (.cons (.var 6) .nil)))) .nil))) .nil)))⟩
def d_law_bound : FD := ⟨3, 7, (.cons (.asg (.one 3) (.bin .mul (.var 2) (.idx (.idx (.var 1) (.neg (.cst (.int 1)))) (.neg (.cst (.int 1)))))) (.cons (.for_ (.one 4) (.rng2 (.cst (.int 1)) (.bi .len (.cons (.var 1) .nil))) (.cons (.for_ (.one 5) (.rng2 (.cst (.int 1)) (.bi .len (.cons (.idx (.var 1) (.cst (.int 0))) .nil))) (.cons (.asg (.one 6) (.bin .sub (.idx (.idx (.var 1) (.var 4)) (.var 5)) (.bi .max2 (.cons (.idx (.idx (.var 1) (.bin .sub (.var 4) (.cst (.int 1)))) (.var 5)) (.cons (.idx (.idx (.var 1) (.var 4)) (.bin .sub (.var 5) (.cst (.int 1)))) .nil))))) (.cons (.asg (.one 3) (.bin .add (.var 3) (.bi .max2 (.cons (.cst (.int 0)) (.cons (.bin .sub (.idx (.idx (.var 0) (.bin .sub (.var 4) (.cst (.int 1)))) (.bin .sub (.var 5) (.cst (.int 1)))) (.var 6)) .nil))))) .nil))) .nil)) (.cons (.ret (.var 3)) .nil)))⟩
def d_law_with : FD := ⟨4, 5, (.cons (.asg (.one 4) (.bin .add (.bin .add (.sl (.idx (.var 0) (.var 1)) .non (.som (.var 2))) (.tup (.cons (.var 3) .nil))) (.sl (.idx (.var 0) (.var 1)) (.som (.bin .add (.var 2) (.cst (.int 1)))) .non))) (.cons (.ret (.bin .add (.bin .add (.sl (.var 0) .non (.som (.var 1))) (.tup (.cons (.var 4) .nil))) (.sl (.var 0) (.som (.bin .add (.var 1) (.cst (.int 1)))) .non))) .nil))⟩
end Db
end

section
set_option Elab.async false
set_option linter.all false
set_option maxRecDepth 100000
set_option maxHeartbeats 4000000
namespace K04
open PySem Li Df
def d_shrink (f0 f1 f2 : Nat) : FD := ⟨3, 6, (.cons (.iff (.not_ (.call f2 (.cons (.var 2) (.cons (.var 0) .nil)))) (.cons (.raiN "NotStrip" "mu") .nil) .nil) (.cons (.iff (.not_ (.call f2 (.cons (.var 2) (.cons (.var 1) .nil)))) (.cons (.raiN "NotStrip" "nu") .nil) .nil) (.cons (.asg (.one 3) (.lst .nil)) (.cons (.for_ (.one 4) (.rng2 (.cst (.int 1)) (.bin .add (.bi .max2 (.cons (.bi .len (.cons (.var 0) .nil)) (.cons (.bi .len (.cons (.var 1) .nil)) .nil))) (.cst (.int 1)))) (.cons (.asg (.one 5) (.bi .min2 (.cons (.call f0 (.cons (.var 0) (.cons (.var 4) .nil))) (.cons (.call f0 (.cons (.var 1) (.cons (.var 4) .nil))) .nil)))) (.cons (.ex (.mt .append (.var 3) (.cons (.bin .sub (.bin .add (.bi .max2 (.cons (.call f0 (.cons (.var 0) (.cons (.bin .add (.var 4) (.cst (.int 1))) .nil))) (.cons (.call f0 (.cons (.var 1) (.cons (.bin .add (.var 4) (.cst (.int 1))) .nil))) .nil))) (.var 5)) (.call f0 (.cons (.var 2) (.cons (.bin .add (.var 4) (.cst (.int 1))) .nil)))) .nil))) .nil))) (.cons (.ret (.tup (.cons (.call f1 (.cons (.var 3) .nil)) (.cons (.bin .sub (.call f0 (.cons (.var 2) (.cons (.cst (.int 1)) .nil))) (.bi .max2 (.cons (.call f0 (.cons (.var 0) (.cons (.cst (.int 1)) .nil))) (.cons (.call f0 (.cons (.var 1) (.cons (.cst (.int 1)) .nil))) .nil)))) .nil)))) .nil)))))⟩
def d_law_due (f0 f1 f2 : Nat) : FD := ⟨3, 6, (.cons (.iff (.not_ (.call f2 (.cons (.var 2) (.cons (.var 0) .nil)))) (.cons (.ret (.cst (.dct [("refused", .str "mu")]))) .nil) .nil) (.cons (.iff (.not_ (.call f2 (.cons (.var 2) (.cons (.var 1) .nil)))) (.cons (.ret (.cst (.dct [("refused", .str "nu")]))) .nil) .nil) (.cons (.asg (.one 3) (.lst .nil)) (.cons (.for_ (.one 4) (.rng2 (.cst (.int 1)) (.bin .add (.bin .add (.bi .len (.cons (.var 0) .nil)) (.bi .len (.cons (.var 1) .nil))) (.cst (.int 1)))) (.cons (.asg (.one 5) (.bi .max2 (.cons (.call f0 (.cons (.var 0) (.cons (.bin .add (.var 4) (.cst (.int 1))) .nil))) (.cons (.call f0 (.cons (.var 1) (.cons (.bin .add (.var 4) (.cst (.int 1))) .nil))) .nil)))) (.cons (.ex (.mt .append (.var 3) (.cons (.bin .sub (.bin .add (.var 5) (.bi .min2 (.cons (.call f0 (.cons (.var 0) (.cons (.var 4) .nil))) (.cons (.call f0 (.cons (.var 1) (.cons (.var 4) .nil))) .nil)))) (.call f0 (.cons (.var 2) (.cons (.bin .add (.var 4) (.cst (.int 1))) .nil)))) .nil))) .nil))) (.cons (.ret (.tup (.cons (.call f1 (.cons (.var 3) .nil)) (.cons (.bin .sub (.call f0 (.cons (.var 2) (.cons (.cst (.int 1)) .nil))) (.bi .max2 (.cons (.call f0 (.cons (.var 0) (.cons (.cst (.int 1)) .nil))) (.cons (.call f0 (.cons (.var 1) (.cons (.cst (.int 1)) .nil))) .nil)))) .nil)))) .nil)))))⟩
def d_law_told (f0 : Nat) : FD := ⟨3, 4, (.cons (.tri (.cons (.ret (.call f0 (.cons (.var 0) (.cons (.var 1) (.cons (.var 2) .nil))))) .nil) "WalkhandsError" [("NotStrip", true)] 3 (.iff (.and_ (.is "NotStrip" [("NotStrip", true)]) (.and_ (.is "ValueError" [("NotStrip", true)]) (.not_ (.is "DifferentEnds" [("NotStrip", false)])))) (.dct [("refused", .nam ["NotStrip"])]) .fall)) (.cons (.ret (.cst .non)) .nil))⟩
def d_law (f0 f1 f2 f3 f4 f5 f6 f7 : Nat) : FD := ⟨1, 8, (.cons (.asg (.one 1) (.lst (.cons (.call f7 (.cons (.var 0) .nil)) (.cons (.cst (.int 0)) .nil)))) (.cons (.for_ (.one 2) (.rng1 (.cst (.int 5))) (.cons (.asg (.one 3) (.call f5 (.cons (.var 1) (.cons (.idx (.frz (.lst (.cons (.cst (.int 5)) (.cons (.cst (.int 5)) (.cons (.cst (.int 5)) (.cons (.cst (.int 21)) .nil)))))) (.call f3 (.cons (.var 1) (.cons (.cst (.int 4)) .nil)))) .nil)))) (.cons (.asg (.one 4) (.call f6 (.cons (.var 1) (.cons (.var 3) .nil)))) (.cons (.asg (.one 5) (.call f6 (.cons (.var 1) (.cons (.var 3) .nil)))) (.cons (.iff (.cmp .eq (.call f3 (.cons (.var 1) (.cons (.cst (.int 3)) .nil))) (.cst (.int 0))) (.cons (.asg (.one 4) (.idx (.frz (.lst (.cons (.call f5 (.cons (.var 1) (.cons (.cst (.int 5)) .nil))) (.cons (.var 4) (.cons (.call f4 (.cons (.var 1) (.cons (.var 3) .nil))) .nil))))) (.call f3 (.cons (.var 1) (.cons (.cst (.int 3)) .nil))))) (.cons (.asg (.one 5) (.idx (.frz (.lst (.cons (.call f5 (.cons (.var 1) (.cons (.cst (.int 5)) .nil))) (.cons (.var 5) (.cons (.call f4 (.cons (.var 1) (.cons (.var 3) .nil))) .nil))))) (.call f3 (.cons (.var 1) (.cons (.cst (.int 3)) .nil))))) .nil)) .nil) (.cons (.asg (.one 6) (.call f2 (.cons (.var 4) (.cons (.var 5) (.cons (.var 3) .nil))))) (.cons (.asg (.one 7) (.call f1 (.cons (.var 4) (.cons (.var 5) (.cons (.var 3) .nil))))) (.cons (.iff (.or_ (.cons (.cmp .ne (.var 7) (.var 6)) (.cons (.cmp .ne (.isi .tuple (.var 7)) (.isi .tuple (.var 6))) .nil))) (.cons (.ret (.cst (.bl false))) .nil) .nil) (.cons (.iff (.isi .tuple (.var 7)) (.cons (.iff (.or_ (.cons (.not_ (.call f0 (.cons (.var 4) (.cons (.idx (.var 7) (.cst (.int 0))) .nil)))) (.cons (.not_ (.call f0 (.cons (.var 5) (.cons (.idx (.var 7) (.cst (.int 0))) .nil)))) (.cons (.cmp .lt (.idx (.var 7) (.cst (.int 1))) (.cst (.int 0))) .nil)))) (.cons (.ret (.cst (.bl false))) .nil) .nil) .nil) .nil) .nil))))))))) (.cons (.ret (.cst (.bl true))) .nil)))⟩
def top (i : Nat) : Stmt := PySem.Challenge.pw_walkhands_k04_the_rule_backwards.main.body.getD i (.Pass ⟨0, 0, 0, 0⟩)
abbrev i_part : Nat := 0
abbrev i_trimmed : Nat := 1
abbrev i_is_strip : Nat := 2
abbrev i_shrink : Nat := 3
abbrev i_law_tape : Nat := 4
abbrev i_law_draw : Nat := 5
abbrev i_law_take : Nat := 6
abbrev i_law_part : Nat := 7
abbrev i_law_trim : Nat := 8
abbrev i_law_between : Nat := 9
abbrev i_law_shape : Nat := 10
abbrev i_law_over : Nat := 11
abbrev i_law_below : Nat := 12
abbrev i_law_strip : Nat := 13
abbrev i_law_due : Nat := 14
abbrev i_law_told : Nat := 15
abbrev i_law : Nat := 16
def fds : List FD := [d_part, d_trimmed, d_is_strip i_part, d_shrink i_part i_trimmed i_is_strip, d_law_tape, d_law_draw, d_law_take i_law_draw, d_law_part, d_law_trim, d_law_between i_law_take, d_law_shape i_law_trim i_law_take, d_law_over i_law_trim i_law_between i_law_part i_law_take, d_law_below i_law_trim i_law_between i_law_part, d_law_strip i_law_part, d_law_due i_law_part i_law_trim i_law_strip, d_law_told i_shrink, d_law i_law_strip i_law_told i_law_due i_law_take i_law_over i_law_shape i_law_below i_law_tape]
def tbl : List Ent := [⟨"part", top 5, ["shape", "number"], ["shape", "number"], d_part, false⟩,
  ⟨"trimmed", top 6, ["parts", "kept"], ["parts"], d_trimmed, false⟩,
  ⟨"is_strip", top 7, ["upper", "lower", "most", "r"], ["upper", "lower"], d_is_strip i_part, true⟩,
  ⟨"shrink", top 8, ["mu", "nu", "shape", "parts", "r", "least"], ["mu", "nu", "shape"], d_shrink i_part i_trimmed i_is_strip, false⟩,
  ⟨"_law_tape", top 10, ["_law_script", "_law_tape_here", "_law_cell", "_law_number", "_law_k", "_law_first"], ["_law_script"], d_law_tape, false⟩,
  ⟨"_law_draw", top 11, ["_law_tape_here", "_law_at", "_law_many", "_law_number"], ["_law_tape_here", "_law_at", "_law_many"], d_law_draw, false⟩,
  ⟨"_law_take", top 12, ["_law_state", "_law_many"], ["_law_state", "_law_many"], d_law_take i_law_draw, false⟩,
  ⟨"_law_part", top 13, ["_law_shape_here", "_law_number"], ["_law_shape_here", "_law_number"], d_law_part, false⟩,
  ⟨"_law_trim", top 14, ["_law_parts", "_law_part_here"], ["_law_parts"], d_law_trim, false⟩,
  ⟨"_law_between", top 15, ["_law_state", "_law_low", "_law_high", "_law_way"], ["_law_state", "_law_low", "_law_high"], d_law_between i_law_take, false⟩,
  ⟨"_law_shape", top 16, ["_law_state", "_law_most", "_law_size", "_law_parts", "_law_k"], ["_law_state", "_law_most"], d_law_shape i_law_trim i_law_take, false⟩,
  ⟨"_law_over", top 17, ["_law_state", "_law_shape_here", "_law_parts", "_law_r"], ["_law_state", "_law_shape_here"], d_law_over i_law_trim i_law_between i_law_part i_law_take, false⟩,
  ⟨"_law_below", top 18, ["_law_state", "_law_shape_here", "_law_parts", "_law_r"], ["_law_state", "_law_shape_here"], d_law_below i_law_trim i_law_between i_law_part, false⟩,
  ⟨"_law_strip", top 19, ["_law_upper", "_law_lower", "_law_r"], ["_law_upper", "_law_lower"], d_law_strip i_law_part, false⟩,
  ⟨"_law_due", top 20, ["_law_mu", "_law_nu", "_law_shape_here", "_law_parts", "_law_r", "_law_high"], ["_law_mu", "_law_nu", "_law_shape_here"], d_law_due i_law_part i_law_trim i_law_strip, false⟩,
  ⟨"_law_told", top 21, ["_law_mu", "_law_nu", "_law_shape_here", "e"], ["_law_mu", "_law_nu", "_law_shape_here"], d_law_told i_shrink, false⟩,
  ⟨"law", top 22, ["_law_script", "_law_state", "_law_turn", "_law_shape_here", "_law_mu", "_law_nu", "_law_due_here", "_law_told_here"], ["_law_script"], d_law i_law_strip i_law_told i_law_due i_law_take i_law_over i_law_shape i_law_below i_law_tape, false⟩]
def iv : List (Str × Int) := []
def xc : XC := ⟨[], [(("NotStrip", "WalkhandsError"), true)], [(("NotStrip", "DifferentEnds"), false), (("NotStrip", "NotStrip"), true), (("NotStrip", "ValueError"), true)], ["NotStrip"], "/claim/cut.py"⟩
theorem tbl_fds : tbl.map Ent.d = fds := rfl
theorem tbl_all : ∀ e ∈ tbl, e.ok tbl iv xc = true := by
  have h : (tbl.all fun e => e.ok tbl iv xc) = true := by decide +kernel
  exact fun e he => List.all_eq_true.mp h e he
theorem tbl_bd : ∀ e ∈ tbl, e.Bd := by
  intro e he
  simp only [tbl, List.mem_cons, List.not_mem_nil, or_false] at he
  rcases he with rfl | rfl | rfl | rfl | rfl | rfl | rfl | rfl | rfl | rfl | rfl | rfl | rfl | rfl | rfl | rfl | rfl
  · exact fun _ _ _ _ _ _ us hl => match us, hl with | [_, _], _ => rfl
  · exact fun _ _ _ _ _ _ us hl => match us, hl with | [_], _ => rfl
  · exact fun _ _ _ _ _ _ us hl => match us, hl with | [_, _], _ => rfl
  · exact fun _ _ _ _ _ _ us hl => match us, hl with | [_, _, _], _ => rfl
  · exact fun _ _ _ _ _ _ us hl => match us, hl with | [_], _ => rfl
  · exact fun _ _ _ _ _ _ us hl => match us, hl with | [_, _, _], _ => rfl
  · exact fun _ _ _ _ _ _ us hl => match us, hl with | [_, _], _ => rfl
  · exact fun _ _ _ _ _ _ us hl => match us, hl with | [_, _], _ => rfl
  · exact fun _ _ _ _ _ _ us hl => match us, hl with | [_], _ => rfl
  · exact fun _ _ _ _ _ _ us hl => match us, hl with | [_, _, _], _ => rfl
  · exact fun _ _ _ _ _ _ us hl => match us, hl with | [_, _], _ => rfl
  · exact fun _ _ _ _ _ _ us hl => match us, hl with | [_, _], _ => rfl
  · exact fun _ _ _ _ _ _ us hl => match us, hl with | [_, _], _ => rfl
  · exact fun _ _ _ _ _ _ us hl => match us, hl with | [_, _], _ => rfl
  · exact fun _ _ _ _ _ _ us hl => match us, hl with | [_, _, _], _ => rfl
  · exact fun _ _ _ _ _ _ us hl => match us, hl with | [_, _, _], _ => rfl
  · exact fun _ _ _ _ _ _ us hl => match us, hl with | [_], _ => rfl
end K04
end

section
set_option Elab.async false
set_option linter.all false
set_option maxRecDepth 100000
set_option maxHeartbeats 0
namespace K04
open PySem PySem.Spec PyProof.Rows L2 Li
abbrev R : PySem.W.OpenRow := PySem.W.OpenLaw.row PySem.Challenge.rw_walkhands_k04_the_rule_backwards
abbrev qv : Program := PySem.W.view R.prog [22]
abbrev hk : PySem.W.Hook := Li.hookY 4 (faOf tbl iv) (tbl.map Ent.dd) [] (tfOf tbl) (noListsX xc)
def ob (s : PySem.W.SharedT) : He.AlX := Li.obsY 4 (faOf tbl iv) (tbl.map Ent.dd) [] (tfOf tbl) (noListsX xc) (HandSHeadRun.getT s)
theorem ob_eq (s : PySem.W.SharedT) : ob s = hk.obs s.abs := Li.obsY_eq (HandSHeadRun.getT_eq s)
def names : List Str := (tbl.map Ent.x).dropLast ++ iv.map (·.1) ++ (["WalkhandsError", "NotStrip", "DifferentEnds"] : List Str)
theorem hrun (w : World) : HandSHeadRun.RunEq R qv hk ob 3200 names w := by
  intro os
  kernel_rfl
end K04
end

section
set_option linter.all false
set_option maxRecDepth 100000
set_option maxHeartbeats 1000000
namespace Li
open PySem L2
open Classical
/-! ### shapes, plainly -/
def pt (xs : List Int) (n : Int) : Int := xs.getD (n - 1).toNat 0
theorem pt_out {xs : List Int} {n : Int} (h : (xs.length : Int) < n) : pt xs n = 0 := by
  unfold pt
  rw [List.getD_eq_getElem?_getD, List.getElem?_eq_none (by omega)]; rfl
def Shp (xs : List Int) : Prop := xs.Pairwise (fun a b => b ≤ a) ∧ ∀ x ∈ xs, 0 < x
def StripP (u l : List Int) : Prop := ∀ r : Int, 1 ≤ r → pt l r ≤ pt u r ∧ pt u (r + 1) ≤ pt l r
theorem pt_nil (r : Int) : pt [] r = 0 := by unfold pt; simp
theorem pt_cons (x : Int) (xs : List Int) (r : Int) (h : 2 ≤ r) : pt (x :: xs) r = pt xs (r - 1) := by
  unfold pt
  have e : (r - 1).toNat = (r - 1 - 1).toNat + 1 := by omega
  rw [e]; simp [List.getD_cons_succ]
theorem pt_one (x : Int) (xs : List Int) : pt (x :: xs) 1 = x := by unfold pt; simp
theorem pt_get {xs : List Int} {j : Nat} (h : j < xs.length) : pt xs ((j : Int) + 1) = xs[j] := by
  unfold pt
  have e : ((j : Int) + 1 - 1).toNat = j := by omega
  rw [e, List.getD_eq_getElem?_getD, List.getElem?_eq_getElem h]; rfl
theorem pt_nonneg {xs : List Int} (h : ∀ x ∈ xs, 0 ≤ x) (r : Int) : 0 ≤ pt xs r := by
  unfold pt
  rw [List.getD_eq_getElem?_getD]
  cases e : xs[(r - 1).toNat]? with
  | none => simp
  | some x => simpa using h x (List.mem_of_getElem? e)
theorem Shp.nonneg {xs : List Int} (h : Shp xs) (r : Int) : 0 ≤ pt xs r := pt_nonneg (fun x hx => Int.le_of_lt (h.2 x hx)) r
theorem pw_pt : ∀ {xs : List Int}, xs.Pairwise (fun a b => b ≤ a) → (∀ x ∈ xs, 0 ≤ x) → ∀ r : Int, 1 ≤ r → pt xs (r + 1) ≤ pt xs r
  | [], _, _, r, _ => by rw [pt_nil, pt_nil]; exact Int.le_refl _
  | x :: xs, h, hn, r, hr => by
    rw [List.pairwise_cons] at h
    rw [pt_cons x xs (r + 1) (by omega)]
    by_cases h1 : r = 1
    · subst h1
      rw [pt_one]
      have : pt xs (1 + 1 - 1) ≤ x := by
        unfold pt
        rw [List.getD_eq_getElem?_getD]
        cases e : xs[(1 + 1 - 1 - 1 : Int).toNat]? with
        | none => simpa using hn x List.mem_cons_self
        | some y => simpa using h.1 y (List.mem_of_getElem? e)
      exact this
    · rw [pt_cons x xs r (by omega)]
      have := pw_pt h.2 (fun y hy => hn y (List.mem_cons_of_mem _ hy)) (r - 1) (by omega)
      rw [show r - 1 + 1 = r + 1 - 1 by omega] at this
      exact this
theorem Shp.anti {xs : List Int} (h : Shp xs) (r : Int) (hr : 1 ≤ r) : pt xs (r + 1) ≤ pt xs r := pw_pt h.1 (fun x hx => Int.le_of_lt (h.2 x hx)) r hr
theorem all_zero {xs : List Int} (h : xs.Pairwise (fun a b => b ≤ a)) (hn : ∀ x ∈ xs, 0 ≤ x) (x : Int) (hx : x = 0) (hh : ∀ y ∈ xs, y ≤ x) : xs.filter (fun x => !decide (x = 0)) = [] := by
  rw [List.filter_eq_nil_iff]
  intro y hy
  have h1 := hh y hy
  have h2 := hn y hy
  have : y = 0 := by omega
  simp [this]
/-- zeros stand at the end -/
theorem pt_filter : ∀ {xs : List Int}, xs.Pairwise (fun a b => b ≤ a) → (∀ x ∈ xs, 0 ≤ x) → ∀ r : Int, 1 ≤ r → pt (xs.filter (fun x => !decide (x = 0))) r = pt xs r
  | [], _, _, r, _ => rfl
  | x :: xs, h, hn, r, hr => by
    rw [List.pairwise_cons] at h
    have hn' : ∀ y ∈ xs, 0 ≤ y := fun y hy => hn y (List.mem_cons_of_mem _ hy)
    by_cases hx : x = 0
    · have e := all_zero h.2 hn' x hx h.1
      rw [List.filter_cons_of_neg (by simp [hx]), e, pt_nil]
      have := pt_nonneg hn r
      have h0 : ∀ y ∈ x :: xs, y ≤ 0 := fun y hy => by
        rcases List.mem_cons.mp hy with rfl | hy
        · omega
        · have := h.1 y hy; omega
      have : pt (x :: xs) r ≤ 0 := by
        unfold pt
        rw [List.getD_eq_getElem?_getD]
        cases e : (x :: xs)[(r - 1).toNat]? with
        | none => simp
        | some y => simpa using h0 y (List.mem_of_getElem? e)
      omega
    · rw [List.filter_cons_of_pos (by simp [hx])]
      by_cases h1 : r = 1
      · subst h1; rw [pt_one, pt_one]
      · rw [pt_cons _ _ _ (by omega), pt_cons _ _ _ (by omega)]
        exact pt_filter h.2 hn' (r - 1) (by omega)
theorem shp_filter {xs : List Int} (h : xs.Pairwise (fun a b => b ≤ a)) (hn : ∀ x ∈ xs, 0 ≤ x) : Shp (xs.filter (fun x => !decide (x = 0))) := by
  refine ⟨h.sublist List.filter_sublist, fun x hx => ?_⟩
  rw [List.mem_filter] at hx
  have := hn x hx.1
  have : x ≠ 0 := by simpa using hx.2
  omega
theorem anti_pw : ∀ {xs : List Int}, (∀ j : Nat, j + 1 < xs.length → pt xs ((j : Int) + 2) ≤ pt xs ((j : Int) + 1)) → xs.Pairwise (fun a b => b ≤ a) := by
  intro xs h
  have key : ∀ (d j : Nat) (hj : j + d < xs.length), xs[j + d] ≤ xs[j] := by
    intro d
    induction d with
    | zero => intro j hj; exact Int.le_refl _
    | succ d ih =>
      intro j hj
      have h1 := ih j (by omega)
      have h2 := h (j + d) (by omega)
      rw [show (((j + d : Nat) : Int) + 2) = ((j + d + 1 : Nat) : Int) + 1 by omega, pt_get (by omega), pt_get (by omega)] at h2
      exact Int.le_trans h2 h1
  rw [List.pairwise_iff_getElem]
  intro i j hi hj hij
  have := key (j - i) i (by omega)
  simp only [show i + (j - i) = j by omega] at this
  exact this
theorem strip_far {u l : List Int} {m : Int} (hu : (u.length : Int) ≤ m) (hl : (l.length : Int) ≤ m) (h : ∀ r : Int, 1 ≤ r → r ≤ m → pt l r ≤ pt u r ∧ pt u (r + 1) ≤ pt l r) : StripP u l := by
  intro r hr
  by_cases hm : r ≤ m
  · exact h r hr hm
  · rw [pt_out (xs := l) (by omega), pt_out (xs := u) (n := r) (by omega), pt_out (xs := u) (n := r + 1) (by omega)]
    exact ⟨Int.le_refl _, Int.le_refl _⟩
/-- between neighbours of s -/
def okO (s : List Int) (q : List Int) : Prop := ∀ j : Nat, j < q.length → pt s ((j : Int) + 1) ≤ pt q ((j : Int) + 1) ∧ (1 ≤ j → pt q ((j : Int) + 1) ≤ pt s j)
def okB (s : List Int) (q : List Int) : Prop := ∀ j : Nat, j < q.length → pt s ((j : Int) + 2) ≤ pt q ((j : Int) + 1) ∧ pt q ((j : Int) + 1) ≤ pt s ((j : Int) + 1)
theorem pt_snoc_old {q : List Int} {w : Int} {j : Nat} (h : j < q.length) : pt (q ++ [w]) ((j : Int) + 1) = pt q ((j : Int) + 1) := by
  rw [pt_get (by simp; omega), pt_get h, List.getElem_append_left h]
theorem pt_snoc_new {q : List Int} {w : Int} : pt (q ++ [w]) ((q.length : Int) + 1) = w := by
  rw [pt_get (by simp)]; simp
theorem fin_over {xs q : List Int} (hx : Shp xs) (hl : (q.length : Int) = xs.length + 1) (hq : okO xs q) : Shp (q.filter fun x => !decide (x = 0)) ∧ StripP (q.filter fun x => !decide (x = 0)) xs := by
  have hnn : ∀ y ∈ q, (0 : Int) ≤ y := fun y hy => by
    obtain ⟨j, hj, e⟩ := List.getElem_of_mem hy
    have h1 := (hq j hj).1
    rw [pt_get hj, e] at h1
    have := hx.nonneg ((j : Int) + 1)
    omega
  have hpw : q.Pairwise (fun a b => b ≤ a) := anti_pw fun j hj => by
    have h1 := (hq (j + 1) hj).2 (by omega)
    have h2 := (hq j (by omega)).1
    rw [show (((j + 1 : Nat) : Int) + 1) = (j : Int) + 2 by omega, show (((j + 1 : Nat) : Int)) = (j : Int) + 1 by omega] at h1
    omega
  refine ⟨shp_filter hpw hnn, fun r hr => ?_⟩
  rw [pt_filter hpw hnn r hr, pt_filter hpw hnn (r + 1) (by omega)]
  by_cases h : r ≤ xs.length
  · obtain ⟨j, rfl⟩ : ∃ j : Nat, r = (j : Int) + 1 := ⟨(r - 1).toNat, by omega⟩
    have h1 := (hq j (by omega)).1
    have h2 := (hq (j + 1) (by omega)).2 (by omega)
    rw [show (((j + 1 : Nat) : Int)) = (j : Int) + 1 by omega] at h2
    exact ⟨h1, h2⟩
  · rw [pt_out (xs := q) (n := r + 1) (by omega), pt_out (xs := xs) (by omega)]
    exact ⟨pt_nonneg hnn r, Int.le_refl _⟩
theorem fin_below {xs q : List Int} (hx : Shp xs) (hl : (q.length : Int) = xs.length) (hq : okB xs q) : Shp (q.filter fun x => !decide (x = 0)) ∧ StripP xs (q.filter fun x => !decide (x = 0)) := by
  have hnn : ∀ y ∈ q, (0 : Int) ≤ y := fun y hy => by
    obtain ⟨j, hj, e⟩ := List.getElem_of_mem hy
    have h1 := (hq j hj).1
    rw [pt_get hj, e] at h1
    have := hx.nonneg ((j : Int) + 2)
    omega
  have hpw : q.Pairwise (fun a b => b ≤ a) := anti_pw fun j hj => by
    have h1 := (hq (j + 1) hj).2
    have h2 := (hq j (by omega)).1
    rw [show (((j + 1 : Nat) : Int) + 1) = (j : Int) + 2 by omega] at h1
    omega
  refine ⟨shp_filter hpw hnn, fun r hr => ?_⟩
  rw [pt_filter hpw hnn r hr]
  by_cases h : r ≤ xs.length
  · obtain ⟨j, rfl⟩ : ∃ j : Nat, r = (j : Int) + 1 := ⟨(r - 1).toNat, by omega⟩
    have h1 := hq j (by omega)
    rw [show (j : Int) + 1 + 1 = (j : Int) + 2 by omega]
    exact ⟨h1.2, h1.1⟩
  · rw [pt_out (xs := q) (n := r) (by omega), pt_out (xs := xs) (n := r) (by omega), pt_out (xs := xs) (n := r + 1) (by omega)]
    exact ⟨Int.le_refl _, Int.le_refl _⟩
theorem pt_take {zs : List Int} {left : Nat} {r : Int} (h : 1 ≤ r) : pt (zs.take left) r = if r ≤ left then pt zs r else 0 := by
  unfold pt
  rw [List.getD_eq_getElem?_getD, List.getD_eq_getElem?_getD, List.getElem?_take]
  by_cases h1 : r ≤ left
  · rw [if_pos h1, if_pos (by omega)]
  · rw [if_neg h1, if_neg (by omega)]; rfl
theorem pt_pad {ys : List Int} {j : Nat} (r : Int) : pt (ys ++ List.replicate j 0) r = pt ys r := by
  unfold pt
  rw [List.getD_eq_getElem?_getD, List.getD_eq_getElem?_getD]
  by_cases h : (r - 1).toNat < ys.length
  · rw [List.getElem?_append_left h]
  · rw [List.getElem?_append_right (by omega), List.getElem?_replicate, List.getElem?_eq_none (Nat.le_of_not_lt h)]
    split <;> rfl
/-- one step down a chain -/
def down (ys : List Int) (j left : Nat) : List Int := ((ys ++ List.replicate j 0).take left).filter fun x => !decide (x = 0)
theorem down_ok {top ys : List Int} {j left : Nat} (hs : Shp ys) (ht : Shp top) (hst : StripP top ys) (hl : top.length ≤ left + 1) : Shp (down ys j left) ∧ (down ys j left).length ≤ left ∧ StripP top (down ys j left) := by
  have hz : ∀ x ∈ ys ++ List.replicate j (0 : Int), 0 ≤ x := fun x hx => by
    rcases List.mem_append.mp hx with h | h
    · exact Int.le_of_lt (hs.2 x h)
    · rw [(List.mem_replicate.mp h).2]; exact Int.le_refl _
  have hpw : (ys ++ List.replicate j (0 : Int)).Pairwise (fun a b => b ≤ a) := by
    rw [List.pairwise_append]
    refine ⟨hs.1, ?_, fun a ha b hb => ?_⟩
    · rw [List.pairwise_replicate]; exact .inr (Int.le_refl _)
    · rw [(List.mem_replicate.mp hb).2]; exact Int.le_of_lt (hs.2 a ha)
  have hz' : ∀ x ∈ (ys ++ List.replicate j (0 : Int)).take left, 0 ≤ x := fun x hx => hz x (List.mem_of_mem_take hx)
  have hpw' : ((ys ++ List.replicate j (0 : Int)).take left).Pairwise (fun a b => b ≤ a) := hpw.sublist (List.take_sublist _ _)
  refine ⟨shp_filter hpw' hz', ?_, fun r hr => ?_⟩
  · have := List.length_filter_le (fun x : Int => !decide (x = 0)) ((ys ++ List.replicate j (0 : Int)).take left)
    rw [List.length_take] at this
    unfold down; omega
  · unfold down
    rw [pt_filter hpw' hz' r hr, pt_take hr, pt_pad]
    have h1 := hst r hr
    by_cases h : r ≤ left
    · rw [if_pos h]; exact h1
    · rw [if_neg h, pt_out (xs := top) (n := r + 1) (by omega)]
      exact ⟨ht.nonneg r, Int.le_refl _⟩

theorem pt_append_left {xs ys : List Int} {r : Int} (h1 : 1 ≤ r) (h : r ≤ xs.length) : pt (xs ++ ys) r = pt xs r := by
  unfold pt; rw [List.getD_eq_getElem?_getD, List.getD_eq_getElem?_getD, List.getElem?_append_left (by omega)]
theorem pt_map_range {f : Nat → Int} {n : Nat} {r : Int} (h1 : 1 ≤ r) (h : r ≤ n) : pt ((List.range n).map f) r = f (r - 1).toNat := by
  unfold pt
  rw [List.getD_eq_getElem?_getD, List.getElem?_map, List.getElem?_range (by omega)]; rfl
theorem pt_map_rangeN {f : Nat → Int} {n k : Nat} (h : k < n) : pt ((List.range n).map f) ((k : Int) + 1) = f k := by
  rw [pt_map_range (by omega) (by omega)]; congr 1; omega
/-- shapes are told by their parts -/
theorem shp_ext {xs ys : List Int} (hx : Shp xs) (hy : Shp ys) (h : ∀ r : Int, 1 ≤ r → pt xs r = pt ys r) : xs = ys := by
  have key : ∀ {xs ys : List Int}, Shp xs → (∀ r : Int, 1 ≤ r → pt xs r = pt ys r) → xs.length ≤ ys.length := fun {xs ys} hx h => by
    rcases Nat.lt_or_ge ys.length xs.length with hl | hl
    · exfalso
      have h1 := h ((ys.length : Int) + 1) (by omega)
      rw [pt_get hl, pt_out (xs := ys) (by omega)] at h1
      have := hx.2 _ (List.getElem_mem hl)
      omega
    · exact hl
  have hl : xs.length = ys.length := Nat.le_antisymm (key hx h) (key hy fun r hr => (h r hr).symm)
  refine List.ext_getElem hl fun j h1 h2 => ?_
  have := h ((j : Int) + 1) (by omega)
  rwa [pt_get h1, pt_get h2] at this
theorem Shp.nil : Shp [] := ⟨.nil, fun x hx => by cases hx⟩
theorem Shp.len_of {xs : List Int} (hx : Shp xs) {m : Int} (h0 : 0 ≤ m) (h : pt xs (m + 1) = 0) : (xs.length : Int) ≤ m := by
  rcases Int.lt_or_le m xs.length with hl | hl
  · exfalso
    have e : m + 1 = ((m.toNat : Nat) : Int) + 1 := by omega
    rw [e, pt_get (by omega)] at h
    have := hx.2 _ (List.getElem_mem (show m.toNat < xs.length by omega))
    omega
  · exact hl
/-- parts without the zeros -/
def nz (q : List Int) : List Int := q.filter fun x => !decide (x = 0)
theorem nz_len (q : List Int) : (nz q).length ≤ q.length := List.length_filter_le _ _
theorem pt_nz {q : List Int} (h : q.Pairwise (fun a b => b ≤ a)) (hn : ∀ x ∈ q, 0 ≤ x) {r : Int} (hr : 1 ≤ r) : pt (nz q) r = pt q r := pt_filter h hn r hr
theorem shp_nz {q : List Int} (h : q.Pairwise (fun a b => b ≤ a)) (hn : ∀ x ∈ q, 0 ≤ x) : Shp (nz q) := shp_filter h hn
/-- parts without the zeros at the end -/
def tz (q : List Int) : List Int := (q.reverse.dropWhile fun x => decide (x = 0)).reverse
theorem tz_snoc (q : List Int) (x : Int) : tz (q ++ [x]) = if x = 0 then tz q else q ++ [x] := by
  unfold tz
  rw [List.reverse_append, List.reverse_singleton, List.singleton_append, List.dropWhile_cons]
  by_cases h : x = 0 <;> simp [h]
theorem List.reverseRecOn'' {α : Type} {P : List α → Prop} (h0 : P []) (h1 : ∀ q x, P q → P (q ++ [x])) (q : List α) : P q := by
  rw [← List.reverse_reverse q]
  induction q.reverse with
  | nil => exact h0
  | cons x l ih => rw [List.reverse_cons]; exact h1 _ _ ih
theorem pt_tz (q : List Int) {r : Int} (hr : 1 ≤ r) : pt (tz q) r = pt q r := by
  refine List.reverseRecOn'' (P := fun q => pt (tz q) r = pt q r) rfl (fun q x ih => ?_) q
  · rw [tz_snoc]
    by_cases h : x = 0
    · rw [if_pos h, ih]
      by_cases h2 : r ≤ q.length
      · rw [pt_append_left hr h2]
      · rw [pt_out (by omega)]
        by_cases h3 : r = q.length + 1
        · rw [h3, show (q.length : Int) + 1 = ((q.length : Nat) : Int) + 1 from rfl, pt_snoc_new, h]
        · rw [pt_out (by simp; omega)]
    · rw [if_neg h]
end Li
end

section
set_option linter.all false
set_option maxRecDepth 100000
set_option maxHeartbeats 2000000
namespace Li
open PySem L2 Df
open Classical
abbrev Gf := List D → Store → Res D
/-! ### part, strips -/
abbrev PartN (G : Gf) : Prop := ∀ (S : Store) (xs : List Int) (n : Int), 1 ≤ n → frzR S (G [T D.int xs, .int n] S) = .ok (.int (pt xs n)) S
theorem ix_pt (xs : List Int) (n : Int) : ix xs (n - 1) = pt xs n := rfl
theorem part_n (F : Fn) : PartN (runD F d_part) := by
  intro S xs n hn
  refine fn_eq0 (e := D.int) (by decide) ?_
  simp [wpR_run, d_part, exSs, exS, ev, evs, evT]
  refine ⟨fun h => ?_, fun h => by rw [pt_out h]⟩
  rw [idx_T (by omega) (by omega)]
  exact ⟨rfl, rfl⟩
theorem lawpart_n (F : Fn) : PartN (runD F d_law_part) := by
  intro S xs n hn
  refine fn_eq0 (e := D.int) (by decide) ?_
  simp [wpR_run, d_law_part, exSs, exS, ev, evs, evT]
  refine ⟨fun h => ?_, fun h => by rw [pt_out h]⟩
  rw [idx_T (by omega) (by omega)]
  exact ⟨rfl, rfl⟩
abbrev StripN (G : Gf) : Prop := ∀ (S : Store) (u l : List Int), u.length ≤ 1000000 → l.length ≤ 1000000 → frzR S (G [T D.int u, T D.int l] S) = .ok (.bl (decide (StripP u l))) S
theorem lawstrip_n {F : Fn} {f : Nat} (hp : PartN (F f)) : StripN (runD F (d_law_strip f)) := by
  intro S u l hu hl
  refine fn_eq0 (e := D.bl) (by decide) ?_
  simp [wpR_run, d_law_strip, exSs, exS, ev, evs, evT, evI]
  refine ⟨⟨rngOk_small (by omega) (by omega), rngOk_small (by omega) (by omega)⟩, ?_⟩
  refine wpS_rng (fun k g S' => S' = S ∧ (∃ x, g = [some (T D.int u), some (T D.int l), x]) ∧ ∀ r : Int, 1 ≤ r → r ≤ k → pt l r ≤ pt u r ∧ pt u (r + 1) ≤ pt l r) ⟨rfl, ⟨_, rfl⟩, fun r h1 h2 => by omega⟩ (fun k g S' hk hJ => ?_) (fun g S' hJ => ?_)
  · obtain ⟨rfl, ⟨x, rfl⟩, hr⟩ := hJ
    simp (disch := first | omega | simp) [exSs, exS, ev, evs, evT, evTO, hp]
    refine ⟨fun h hs => ?_, fun h => ⟨fun h2 hs => ?_, fun h2 r h3 h4 => ?_⟩⟩
    · have := (hs (1 + (k : Int)) (by omega)).1; omega
    · have := (hs (1 + (k : Int)) (by omega)).2; omega
    · by_cases hrk : r ≤ k
      · exact hr r h3 hrk
      · have e : r = 1 + (k : Int) := by omega
        subst e; exact ⟨h, h2⟩
  · obtain ⟨rfl, ⟨x, rfl⟩, hr⟩ := hJ
    simp [exSs, exS, ev]
    exact strip_far (m := (((u.length : Int) + l.length + 2).toNat - 1 : Nat)) (by omega) (by omega) hr
theorem isstrip_n {F : Fn} {f : Nat} (hp : PartN (F f)) : StripN (runD F (d_is_strip f)) := by
  intro S u l hu hl
  refine fn_eq0 (e := D.bl) (by decide) ?_
  simp [wpR_run, d_is_strip, exSs, exS, ev, evs, evT, evI]
  refine ⟨⟨rngOk_small (by omega) (by omega), rngOk_small (by omega) (by omega)⟩, ?_⟩
  rw [all_rng (p := fun k => decide (pt l (1 + (k : Int)) ≤ pt u (1 + (k : Int))) && decide (pt u (1 + (k : Int) + 1) ≤ pt l (1 + (k : Int)))) trivial fun k hk => ?_]
  · refine ⟨rfl, ?_⟩
    congr 1
    rw [Bool.eq_iff_iff, List.all_eq_true, decide_eq_true_iff]
    constructor
    · intro h
      refine strip_far (m := max (u.length : Int) l.length + 1) (by omega) (by omega) fun r h1 h2 => ?_
      have := h (r - 1).toNat (List.mem_range.mpr (by omega))
      rw [show (1 : Int) + ((r - 1).toNat : Int) = r by omega] at this
      simpa using this
    · intro h k hk
      simpa using h (1 + (k : Int)) (by omega)
  · simp (disch := first | omega | simp) [stepG, ev, evs, evC, hp]
    by_cases h : pt l (1 + (k : Int)) ≤ pt u (1 + (k : Int)) <;> simp [h]
/-! ### the drawing state of the laws 1 to 22 -/
def so (t : List Int) (n : Int) : Ob := .lst [Ls D.int t, .int n]
def TapeOk (t : List Int) : Prop := ∀ z ∈ t, 0 ≤ z ∧ z < 2 ^ 31
theorem soB (t : List Int) : SoB (so t) := fun n m x hx => by
  rcases List.mem_cons.mp hx with rfl | hx
  · exact .lst fun y hy => by obtain ⟨i, _, rfl⟩ := List.mem_map.mp hy; exact .int i
  · rw [List.mem_singleton.mp hx]; exact .int n
abbrev TakeN (t : List Int) (G : Gf) : Prop := ∀ many : Int, 0 < many → Dw (so t) (fun S => frzR S (G [.ref 0, .int many] S)) 1 D.int fun v => 0 ≤ v ∧ v < many
abbrev DrawN (G : Gf) : Prop := ∀ (S : Store) (tape : List Int) (i m : Int), TapeOk tape → 0 ≤ i → i ≤ 2 ^ 61 → 0 < m → wpR (frzR S (G [Ls D.int tape, .int i, .int m] S)) fun d S' => S' = S ∧ ∃ v, d = .int v ∧ 0 ≤ v ∧ v < m
theorem draw_n (F : Fn) : DrawN (runD F d_law_draw) := by
  intro S tape i m ht h0 h1 hm
  refine wpR_pure ?_
  have fin : ∀ w : Int, 0 ≤ w → w < 2 ^ 31 → CMul (w + i) (i + 3) ∧ CMul ((w + i) * (i + 3)) 7919 ∧ CMul i 104729 ∧ 0 ≤ ((w + i) * (i + 3) * 7919 + i * 104729) % 65521 % m ∧ ((w + i) * (i + 3) * 7919 + i * 104729) % 65521 % m < m := fun w h2 h3 =>
    ⟨cmul_r (by omega) (by omega), cmul_r (by omega) (by omega), cmul_r (by omega) (by omega), Int.emod_nonneg _ (by omega), Int.emod_lt_of_pos _ hm⟩
  refine wpR_mono (Q := fun d S' => S' = S ∧ ∃ v, d = .int v ∧ 0 ≤ v ∧ v < m) ?_ fun d S' ⟨e, v, hv, q⟩ => ⟨⟨[], by rw [e, List.append_nil]⟩, d, by subst hv; rfl, rfl, v, hv, q⟩
  simp [wpR_run, d_law_draw, exSs, exS, ev, evs, evT, hm]
  refine ⟨fun h => ?_, fun h => ?_⟩
  · rw [idx_L h0 h]
    simp [hm]
    exact ⟨Int.emod_nonneg _ (by omega), Int.emod_lt_of_pos _ hm⟩
  · refine ⟨fun hl => ⟨hl, ?_⟩, fun hl => ?_⟩
    · have a1 := Int.emod_nonneg i (show (tape.length : Int) ≠ 0 by omega)
      have a2 := Int.emod_lt_of_pos i (show (0 : Int) < tape.length by omega)
      rw [idx_L a1 a2]
      have hz := ht _ (ix_mem a1 a2)
      have q := fin _ hz.1 hz.2
      simp [hm]
      exact ⟨q.1, q.2.1, q.2.2.1, q.2.2.2⟩
    · have q := fin 1 (by omega) (by omega)
      exact ⟨q.1, q.2.1, q.2.2.1, q.2.2.2⟩
theorem take_n {t : List Int} (ht : TapeOk t) {F : Fn} {f : Nat} (hd : DrawN (F f)) : TakeN t (runD F (d_law_take f)) := by
  intro m hm
  refine Dw.of (by decide) (soB t) fun n R h0 h1 => ?_
  have e1 : (so t n :: R)[0]? = some (.lst [Ls D.int t, .int n]) := rfl
  have e3 : (so t (n + 1) :: R)[0]? = some (.lst [Ls D.int t, .int (n + 1)]) := rfl
  have e4 : stR (.ref 0) (.int 1) (.int (n + 1)) (so t n :: R) = some (so t (n + 1) :: R) := rfl
  have i0 : idxR (.ref 0) (.int 0) (so t (n + 1) :: R) = .ok (Ls D.int t) (so t (n + 1) :: R) := rfl
  have i1 : ∀ n, idxR (.ref 0) (.int 1) (so t n :: R) = .ok (.int n) (so t n :: R) := fun n => rfl
  simp [wpR_run, d_law_take, exSs, exS, ev, evs, evT, e4, i0, i1]
  refine wpR_mono (hd (so t (n + 1) :: R) t (n + 1) m ht (by omega) (by omega) hm) fun d S' ⟨es, v, hv, q⟩ => ?_
  exact ⟨n + 1, [], v, by omega, by omega, by rw [es, List.append_nil], hv, q⟩
/-! ### trims -/
abbrev TrimN (G : Gf) : Prop := ∀ (S : Store) (xs : List Int), xs.length ≤ 1000000 → frzR S (G [Ls D.int xs] S) = .ok (T D.int (nz xs)) S
abbrev TrimR (G : Gf) : Prop := ∀ (S : Store) (a : Nat) (xs : List Int), S[a]? = some (oL D.int xs) → xs.length ≤ 1000000 → frzR S (G [.ref a] S) = .ok (T D.int (nz xs)) S
theorem trim_n (F : Fn) : TrimN (runD F d_law_trim) := by
  intro S xs hl
  refine fn_eq0 (e := T D.int) (by decide) ?_
  simp [wpR_run, d_law_trim, exSs, exS, ev, evs, evT, evI, evC]
  rw [flc_fil (e' := D.int) (f := id) (p := fun x => !decide (x = 0)) (by decide) trivial hl fun x hx => by
    simp [stepG, ev, evC, evT]
    by_cases h : x = 0 <;> simp [h]]
  simp [nz]
theorem trim_r (F : Fn) : TrimR (runD F d_law_trim) := by
  intro S a xs ha hl
  refine fn_eq0 (e := T D.int) (by decide) ?_
  simp [wpR_run, d_law_trim, exSs, exS, ev, evs, evT, evI, evC, seqI_o ha]
  rw [flc_fil (e' := D.int) (f := id) (p := fun x => !decide (x = 0)) (by decide) ha hl fun x hx => by
    simp [stepG, ev, evC, evT]
    by_cases h : x = 0 <;> simp [h]]
  simp [nz]
abbrev TrimmedR (G : Gf) : Prop := ∀ (S : Store) (a : Nat) (xs : List Int), S[a]? = some (oL D.int xs) → xs.length ≤ 10000 → frzR S (G [.ref a] S) = .ok (T D.int (tz xs)) S
theorem whl_trim {c : GE → Store → Res Bool} {body : GE → Store → SR} {g : GE} {S : Store} (h0 : c g (S ++ [oL D.int []]) = .ok false (S ++ [oL D.int []]))
    (h1 : ∀ q y, c g (S ++ [oL D.int (q ++ [y])]) = .ok (decide (y = 0)) (S ++ [oL D.int (q ++ [y])])) (hb : ∀ q, body g (S ++ [oL D.int (q ++ [0])]) = .nx g (S ++ [oL D.int q])) :
    ∀ (n : Nat) (xs : List Int), xs.length < n → whlGo c body n g (S ++ [oL D.int xs]) = .nx g (S ++ [oL D.int (tz xs)])
  | 0, xs, h => by omega
  | n + 1, xs, h => by
    refine List.reverseRecOn'' (P := fun xs => xs.length < n + 1 → whlGo c body (n + 1) g (S ++ [oL D.int xs]) = .nx g (S ++ [oL D.int (tz xs)])) (fun _ => ?_) (fun q y _ hq => ?_) xs h
    · rw [whlGo, h0]; rfl
    · rw [whlGo, tz_snoc, h1]
      simp only [SR.of_ok]
      by_cases hy : y = 0
      · subst hy
        simp only [decide_true, if_true, hb]
        exact whl_trim h0 h1 hb n q (by simp at hq; omega)
      · simp [hy]
theorem trimmed_r (F : Fn) : TrimmedR (runD F d_trimmed) := by
  intro S a xs ha hl
  refine fn_eq (wpR_mono (Q := fun r S' => S' = S ++ [oL D.int (tz xs)] ∧ r = T D.int (tz xs)) ?_ fun r S' ⟨e1, e2⟩ => ⟨⟨_, e1⟩, by rw [e2]; simp⟩)
  rw [wpR_run]
  refine ⟨rfl, ?_⟩
  simp only [d_trimmed, wpS_cons, wpS_nil]
  simp only [exS, ev, evs, wpS_of, wpR_bind, wpR_ok]
  simp [l1_o ha]
  rw [whl_trim (S := S) ?_ (fun q y => ?_) (fun q => ?_) 100000 xs (by omega)]
  · simp [tup_o (snoc_get S (oL D.int (tz xs)))]
  · have e := snoc_get S (oL D.int [])
    simp [evT, evTA, ev, tru_o e]
  · have e := snoc_get S (oL D.int (q ++ [y]))
    simp [evT, evTA, ev, tru_o e, idx_om e]
    rw [show ix (q ++ [y]) (q.length : Int) = y by rw [ix_nat (by simp)]; simp]
  · have e := snoc_get S (oL D.int (q ++ [0]))
    simp [exSs, exS, ev, evs, asM_o e, mt_popo e, set_snoc]
end Li
end

section
set_option linter.all false
set_option maxRecDepth 100000
set_option maxHeartbeats 2000000
namespace Li
open PySem L2 Df
open Classical
section
variable {t : List Int} {F : Fn} {f0 f1 f2 f3 : Nat}
/-! ### drawn numbers, shapes -/
abbrev BetN (t : List Int) (G : Gf) : Prop := ∀ lo hi : Int, lo ≤ hi → Dw (so t) (fun S => frzR S (G [.ref 0, .int lo, .int hi] S)) 2 D.int fun v => lo ≤ v ∧ v ≤ hi
theorem bet_n (ht : TakeN t (F f0)) : BetN t (runD F (d_law_between f0)) := by
  intro lo hi h
  refine Dw.of (by decide) (soB t) fun n R h0 h1 => ?_
  simp [wpR_run, d_law_between, exSs, exS, ev, evs, evT]
  refine (ht 6 (by omega)).go h0 (by omega) fun v n1 a1 a2 ⟨v0, v1⟩ => ?_
  simp
  refine ⟨fun _ => ⟨n1, [], lo, a1, by omega, by simp, rfl, by omega, h⟩, fun _ => ⟨fun _ => ⟨n1, [], hi, a1, by omega, by simp, rfl, h, by omega⟩, fun _ => ?_⟩⟩
  refine (ht (hi - lo + 1) (by omega)).go (by omega) (by omega) fun w n2 b1 b2 ⟨w0, w1⟩ => ?_
  simp
  exact ⟨n2, [], lo + w, by omega, by omega, by simp, rfl, by omega, by omega⟩
abbrev ShapeN (t : List Int) (G : Gf) : Prop := ∀ most : Int, 0 ≤ most → most ≤ 100 → Dw (so t) (fun S => frzR S (G [.ref 0, .int most] S)) 200 (T D.int) fun xs => Shp xs ∧ (xs.length : Int) ≤ most
theorem lit4 {a b c d : Int} : ∀ x ∈ [D.int a, D.int b, D.int c, D.int d], ∀ n S, fz 11 n S x = some x := fun x hx n S => by
  simp at hx; rcases hx with rfl | rfl | rfl | rfl <;> rfl
theorem lit3 {a b c : Int} : ∀ x ∈ [D.int a, D.int b, D.int c], ∀ n S, fz 11 n S x = some x := fun x hx n S => by
  simp at hx; rcases hx with rfl | rfl | rfl <;> rfl
theorem srt_shp {zs : List Int} (h : ∀ z ∈ zs, 0 ≤ z) : Shp (nz (srt zs).reverse) ∧ (nz (srt zs).reverse).length ≤ zs.length := by
  refine ⟨shp_nz (List.pairwise_reverse.mpr srt_pw) fun x hx => h x (srt_perm.mem_iff.mp (List.mem_reverse.mp hx)), ?_⟩
  have := nz_len (srt zs).reverse
  rw [List.length_reverse, (srt_perm (ns := zs)).length_eq] at this
  exact this
theorem drawn_n {F : Fn} {f1 : Nat} {w : Int} {n : Int} {R : Store} (ht : TakeN t (F f1)) {len : Nat} {lo : Int} {step : D → Store → Res (Option D)} {Q : D → Store → Prop} (hw : 0 < w) (hl : len ≤ 1000)
    (hst : ∀ (k : Nat) (S : Store), k < len → step (.int (lo + (k : Int))) S = (frzR S (F f1 [.ref 0, .int w] S)).bind fun d S => .ok (some d) S) (h0 : 0 ≤ n) (h1 : n + len + 1 ≤ 2 ^ 60)
    (k : ∀ (zs : List Int) (n' : Int), zs.length = len → (∀ z ∈ zs, 0 ≤ z ∧ z < w) → n ≤ n' → n' ≤ n + len → Q (Ls D.int zs) (so t n' :: R)) :
    wpR (frzR (so t n :: R) ((lcGo (fun _ => True) step (rngL lo len) (so t n :: R)).noexc.bind fun ds S2 => if ds.length ≤ sizeLine then alloc (.lst ds) S2 else .stuck)) Q := by
  refine wpR_flcD (e := D.int) (by decide) (soB t) (by omega) (fun z => 0 ≤ z ∧ z < w) 1 (fun j n' hj a1 a2 => ?_) fun zs n' a1 a2 a3 a4 => k zs n' a1 a2 a3 (by omega)
  rw [hst j _ hj, wpR_bind]
  refine (ht w hw).go (by omega) (by omega) fun v n'' b1 b2 b3 => ?_
  exact ⟨n'', v, b1, b2, rfl, rfl, b3⟩
def ShJ (t : List Int) (most n1 c : Int) (R : Store) (g : GE) (S' : Store) : Prop := ∃ s n', n1 ≤ n' ∧ n' ≤ n1 + c ∧ 1 ≤ s ∧ g = [some (.ref 0), some (.int most), some (.int s), none, none] ∧ S' = so t n' :: R
theorem wpR_idxm {t : List Int} {so : Int → Ob} {F : Fn} {f : Nat} {n : Int} {R : Store} {Q : D → Store → Prop} {ds : List D} (ht : Dw so (fun S => frzR S (F f [.ref 0, .int ds.length] S)) 1 D.int fun v => 0 ≤ v ∧ v < ds.length) (h0 : 0 ≤ n) (h1 : n + 1 ≤ 2 ^ 60)
    (k : ∀ d ∈ ds, ∀ n', n ≤ n' → n' ≤ n + 1 → Q d (so n' :: R)) : wpR (frzR (so n :: R) (F f [.ref 0, .int ds.length] (so n :: R))) fun a S => wpR (idxR (.lst ds) a S) Q :=
  ht.go h0 h1 fun v n1 a1 a2 ⟨v0, v1⟩ => idx_lit v0 v1 fun d hd => k d hd n1 a1 a2
theorem shape_n (htr : TrimN (F f0)) (ht : TakeN t (F f1)) : ShapeN t (runD F (d_law_shape f0 f1)) := by
  intro most hm hm2
  refine Dw.of (by decide) (soB t) fun n R h0 h1 => wpR_def rfl ?_
  have hz := sl_sz
  simp only [d_law_shape]
  rw [Then_cons]
  simp [exS, ev, evs, frz_lit lit4, show 4 ≤ sizeLine by omega]
  refine (ht 4 (by omega)).go h0 (by omega) fun v n1 a1 a2 ⟨v0, v1⟩ => ?_
  refine idx_lit v0 (by simpa using v1) fun z hz => ?_
  obtain ⟨sz, rfl, hsz⟩ : ∃ i, z = D.int i ∧ 1 ≤ i := by
    simp at hz
    rcases hz with rfl | rfl | rfl | rfl <;> exact ⟨_, rfl, by omega⟩
  rw [Then_cons]
  refine wpS_then (N' := ShJ t most n1 1 R) ?_ ?_
  · simp [exS, ev, evs, evT, evTA]
    refine ⟨fun _ => ⟨fun _ => ?_, fun _ => ⟨sz, n1, by omega, by omega, hsz, rfl, rfl⟩⟩, fun _ => ⟨sz, n1, by omega, by omega, hsz, rfl, rfl⟩⟩
    refine (ht 2 (by omega)).go (by omega) (by omega) fun w n2 b1 b2 _ => ?_
    simp
    exact ⟨fun _ => ⟨9, n2, b1, b2, by omega, rfl, rfl⟩, fun _ => ⟨sz, n2, b1, b2, hsz, rfl, rfl⟩⟩
  rintro g S' ⟨s, n2, b1, b2, hs, rfl, rfl⟩
  rw [Then_cons]
  simp [exS, ev, evs, evI]
  refine wpR_frzB (soB t) ?_
  simp
  refine wpR_frzB (soB t) ?_
  simp
  refine (ht (most + 1) (by omega)).go (by omega) (by omega) fun len n3 c1 c2 ⟨l0, l1⟩ => ?_
  simp
  refine ⟨rngOk_small (by omega) (by omega), n3, rfl, ?_⟩
  refine drawn_n ht (w := s + 1) (by omega) (by omega) (fun k S hk => by simp [stepG, ev, evs, evC]) (by omega) (by omega) fun zs n4 d1 d2 d3 d4 => ?_
  refine ⟨n4, rfl, ?_⟩
  simp [frz_srt]
  rw [Then_cons]
  simp [exS, ev, evs, frz_rev]
  rw [htr _ _ (by simp [srt_perm.length_eq]; omega)]
  obtain ⟨q1, q2⟩ := srt_shp (zs := zs) fun z hz => (d2 z hz).1
  exact ⟨n4, [], _, by omega, by omega, by simp, rfl, q1, by omega⟩
end
end Li
end

section
set_option linter.all false
set_option maxRecDepth 100000
set_option maxHeartbeats 2000000
namespace Li
open PySem L2 Df
open Classical
section
variable {t : List Int} {F : Fn} {f0 f1 f2 f3 : Nat}
@[simp] theorem own_get (x o : Ob) (R : Store) : (x :: (R ++ [o]))[R.length + 1]? = some o := by
  rw [List.getElem?_cons_succ]; exact snoc_get R o
@[simp] theorem own_set (x o o' : Ob) (R : Store) : (x :: (R ++ [o])).set (R.length + 1) o' = x :: (R ++ [o']) := by
  rw [List.set_cons_succ, set_snoc]
/-- a list of parts in the making, at its place behind R -/
def PtJ (t : List Int) (n c : Int) (R : Store) (xs : List Int) (b : Int) (k : Nat) (ok : List Int → Prop) (g : GE) (S' : Store) : Prop := ∃ q n' x, g = [some (.ref 0), some (T D.int xs), some (.ref (R.length + 1)), x] ∧ S' = so t n' :: (R ++ [oL D.int q]) ∧ (q.length : Int) = b + k ∧ ok q ∧ n ≤ n' ∧ n' ≤ n + c + 2 * k
theorem okO_snoc {xs q : List Int} {v : Int} {k : Nat} (hl : (q.length : Int) = 1 + k) (h : okO xs q) (v0 : pt xs (2 + (k : Int)) ≤ v) (v1 : v ≤ pt xs (2 + (k : Int) - 1)) : okO xs (q ++ [v]) := by
  intro j hj
  rw [List.length_append, List.length_singleton] at hj
  by_cases hjq : j < q.length
  · rw [pt_snoc_old hjq]; exact h j hjq
  · have : j = q.length := by omega
    subst this
    rw [pt_snoc_new]
    have e1 : ((q.length : Nat) : Int) = 1 + k := by omega
    rw [e1, show (1 : Int) + k + 1 = 2 + k by omega]
    exact ⟨v0, fun _ => by rw [show (1 : Int) + (k : Int) = 2 + (k : Int) - 1 by omega]; omega⟩
theorem okB_snoc {xs q : List Int} {v : Int} {k : Nat} (hl : (q.length : Int) = k) (h : okB xs q) (v0 : pt xs (1 + (k : Int) + 1) ≤ v) (v1 : v ≤ pt xs (1 + (k : Int))) : okB xs (q ++ [v]) := by
  intro j hj
  rw [List.length_append, List.length_singleton] at hj
  by_cases hjq : j < q.length
  · rw [pt_snoc_old hjq]; exact h j hjq
  · have : j = q.length := by omega
    subst this
    rw [pt_snoc_new]
    have e1 : ((q.length : Nat) : Int) = k := by omega
    rw [e1, show (k : Int) + 2 = 1 + k + 1 by omega, show (k : Int) + 1 = 1 + k by omega]
    exact ⟨v0, by omega⟩
abbrev OverN (t : List Int) (G : Gf) : Prop := ∀ xs : List Int, Shp xs → xs.length ≤ 200 → Dw (so t) (fun S => frzR S (G [.ref 0, T D.int xs] S)) 1000 (T D.int) fun ys => Shp ys ∧ (ys.length : Int) ≤ xs.length + 1 ∧ StripP ys xs
theorem over_n (htr : TrimR (F f0)) (hb : BetN t (F f1)) (hp : PartN (F f2)) (ht : TakeN t (F f3)) : OverN t (runD F (d_law_over f0 f1 f2 f3)) := by
  intro xs hx hl
  refine Dw.of (by decide) (soB t) fun n R h0 h1 => wpR_def rfl ?_
  have hz := sl_sz
  simp only [d_law_over]
  rw [Then_cons]
  simp (disch := first | omega | simp) [exS, ev, evs, frz_lit lit3, show 3 ≤ sizeLine by omega, show 1 ≤ sizeLine by omega, hp]
  refine (ht 3 (by omega)).go h0 (by omega) fun v n1 a1 a2 ⟨v0, v1⟩ => ?_
  refine idx_lit v0 (by simpa using v1) fun z hz => ?_
  obtain ⟨m, rfl, hm⟩ : ∃ i, z = D.int i ∧ 1 ≤ i := by
    simp at hz
    rcases hz with rfl | rfl | rfl <;> exact ⟨_, rfl, by omega⟩
  refine (ht m (by omega)).go (by omega) (by omega) fun w n2 b1 b2 ⟨w0, w1⟩ => ?_
  simp
  rw [Then_cons]
  simp [exS, ev, evs, evI]
  refine ⟨⟨rngOk_small (by omega) (by omega), rngOk_small (by omega) (by omega)⟩, ?_⟩
  refine wpS_rng (fun k g S' => PtJ t n 3 R xs 1 k (okO xs) g S') ⟨[pt xs 1 + w], n2, none, rfl, rfl, rfl, fun j hj => ?_, by omega, by omega⟩ (fun k g S' hk hJ => ?_) (fun g S' hJ => ?_)
  · simp at hj
    subst hj
    have e : pt [pt xs 1 + w] 1 = pt xs 1 + w := pt_one _ _
    simp
    omega
  · obtain ⟨q, n', x, rfl, rfl, hq, hok, hn1, hn2⟩ := hJ
    have hkl : k < xs.length := by simpa using hk
    have han := hx.anti (1 + (k : Int)) (by omega)
    simp (disch := first | omega | simp) [exS, ev, evs, hp, asM_o (own_get _ _ _)]
    refine (hb _ _ (by rw [show 1 + (k : Int) + 1 = 2 + (k : Int) by omega, show 1 + (k : Int) = 2 + (k : Int) - 1 by omega] at han; exact han)).go (by omega) (by omega) fun v n3 c1 c2 ⟨v0, v1⟩ => ?_
    rw [mt_appo (own_get _ _ _) (by omega)]
    simp
    exact ⟨q ++ [v], n3, _, rfl, rfl, by simp; omega, okO_snoc hq hok v0 v1, by omega, by omega⟩
  obtain ⟨q, n', x, rfl, rfl, hq, hok, hn1, hn2⟩ := hJ
  rw [Then_cons]
  simp [exS, ev, evs]
  rw [htr _ _ q (own_get _ _ _) (by (try simp at hq); omega)]
  try simp at hq hn2
  obtain ⟨k1, k2⟩ := fin_over hx (by omega) hok
  have hlen := nz_len q
  exact ⟨n', [oL D.int q], nz q, by omega, by omega, rfl, rfl, k1, by omega, k2⟩
abbrev BelowN (t : List Int) (G : Gf) : Prop := ∀ xs : List Int, Shp xs → xs.length ≤ 200 → Dw (so t) (fun S => frzR S (G [.ref 0, T D.int xs] S)) 1000 (T D.int) fun ys => Shp ys ∧ (ys.length : Int) ≤ xs.length ∧ StripP xs ys
theorem below_n (htr : TrimR (F f0)) (hb : BetN t (F f1)) (hp : PartN (F f2)) : BelowN t (runD F (d_law_below f0 f1 f2)) := by
  intro xs hx hl
  refine Dw.of (by decide) (soB t) fun n R h0 h1 => wpR_def rfl ?_
  have hz := sl_sz
  simp only [d_law_below]
  rw [Then_cons]
  simp [exS, ev, evs]
  rw [Then_cons]
  simp [exS, ev, evs, evI]
  refine ⟨⟨rngOk_small (by omega) (by omega), rngOk_small (by omega) (by omega)⟩, ?_⟩
  refine wpS_rng (fun k g S' => PtJ t n 3 R xs 0 k (okB xs) g S') ⟨[], n, none, rfl, rfl, rfl, fun j hj => by simp at hj, by omega, by omega⟩ (fun k g S' hk hJ => ?_) (fun g S' hJ => ?_)
  · obtain ⟨q, n', x, rfl, rfl, hq, hok, hn1, hn2⟩ := hJ
    have hkl : k < xs.length := by simpa using hk
    have han := hx.anti (1 + (k : Int)) (by omega)
    simp (disch := first | omega | simp) [exS, ev, evs, hp, asM_o (own_get _ _ _)]
    refine (hb _ _ han).go (by omega) (by omega) fun v n3 c1 c2 ⟨v0, v1⟩ => ?_
    rw [mt_appo (own_get _ _ _) (by omega)]
    simp
    exact ⟨q ++ [v], n3, _, rfl, rfl, by simp; omega, okB_snoc (by omega) hok v0 v1, by omega, by omega⟩
  obtain ⟨q, n', x, rfl, rfl, hq, hok, hn1, hn2⟩ := hJ
  rw [Then_cons]
  simp [exS, ev, evs]
  rw [htr _ _ q (own_get _ _ _) (by (try simp at hq); omega)]
  try simp at hq hn2
  obtain ⟨k1, k2⟩ := fin_below hx (by omega) hok
  have hlen := nz_len q
  exact ⟨n', [oL D.int q], nz q, by omega, by omega, rfl, rfl, k1, by omega, k2⟩
abbrev EndN (t : List Int) (G : Gf) : Prop := ∀ most : Int, 0 ≤ most → most ≤ 100 → Dw (so t) (fun S => frzR S (G [.ref 0, .int most] S)) 200 (T D.int) fun xs => Shp xs ∧ (xs.length : Int) ≤ most ∧ ∀ r, pt xs r ≤ 9
theorem pt_le {xs : List Int} {b : Int} (hb : 0 ≤ b) (h : ∀ x ∈ xs, x ≤ b) (r : Int) : pt xs r ≤ b := by
  unfold pt
  rw [List.getD_eq_getElem?_getD]
  cases e : xs[(r - 1).toNat]? with
  | none => simpa using hb
  | some x => simpa using h x (List.mem_of_getElem? e)
theorem end_n (htr : TrimN (F f0)) (ht : TakeN t (F f1)) : EndN t (runD F (d_law_end f0 f1)) := by
  intro most hm hm2
  refine Dw.of (by decide) (soB t) fun n R h0 h1 => wpR_def rfl ?_
  have hz := sl_sz
  simp only [d_law_end]
  rw [Then_cons]
  simp [exS, ev, evs, frz_lit lit4, show 4 ≤ sizeLine by omega]
  refine (ht 4 (by omega)).go h0 (by omega) fun v n1 a1 a2 ⟨v0, v1⟩ => ?_
  refine idx_lit v0 (by simpa using v1) fun z hz => ?_
  obtain ⟨sz, rfl, hsz, hsz2⟩ : ∃ i, z = D.int i ∧ 1 ≤ i ∧ i ≤ 9 := by
    simp at hz
    rcases hz with rfl | rfl | rfl | rfl <;> exact ⟨_, rfl, by omega, by omega⟩
  rw [Then_cons]
  simp [exS, ev, evs, evI]
  refine wpR_frzB (soB t) ?_
  refine wpR_frzB (soB t) ?_
  simp
  refine wpR_frzB (soB t) ?_
  simp
  refine ⟨rngOk_small (by omega) (by omega), n1, rfl, ?_⟩
  refine drawn_n ht (w := sz + 1) (by omega) (by omega) (fun k S hk => by simp [stepG, ev, evs, evC]) (by omega) (by omega) fun zs n4 d1 d2 d3 d4 => ?_
  refine ⟨n4, rfl, ?_⟩
  simp [frz_srt]
  simp [frz_rev]
  refine ⟨n4, rfl, ?_⟩
  rw [htr _ _ (by simp [srt_perm.length_eq]; omega)]
  obtain ⟨q1, q2⟩ := srt_shp (zs := zs) fun z hz => (d2 z hz).1
  refine ⟨n4, [], _, by omega, by omega, by simp, rfl, q1, by omega, pt_le (by omega) fun x hx => ?_⟩
  have := (d2 x (srt_perm.mem_iff.mp (List.mem_reverse.mp (List.mem_filter.mp hx).1))).2
  omega
end
end Li
end

section
set_option linter.all false
set_option maxRecDepth 100000
set_option maxHeartbeats 2000000
namespace Li
open PySem L2 Df
open Classical
section
variable {t : List Int} {F : Fn} {f0 f1 f2 f3 : Nat}
/-! ### chains -/
abbrev eS : List Int → D := T D.int
abbrev eC : List (List Int) → D := Ls (T D.int)
def ChainP (cs : List (List Int)) : Prop := 0 < cs.length ∧ ix cs 0 = [] ∧ ∀ j : Nat, j + 1 < cs.length → StripP (ix cs ((j : Int) + 1)) (ix cs (j : Int))
def SmallL (cs : List (List Int)) : Prop := cs.length ≤ 1000 ∧ ∀ c ∈ cs, c.length ≤ 1000000
theorem SmallL.at {cs : List (List Int)} (h : SmallL cs) (i : Int) : (ix cs i).length ≤ 1000000 := by
  unfold ix
  rw [List.getD_eq_getElem?_getD]
  cases e : cs[i.toNat]? with
  | none => exact Nat.zero_le _
  | some c => simpa using h.2 c (List.mem_of_getElem? e)
abbrev IsChN (G : Gf) : Prop := ∀ (S : Store) (cs : List (List Int)), SmallL cs → frzR S (G [eC cs] S) = .ok (.bl (decide (ChainP cs))) S
abbrev IsChR (G : Gf) : Prop := ∀ (S : Store) (a : Nat) (cs : List (List Int)), S[a]? = some (oL (T D.int) cs) → SmallL cs → frzR S (G [.ref a] S) = .ok (.bl (decide (ChainP cs))) S
theorem chain_all {cs : List (List Int)} (h0 : 0 < cs.length) (h1 : ix cs 0 = []) : (List.range (cs.length - 1)).all (fun k => decide (StripP (ix cs ((k : Int) + 1)) (ix cs (k : Int)))) = decide (ChainP cs) := by
  rw [Bool.eq_iff_iff, List.all_eq_true, decide_eq_true_iff]
  constructor
  · exact fun h => ⟨h0, h1, fun j hj => of_decide_eq_true (h j (List.mem_range.mpr (by omega)))⟩
  · exact fun h k hk => decide_eq_true (h.2.2 k (by have := List.mem_range.mp hk; omega))
theorem ischain_gen {G : Store → Prop} {S : Store} {d : D} {cs : List (List Int)} (hs : StripN (F f0)) (hl : SmallL cs) (h1 : truD S d = some (!cs.isEmpty)) (h2 : biR .len [d] S = .ok (.int cs.length) S)
    (h3 : ∀ i : Int, 0 ≤ i → i < cs.length → idxR d (.int i) S = .ok (eS (ix cs i)) S) : frzR S (runD F (d_is_chain f0) [d] S) = .ok (.bl (decide (ChainP cs))) S := by
  refine fn_eq0 (e := D.bl) (by decide) (wpR_def rfl ?_)
  simp only [d_is_chain]
  rw [Then_cons]
  by_cases h0 : cs = []
  · subst h0
    simp [exS, ev, evs, evT, evTO, h1]
    exact fun q => absurd q.1 (by simp)
  have hpos : 0 < cs.length := List.length_pos_iff.mpr h0
  simp [exS, ev, evs, evT, evTO, h1, h0, h3 0 (by omega) (by omega)]
  refine ⟨fun hc => ?_, fun hn q => hn q.2.1⟩
  rw [Then_cons]
  have hl1 := hl.1
  simp [exS, ev, evs, evI, h2]
  refine ⟨rngOk_small (by omega) (by omega), ?_⟩
  rw [all_rng (p := fun k => decide (StripP (ix cs ((k : Int) + 1)) (ix cs (k : Int)))) trivial fun k hk => ?_]
  · rw [chain_all hpos hc]
    exact ⟨rfl, rfl⟩
  · simp [stepG, ev, evs, evC, h3 (k : Int) (by omega) (by omega), h3 ((k : Int) + 1) (by omega) (by omega)]
    rw [hs _ _ _ (hl.at _) (hl.at _)]; rfl
theorem ischain_n (hs : StripN (F f0)) : IsChN (runD F (d_is_chain f0)) := fun S cs hl => ischain_gen (G := fun _ => True) hs hl tru_Ls len_Ls fun i h0 h1 => idx_L h0 h1
theorem ischain_r (hs : StripN (F f0)) : IsChR (runD F (d_is_chain f0)) := fun S a cs ha hl => ischain_gen (G := fun _ => True) hs hl (tru_o ha) (len_o ha) fun i h0 h1 => idx_o ha h0 h1
/-- a drawn chain that ends with xs -/
def ChQ (xs : List Int) (steps : Int) (k : Nat) (cs : List (List Int)) : Prop := cs.length = k + 1 ∧ ((ix cs 0).length : Int) ≤ steps - k ∧ (∀ c ∈ cs, Shp c ∧ c.length ≤ 100) ∧ (∀ j : Nat, j + 1 < cs.length → StripP (ix cs ((j : Int) + 1)) (ix cs (j : Int))) ∧ ix cs (k : Int) = xs
theorem ix_cons0 {α : Type} [Inhabited α] (x : α) (xs : List α) : ix (x :: xs) 0 = x := rfl
theorem ix_consS {α : Type} [Inhabited α] (x : α) (xs : List α) (j : Nat) : ix (x :: xs) ((j : Int) + 1) = ix xs (j : Int) := by
  unfold ix
  rw [show ((j : Int) + 1).toNat = j + 1 by omega, List.getD_cons_succ, Int.toNat_natCast]
theorem ChQ.step {xs y : List Int} {steps : Int} {k : Nat} {cs : List (List Int)} (h : ChQ xs steps k cs) (hy : Shp y) (hl : (y.length : Int) ≤ steps - (k + 1 : Nat)) (hs : StripP (ix cs 0) y) (hk : steps ≤ 100) : ChQ xs steps (k + 1) (y :: cs) := by
  obtain ⟨c1, c2, c3, c4, c5⟩ := h
  refine ⟨by rw [List.length_cons, c1], hl, fun c hc => ?_, fun j hj => ?_, by rw [show ((k + 1 : Nat) : Int) = (k : Int) + 1 by omega, ix_consS, c5]⟩
  · rcases List.mem_cons.mp hc with rfl | hc
    · exact ⟨hy, by omega⟩
    · exact c3 c hc
  · cases j with
    | zero => rw [show ((0 : Nat) : Int) + 1 = ((0 : Nat) : Int) + 1 from rfl, ix_consS]; exact hs
    | succ j =>
      rw [ix_consS, show ((j + 1 : Nat) : Int) = (j : Int) + 1 by omega, ix_consS]
      exact c4 j (by rw [List.length_cons] at hj; omega)
def ChJ (t : List Int) (n : Int) (R : Store) (xs : List Int) (steps : Int) (k : Nat) (g : GE) (S' : Store) : Prop := ∃ cs n' R' U x4 x5 x6 x7, g = [some (.ref 0), some (eS xs), some (.int steps), some (eC cs), x4, x5, x6, x7] ∧ S' = so t n' :: R' ∧ R' = R ++ U ∧ ChQ xs steps k cs ∧ n ≤ n' ∧ n' ≤ n + 1000 * k
abbrev ChainN (t : List Int) (G : Gf) : Prop := ∀ (xs : List Int) (steps : Int), Shp xs → (xs.length : Int) ≤ steps → steps ≤ 30 → Dw (so t) (fun S => frzR S (G [.ref 0, eS xs, .int steps] S)) 31000 eC fun cs => ChQ xs steps steps.toNat cs
theorem chain_n (htr : TrimN (F f0)) (hb : BelowN t (F f1)) : ChainN t (runD F (d_law_chain f0 f1)) := by
  intro xs steps hx hl hs
  refine Dw.of (by decide) (soB t) fun n R h0 h1 => wpR_def rfl ?_
  have hz := sl_sz
  simp only [d_law_chain]
  rw [Then_cons]
  simp [exS, ev, evs, frz_al1, show 1 ≤ sizeLine by omega]
  rw [Then_cons]
  simp [exS, ev, evs, evI]
  refine ⟨rngOk_small (by omega) (by omega), ?_⟩
  refine wpS_rng (fun k g S' => ChJ t n R xs steps k g S') ⟨[xs], n, R, [], none, none, none, none, rfl, rfl, by simp, ⟨rfl, by simpa [ix] using hl, fun c hc => ?_, fun j hj => by simp at hj, rfl⟩, by omega, by omega⟩ (fun k g S' hk hJ => ?_) (fun g S' hJ => ?_)
  · rw [List.mem_singleton.mp hc]; exact ⟨hx, by omega⟩
  · obtain ⟨cs, n', R', U, x4, x5, x6, x7, rfl, rfl, hU, hq, hn1, hn2⟩ := hJ
    obtain ⟨c1, c2, c3, c4, c5⟩ := id hq
    have hc0 := c3 _ (ix_mem (xs := cs) (i := 0) (by omega) (by omega))
    rw [wpS_blk, Then_cons]
    simp [exS, ev, evs]
    rw [Then_cons]
    simp [exS, ev, evs, idx_L (xs := cs) (i := 0) (e := T D.int) (by omega) (by omega)]
    refine (hb _ hc0.1 (by omega)).go (by omega) (by omega) fun ys n2 b1 b2 ⟨y1, y2, y3⟩ => ?_
    simp [l1_T]
    rw [Then_cons]
    simp [exS, ev, evs, evI, len_o (own_get _ _ _), idx_L (xs := cs) (i := 0) (e := T D.int) (by omega) (by omega)]
    refine ⟨⟨rngOk_small (by omega) (by omega), rngOk_small (by omega) (by omega)⟩, ?_⟩
    refine wpS_rng (fun j g S' => ∃ x7, g = [some (.ref 0), some (eS xs), some (.int steps), some (eC cs), some (.int k), some (.int (steps - 1 - k)), some (.ref (R'.length + 1)), x7] ∧ S' = so t n2 :: (R' ++ [oL D.int (ys ++ List.replicate j 0)])) ⟨x7, rfl, by simp⟩ (fun j g S' hj hJ => ?_) (fun g S' hJ => ?_)
    · obtain ⟨x7, rfl, rfl⟩ := hJ
      have hjl : j ≤ 100 := by omega
      simp [exS, ev, evs, asM_o (own_get _ _ _)]
      rw [mt_appo (own_get _ _ _) (by simp; omega)]
      simp [List.replicate_succ']
    obtain ⟨x7, rfl, rfl⟩ := hJ
    rw [Then_cons]
    simp [exS, ev, evs, evO, frz_slo _ (own_get _ _ _), cut_to (show 0 ≤ steps - 1 - (k : Int) by omega)]
    rw [Then_cons]
    simp [exS, ev, evs]
    have e1 : (((ix cs 0).length : Int) + 1 - ((ys.length : Int) + 1)).toNat = (ix cs 0).length - ys.length := by omega
    rw [htr _ _ (by simp; omega)]
    obtain ⟨d1, d2, d3⟩ := down_ok (top := ix cs 0) (ys := ys) (j := ((ix cs 0).length - ys.length)) (left := steps.toNat - 1 - k) y1 hc0.1 y3 (by omega)
    simp only [e1]
    rw [show nz _ = down ys ((ix cs 0).length - ys.length) (steps.toNat - 1 - k) from rfl]
    simp [frz_al1, show 1 ≤ sizeLine by omega]
    rw [frz_add (by decide) (by simp; omega)]
    exact ⟨_, n2, _, U ++ [oL D.int (ys ++ List.replicate ((ix cs 0).length - ys.length) 0)], _, _, _, _, rfl, rfl, by rw [hU, List.append_assoc], hq.step d1 (by omega) d3 (by omega), by omega, by omega⟩
  obtain ⟨cs, n', R', U, x4, x5, x6, x7, rfl, rfl, hU, hq, hn1, hn2⟩ := hJ
  rw [Then_cons]
  simp [exS, ev]
  exact ⟨n', U, cs, by omega, by omega, by rw [hU], rfl, hq⟩
end
end Li
end

section
set_option linter.all false
set_option maxRecDepth 100000
set_option maxHeartbeats 1000000
namespace Li
open PySem L2
open Classical
theorem tz_nz {q : List Int} : q.Pairwise (fun a b => b ≤ a) → (∀ x ∈ q, 0 ≤ x) → tz q = nz q := by
  refine List.reverseRecOn'' (P := fun q => q.Pairwise (fun a b => b ≤ a) → (∀ x ∈ q, 0 ≤ x) → tz q = nz q) (fun _ _ => rfl) (fun q x ih h hn => ?_) q
  have hp := List.pairwise_append.mp h
  rw [tz_snoc]
  by_cases hx : x = 0
  · rw [if_pos hx, ih hp.1 fun y hy => hn y (List.mem_append_left _ hy), hx]
    unfold nz
    rw [List.filter_append]; simp
  · rw [if_neg hx]
    unfold nz
    rw [List.filter_eq_self.mpr]
    intro y hy
    have hx0 := hn x (by simp)
    rcases List.mem_append.mp hy with hy | hy
    · have := hp.2.2 y hy x (by simp)
      have : y ≠ 0 := by omega
      simp [this]
    · rw [List.mem_singleton.mp hy]; simp [hx]
/-- parts by a rule -/
def mkP (f : Int → Int) (n : Nat) : List Int := (List.range n).map fun (k : Nat) => f ((k : Int) + 1)
theorem mkP_len (f : Int → Int) (n : Nat) : (mkP f n).length = n := by unfold mkP; simp
theorem pt_mkP {f : Int → Int} {n : Nat} {r : Int} (h : 1 ≤ r) : pt (mkP f n) r = if r ≤ n then f r else 0 := by
  split
  · rename_i h2
    unfold mkP
    rw [pt_map_range h h2]
    congr 1; omega
  · exact pt_out (by rw [mkP_len]; omega)
/-- f falls, is at least 0 and is 0 behind n -/
structure PtF (f : Int → Int) (n : Nat) : Prop where
  anti : ∀ r : Int, 1 ≤ r → f (r + 1) ≤ f r
  nn : ∀ r : Int, 1 ≤ r → 0 ≤ f r
  far : ∀ r : Int, (n : Int) < r → f r = 0
section
variable {f : Int → Int} {n m : Nat}
theorem PtF.pw (h : PtF f n) (m : Nat) : (mkP f m).Pairwise (fun a b => b ≤ a) := anti_pw fun j hj => by
  rw [mkP_len] at hj
  rw [pt_mkP (by omega), pt_mkP (by omega), if_pos (by omega), if_pos (by omega)]
  have := h.anti ((j : Int) + 1) (by omega)
  rw [show (j : Int) + 1 + 1 = (j : Int) + 2 by omega] at this
  exact this
theorem PtF.mn (h : PtF f n) (m : Nat) : ∀ x ∈ mkP f m, 0 ≤ x := fun x hx => by
  unfold mkP at hx
  obtain ⟨k, _, rfl⟩ := List.mem_map.mp hx
  exact h.nn _ (by omega)
theorem PtF.shp (h : PtF f n) (m : Nat) : Shp (nz (mkP f m)) := shp_nz (h.pw m) (h.mn m)
theorem PtF.tz (h : PtF f n) (m : Nat) : tz (mkP f m) = nz (mkP f m) := tz_nz (h.pw m) (h.mn m)
theorem PtF.pt (h : PtF f n) (hm : n ≤ m) {r : Int} (hr : 1 ≤ r) : pt (nz (mkP f m)) r = f r := by
  rw [pt_nz (h.pw m) (h.mn m) hr, pt_mkP hr]
  split
  · rfl
  · exact (h.far r (by omega)).symm
theorem PtF.len (h : PtF f n) (m : Nat) : (nz (mkP f m)).length ≤ m := by
  have := nz_len (mkP f m); rw [mkP_len] at this; exact this
theorem PtF.same (h : PtF f n) (h1 : n ≤ m) : nz (mkP f m) = nz (mkP f n) := shp_ext (h.shp m) (h.shp n) fun r hr => by rw [h.pt h1 hr, h.pt (Nat.le_refl _) hr]
theorem PtF.of_shp {xs : List Int} (hx : Shp xs) (h : ∀ r : Int, 1 ≤ r → f r = Li.pt xs r) (hn : xs.length ≤ n) : nz (mkP f n) = xs ∧ PtF f n := by
  have q : PtF f n := ⟨fun r hr => by rw [h r hr, h (r + 1) (by omega)]; exact hx.anti r hr, fun r hr => by rw [h r hr]; exact hx.nonneg r, fun r hr => by rw [h r (by omega)]; exact pt_out (by omega)⟩
  exact ⟨shp_ext (q.shp n) hx fun r hr => by rw [q.pt (Nat.le_refl _) hr, h r hr], q⟩
end
/-! ### toggles -/
def tgF (low here high : List Int) (r : Int) : Int := (if r = 1 then pt high 1 else min (pt high r) (pt low (r - 1))) + max (pt high (r + 1)) (pt low r) - pt here r
def tgS (low here high : List Int) : List Int := nz (mkP (tgF low here high) high.length)
section
variable {low here high : List Int}
theorem tgF_bd (h1 : StripP here low) (h2 : StripP high here) {r : Int} (hr : 1 ≤ r) : pt low r ≤ tgF low here high r ∧ pt high (r + 1) ≤ tgF low here high r ∧ tgF low here high r ≤ pt high r ∧ (2 ≤ r → tgF low here high r ≤ pt low (r - 1)) := by
  have a1 := h1 r hr
  have a2 := h2 r hr
  unfold tgF
  by_cases h : r = 1
  · rw [if_pos h]; subst h; exact ⟨by omega, by omega, by omega, fun h => by omega⟩
  · rw [if_neg h]
    have a3 := h1 (r - 1) (by omega)
    rw [show r - 1 + 1 = r by omega] at a3
    refine ⟨by omega, by omega, by omega, fun h => by omega⟩
theorem tgF_ptf (hl : Shp low) (h1 : StripP here low) (h2 : StripP high here) : PtF (tgF low here high) high.length := by
  refine ⟨fun r hr => ?_, fun r hr => ?_, fun r hr => ?_⟩
  · have a := tgF_bd h1 h2 hr
    have b := tgF_bd h1 h2 (r := r + 1) (by omega)
    have c := b.2.2.2 (by omega)
    rw [show r + 1 - 1 = r by omega] at c
    omega
  · have a := tgF_bd h1 h2 hr
    have := hl.nonneg r; omega
  · have hr1 : 1 ≤ r := by omega
    have a := tgF_bd h1 h2 hr1
    have := hl.nonneg r
    rw [pt_out (xs := high) (n := r) (by omega)] at a
    omega
theorem tgS_pt (hl : Shp low) (h1 : StripP here low) (h2 : StripP high here) {r : Int} (hr : 1 ≤ r) : pt (tgS low here high) r = tgF low here high r := (tgF_ptf hl h1 h2).pt (Nat.le_refl _) hr
theorem tgS_shp (hl : Shp low) (h1 : StripP here low) (h2 : StripP high here) : Shp (tgS low here high) := (tgF_ptf hl h1 h2).shp _
theorem tgS_low (hl : Shp low) (h1 : StripP here low) (h2 : StripP high here) : StripP (tgS low here high) low := fun r hr => by
  rw [tgS_pt hl h1 h2 hr, tgS_pt hl h1 h2 (by omega)]
  have a := tgF_bd h1 h2 hr
  have b := (tgF_bd h1 h2 (r := r + 1) (by omega)).2.2.2 (by omega)
  rw [show r + 1 - 1 = r by omega] at b
  exact ⟨a.1, b⟩
theorem tgS_high (hl : Shp low) (h1 : StripP here low) (h2 : StripP high here) : StripP high (tgS low here high) := fun r hr => by
  rw [tgS_pt hl h1 h2 hr]
  have a := tgF_bd h1 h2 hr
  exact ⟨a.2.2.1, a.2.1⟩
theorem tgS_back (hl : Shp low) (hh : Shp here) (h1 : StripP here low) (h2 : StripP high here) : tgS low (tgS low here high) high = here := by
  have b1 := tgS_low hl h1 h2
  have b2 := tgS_high hl h1 h2
  refine shp_ext (tgS_shp hl b1 b2) hh fun r hr => ?_
  rw [tgS_pt hl b1 b2 hr]
  show (if r = 1 then pt high 1 else min (pt high r) (pt low (r - 1))) + max (pt high (r + 1)) (pt low r) - pt (tgS low here high) r = pt here r
  rw [tgS_pt hl h1 h2 hr]
  unfold tgF
  omega
end
end Li
end

section
set_option linter.all false
set_option maxRecDepth 100000
set_option maxHeartbeats 2000000
namespace Li
open PySem L2 Df
open Classical
section
variable {α : Type} {e : α → D} {S : Store} {d : D} {xs ys : List α} {m : Nat}
theorem asL_app {U : Store} {ds : List D} (h : asL S d = some ds) : asL (S ++ U) d = some ds := by
  cases d with
  | ref a =>
    simp only [asL] at h ⊢
    split at h
    · rename_i ys hy
      rw [List.getElem?_append_left (List.getElem?_eq_some_iff.mp hy).1, hy]; exact h
    · cases h
  | _ => exact h
theorem frz_slq [Fz e m] (h : m ≤ 11) (hd : asL S d = some (xs.map e)) {lo hi : Option Int} : frzR S (slR d lo hi S) = .ok (Ls e (cutL xs lo hi)) S := by
  have : slR d lo hi S = alloc (.lst (cutD (xs.map e) lo hi)) S := by
    cases d with
    | tup _ => cases hd
    | _ => simp only [slR, hd]
  rw [this, cut_map, frz_alloc h]
theorem idx_lq [Inhabited α] {i : Int} (hd : asL S d = some (xs.map e)) (h0 : 0 ≤ i) (h1 : i < xs.length) : idxR d (.int i) S = .ok (e (ix xs i)) S := idx_q (asSeq_L hd) h0 h1
theorem add_L : bopR .add (Ls e xs) (Ls e ys) S = if xs.length + ys.length ≤ sizeLine then alloc (oL e (xs ++ ys)) S else .stuck := by
  have : bopR .add (Ls e xs) (Ls e ys) S = if (xs.map e).length + (ys.map e).length ≤ sizeLine then alloc (.lst (xs.map e ++ ys.map e)) S else .stuck := rfl
  rw [this, List.length_map, List.length_map, ← List.map_append]; rfl
end
theorem cut3 {α : Type} [Inhabited α] {cs : List α} {i : Int} (h1 : 1 ≤ i) (h2 : i + 1 < cs.length) : cutL cs (some (i - 1)) (some (i + 2)) = [ix cs (i - 1), ix cs i, ix cs (i + 1)] := by
  rw [cut_mid (by omega) (by omega)]
  refine List.ext_getElem? fun k => ?_
  rw [List.getElem?_drop, List.getElem?_take]
  by_cases hk : k < 3
  · rw [if_pos (by omega)]
    have g : ∀ j : Int, 0 ≤ j → j < cs.length → cs[j.toNat]? = some (ix cs j) := fun j a b => ix_get a b
    match k, hk with
    | 0, _ => rw [show (i - 1).toNat + 0 = (i - 1).toNat by omega]; exact g _ (by omega) (by omega)
    | 1, _ => rw [show (i - 1).toNat + 1 = i.toNat by omega]; exact g _ (by omega) (by omega)
    | 2, _ => rw [show (i - 1).toNat + 2 = (i + 1).toNat by omega]; exact g _ (by omega) (by omega)
  · rw [if_neg (by omega), List.getElem?_eq_none (by simp; omega)]
/-- the chain toggled at i -/
def tgl (cs : List (List Int)) (i : Int) : List (List Int) := cs.set i.toNat (tgS (ix cs (i - 1)) (ix cs i) (ix cs (i + 1)))
structure TgOk (cs : List (List Int)) (i : Int) : Prop where
  h1 : 1 ≤ i
  h2 : i + 1 < cs.length
  len : cs.length ≤ 1000
  sm : ∀ c ∈ cs, c.length ≤ 1000
  low : Shp (ix cs (i - 1))
  s1 : StripP (ix cs i) (ix cs (i - 1))
  s2 : StripP (ix cs (i + 1)) (ix cs i)
theorem set_tkdr {α : Type} {cs : List α} {i : Int} {x : α} (h0 : 0 ≤ i) (h : i < cs.length) : cs.take i.toNat ++ [x] ++ cs.drop (i + 1).toNat = cs.set i.toNat x := by
  rw [show (i + 1).toNat = i.toNat + 1 by omega, List.append_assoc, List.singleton_append]
  exact (List.set_eq_take_append_cons_drop).trans (by rw [if_pos (by omega)]) |>.symm
def TogP (S : Store) (cs : List (List Int)) (i : Int) (r : D) (S' : Store) : Prop := ∃ U p, S' = S ++ U ∧ r = .ref p ∧ S.length ≤ p ∧ S'[p]? = some (oL eS (tgl cs i))
def TgJ (S : Store) (d : D) (i : Int) (low here high : List Int) (k : Nat) (g : GE) (S' : Store) : Prop := ∃ x3 x7, g = [some d, some (.int i), some (.ref S.length), x3, some (eS low), some (eS here), some (eS high), x7] ∧ S' = S ++ [oL D.int (mkP (tgF low here high) k)]
def TuJ (S : Store) (d : D) (i : Int) (low here high : List Int) (k : Nat) (g : GE) (S' : Store) : Prop := ∃ x6 x7, g = [some d, some (.int i), some (eS low), some (eS here), some (eS high), some (.ref S.length), x6, x7] ∧ S' = S ++ [oL D.int (mkP (tgF low here high) k)]
theorem mkP_succ (f : Int → Int) (k : Nat) : mkP f (k + 1) = mkP f k ++ [f ((k : Int) + 1)] := by
  unfold mkP; rw [List.range_succ, List.map_append]; rfl
section
variable {F : Fn} {f0 f1 : Nat}
theorem toggled_raw (htr : TrimmedR (F f0)) (hp : PartN (F f1)) {S : Store} {d : D} {cs : List (List Int)} {i : Int} (hd : asL S d = some (cs.map eS)) (ok : TgOk cs i) : wpR (runD F (d_toggled f0 f1) [d, .int i] S) (TogP S cs i) := by
  obtain ⟨h1, h2, hl, hsm, hlow, hs1, hs2⟩ := ok
  have hz := sl_sz
  refine wpR_def rfl ?_
  simp only [d_toggled]
  rw [Then_cons]
  simp [exS, ev, evO, frz_slq (show 2 ≤ 11 by decide) hd, cut3 h1 h2, setT, setMany]
  rw [Then_cons]
  simp [exS, ev, evs]
  rw [Then_cons]
  have hhl := hsm _ (ix_mem (xs := cs) (i := i + 1) (by omega) (by omega))
  simp [exS, ev, evs, evI]
  refine ⟨⟨rngOk_small (by omega) (by omega), rngOk_small (by omega) (by omega)⟩, ?_⟩
  refine wpS_rng (TgJ S d i (ix cs (i - 1)) (ix cs i) (ix cs (i + 1))) ⟨_, _, rfl, rfl⟩ (fun k g S' hk hJ => ?_) (fun g S' hJ => ?_)
  · obtain ⟨x3, x7, rfl, rfl⟩ := hJ
    have hk2 : k < (ix cs (i + 1)).length := by simpa using hk
    rw [wpS_blk, Then_cons]
    have e0 := snoc_get S (oL D.int (mkP (tgF (ix cs (i - 1)) (ix cs i) (ix cs (i + 1))) k))
    have ef : tgF (ix cs (i - 1)) (ix cs i) (ix cs (i + 1)) ((k : Int) + 1) = (if k = 0 then pt (ix cs (i + 1)) 1 else min (pt (ix cs (i + 1)) (1 + (k : Int))) (pt (ix cs (i - 1)) (1 + (k : Int) - 1))) + max (pt (ix cs (i + 1)) (1 + (k : Int) + 1)) (pt (ix cs (i - 1)) (1 + (k : Int))) - pt (ix cs i) (1 + (k : Int)) := by
      unfold tgF
      rw [show (k : Int) + 1 = 1 + (k : Int) by omega]
      by_cases h : k = 0
      · rw [if_pos h, if_pos (by omega)]
      · rw [if_neg h, if_neg (by omega)]
    by_cases hk0 : k = 0
    · subst hk0
      simp (disch := first | omega | simp) [exS, ev, evs, evT, hp]
      rw [Then_cons]
      simp (disch := first | omega | simp) [exS, ev, evs, hp, asM_o e0]
      rw [mt_appo e0 (by rw [mkP_len]; omega)]
      simp [set_snoc]
      exact ⟨_, _, rfl, by rw [mkP_succ, ef]; simp⟩
    · have e1 : ¬ (1 + (k : Int) = 1) := by omega
      simp (disch := first | omega | simp) [exS, ev, evs, evT, hp, e1]
      rw [Then_cons]
      simp (disch := first | omega | simp) [exS, ev, evs, hp, asM_o e0]
      rw [mt_appo e0 (by rw [mkP_len]; omega)]
      simp [set_snoc]
      exact ⟨_, _, rfl, by rw [mkP_succ, ef, if_neg hk0]⟩
  obtain ⟨x3, x7, rfl, rfl⟩ := hJ
  have e0 := snoc_get S (oL D.int (mkP (tgF (ix cs (i - 1)) (ix cs i) (ix cs (i + 1))) (ix cs (i + 1)).length))
  have hd2 := asL_app (U := [oL D.int (mkP (tgF (ix cs (i - 1)) (ix cs i) (ix cs (i + 1))) (ix cs (i + 1)).length)]) hd
  have hq := tgF_ptf hlow hs1 hs2
  rw [Then_cons]
  simp (disch := first | omega | simp) [exS, ev, evs, evO, frz_slq (show 2 ≤ 11 by decide) hd2, cut_to, cut_from, htr _ _ _ e0 (show _ by rw [mkP_len]; omega), frz_al1, show 1 ≤ sizeLine by omega]
  rw [frz_add (by decide) (by simp; omega), wpR_ok, frz_slq (show 2 ≤ 11 by decide) hd2, cut_from (by omega), wpR_ok, add_L, wpR_guard, wpR_alloc]
  refine ⟨by simp; omega, [_] ++ [_], _, List.append_assoc _ _ _, rfl, by simp, ?_⟩
  unfold tgl
  rw [snoc_get, hq.tz, ← set_tkdr (by omega) (by omega)]
  rfl
theorem turned_raw (htr : TrimR (F f0)) (hp : PartN (F f1)) {S : Store} {d : D} {cs : List (List Int)} {i : Int} (hd : asL S d = some (cs.map eS)) (ok : TgOk cs i) : wpR (runD F (d_law_turned f0 f1) [d, .int i] S) (TogP S cs i) := by
  obtain ⟨h1, h2, hl, hsm, hlow, hs1, hs2⟩ := ok
  have hz := sl_sz
  refine wpR_def rfl ?_
  have hhl := hsm _ (ix_mem (xs := cs) (i := i + 1) (by omega) (by omega))
  have hll := hsm _ (ix_mem (xs := cs) (i := i - 1) (by omega) (by omega))
  simp only [d_law_turned]
  rw [Then_cons]
  simp (disch := first | omega | simp) [exS, ev, idx_lq hd]
  rw [Then_cons]
  simp (disch := first | omega | simp) [exS, ev, idx_lq hd]
  rw [Then_cons]
  simp (disch := first | omega | simp) [exS, ev, idx_lq hd]
  rw [Then_cons]
  simp [exS, ev, evs]
  rw [Then_cons]
  simp [exS, ev, evs, evI]
  refine ⟨⟨rngOk_small (by omega) (by omega), rngOk_small (by omega) (by omega)⟩, ?_⟩
  refine wpS_rng (TuJ S d i (ix cs (i - 1)) (ix cs i) (ix cs (i + 1))) ⟨_, _, rfl, rfl⟩ (fun k g S' hk hJ => ?_) (fun g S' hJ => ?_)
  · obtain ⟨x6, x7, rfl, rfl⟩ := hJ
    have hk2 : k < (ix cs (i + 1)).length + (ix cs (i - 1)).length := by omega
    rw [wpS_blk, Then_cons]
    have e0 := snoc_get S (oL D.int (mkP (tgF (ix cs (i - 1)) (ix cs i) (ix cs (i + 1))) k))
    have ef : tgF (ix cs (i - 1)) (ix cs i) (ix cs (i + 1)) ((k : Int) + 1) = (if k = 0 then pt (ix cs (i + 1)) 1 else min (pt (ix cs (i + 1)) (1 + (k : Int))) (pt (ix cs (i - 1)) (1 + (k : Int) - 1))) + max (pt (ix cs (i + 1)) (1 + (k : Int) + 1)) (pt (ix cs (i - 1)) (1 + (k : Int))) - pt (ix cs i) (1 + (k : Int)) := by
      unfold tgF
      rw [show (k : Int) + 1 = 1 + (k : Int) by omega]
      by_cases h : k = 0
      · rw [if_pos h, if_pos (by omega)]
      · rw [if_neg h, if_neg (by omega)]
    simp (disch := first | omega | simp) [exS, ev, evs, evT, hp]
    rw [Then_cons]
    by_cases hk0 : k = 0
    · subst hk0
      simp (disch := first | omega | simp) [exS, ev, evs, evT, hp]
      rw [Then_cons]
      simp (disch := first | omega | simp) [exS, ev, evs, hp, asM_o e0]
      rw [mt_appo e0 (by rw [mkP_len]; omega)]
      simp [set_snoc]
      exact ⟨_, _, rfl, by rw [mkP_succ, ef]; simp⟩
    · have e1 : (1 : Int) < 1 + (k : Int) := by omega
      simp (disch := first | omega | simp) [exS, ev, evs, evT, hp, e1]
      rw [Then_cons]
      simp (disch := first | omega | simp) [exS, ev, evs, hp, asM_o e0]
      rw [mt_appo e0 (by rw [mkP_len]; omega)]
      simp [set_snoc]
      exact ⟨_, _, rfl, by rw [mkP_succ, ef, if_neg hk0]⟩
  obtain ⟨x6, x7, rfl, rfl⟩ := hJ
  generalize hm : (((ix cs (i + 1)).length : Int) + (ix cs (i - 1)).length).toNat = m
  have e0 := snoc_get S (oL D.int (mkP (tgF (ix cs (i - 1)) (ix cs i) (ix cs (i + 1))) m))
  have hd2 := asL_app (U := [oL D.int (mkP (tgF (ix cs (i - 1)) (ix cs i) (ix cs (i + 1))) m)]) hd
  have hq := tgF_ptf hlow hs1 hs2
  rw [Then_cons]
  simp (disch := first | omega | simp) [exS, ev, evs, evO, frz_slq (show 2 ≤ 11 by decide) hd2, cut_to, cut_from, htr _ _ _ e0 (show _ by rw [mkP_len]; omega), frz_al1, show 1 ≤ sizeLine by omega]
  rw [frz_add (by decide) (by simp; omega), wpR_ok, frz_slq (show 2 ≤ 11 by decide) hd2, cut_from (by omega), wpR_ok, add_L, wpR_guard, wpR_alloc]
  refine ⟨by simp; omega, [_] ++ [_], _, List.append_assoc _ _ _, rfl, by simp, ?_⟩
  unfold tgl
  rw [snoc_get, hq.same (m := m) (by omega), ← set_tkdr (by omega) (by omega)]
  rfl
end
end Li
end

section
set_option linter.all false
set_option maxRecDepth 100000
set_option maxHeartbeats 2000000
namespace Li
open PySem L2 Df
open Classical
/-! ### the tape -/
def TapeM (S : Store) (d : D) (b : Int) (k : Nat) (g : GE) (S1 : Store) : Prop := ∃ (t : List Int) (x2 x3 x4 x5 : Option D), g = [some d, some (.ref S.length), x2, x3, x4, x5] ∧ S1 = S ++ [.lst (t.map D.int)] ∧ (t.length : Int) ≤ b + 40 * k ∧ ∀ z ∈ t, 0 ≤ z ∧ z < 2 ^ 31
def TapeM2 (S : Store) (d : D) (b : Int) (k : Nat) (g : GE) (S1 : Store) : Prop := ∃ (t : List Int) (x2 : Option D) (num : Int) (x4 x5 : Option D), g = [some d, some (.ref S.length), x2, some (.int num), x4, x5] ∧ S1 = S ++ [.lst (t.map D.int)] ∧ (t.length : Int) ≤ b + k ∧ ∀ z ∈ t, 0 ≤ z ∧ z < 2 ^ 31
def TapeC (G : List D → Store → Res D) : Prop := ∀ (S : Store) (d : D) (ns : List Int), (∀ S, asSeq S d = some (ns.map D.int)) → (∀ a, d ≠ .ref a) → ns.length ≤ 63 → wpR (G [d] S) fun r S' => ∃ t : List Int, S' = S ++ [.lst (t.map D.int)] ∧ r = .ref S.length ∧ ∀ z ∈ t, 0 ≤ z ∧ z < 2 ^ 31
theorem tape_ok (F : Fn) : TapeC (runD F d_law_tape) := by
  intro S d ns hd hdr hl
  have hsz := sl_sz
  rw [wpR_run]
  refine ⟨rfl, ?_⟩
  simp only [d_law_tape, wpS_cons, wpS_nil]
  refine wpS_then (N' := TapeM S d 0 0) ?_ fun g S1 hM => ?_
  · simp [exS, ev, evs]
    exact ⟨[], none, none, none, none, rfl, rfl, by simp, fun z hz => by cases hz⟩
  refine wpS_then (N' := TapeM S d 0 ns.length) ?_ fun g S2 hM2 => ?_
  · obtain ⟨t, x2, x3, x4, x5, rfl, rfl, ht, htz⟩ := hM
    simp [exS, ev, evI]
    refine wpR_seqI (hd _) fun G hG => ?_
    refine wpS_list (fun k g S' => TapeM S d 0 k g S') ⟨t, x2, x3, x4, x5, rfl, rfl, ht, htz⟩ (fun k x g S' hx hJ => ⟨hG S' fun a e => absurd e (hdr a), ?_⟩) (fun g S' hJ => ⟨hG S' fun a e => absurd e (hdr a), by simpa using hJ⟩)
    obtain ⟨t, x2, x3, x4, x5, rfl, rfl, ht, htz⟩ := hJ
    have hk : k < ns.length := by simpa using (List.getElem?_eq_some_iff.mp hx).1
    rw [List.getElem?_map] at hx
    obtain ⟨z, hz, rfl⟩ := Option.map_eq_some_iff.mp hx
    refine ⟨_, rfl, ?_⟩
    simp only [wpS_cons, wpS_nil]
    refine wpS_then (N' := TapeM2 S d (40 * k) 0) ?_ fun g S3 hM3 => ?_
    · simp [exS, ev, evs]
      exact ⟨cmul_l (by omega) (by omega), t, _, _, _, _, rfl, rfl, by omega, htz⟩
    refine wpS_then (N' := TapeM2 S d (40 * k) 0) ?_ fun g S3 hM3 => ?_
    · obtain ⟨t, x2, num, x4, x5, rfl, rfl, ht, htz⟩ := hM3
      simp [exS, exSs, ev, evs, evT]
      exact ⟨fun _ => ⟨t, _, _, _, _, rfl, rfl, ht, htz⟩, fun _ => ⟨t, _, _, _, _, rfl, rfl, ht, htz⟩⟩
    obtain ⟨t, x2, num, x4, x5, rfl, rfl, ht, htz⟩ := hM3
    have close : ∀ g S4, TapeM2 S d (40 * k) 40 g S4 → TapeM S d 0 (k + 1) g S4 := fun g S4 ⟨t, x2, num, x4, x5, e1, e2, e3, e4⟩ => ⟨t, x2, _, x4, x5, e1, e2, by omega, e4⟩
    simp [exS, ev, evs, evT, wpS_cons, wpS_nil]
    refine ⟨⟨by decide, by decide, by decide⟩, fun _ => ?_, fun _ => ?_⟩
    · simp [exSs, exS, evI, ev]
      refine ⟨rngOk_small (by omega) (by omega), ?_⟩
      refine wpS_rng (fun j g S' => TapeM2 S d (40 * k) j g S') ⟨t, _, _, _, _, rfl, rfl, by omega, htz⟩ (fun j g S' hj hJ => ?_) (fun g S' hJ => close g S' hJ)
      obtain ⟨t, x2, num, x4, x5, rfl, rfl, ht, htz⟩ := hJ
      simp [exSs, exS, ev, evs, evT, asM_ref (snoc_get S (.lst (t.map D.int))), mt_app (snoc_get S (.lst (t.map D.int))), set_snoc]
      refine ⟨fun _ => ⟨by omega, ⟨by omega, by omega⟩, t ++ [num % 1000], _, _, _, _, rfl, by simp, by simp; omega, fun y hy => ?_⟩, fun _ => ⟨t, _, _, _, _, rfl, rfl, by omega, htz⟩⟩
      rcases List.mem_append.mp hy with h | h
      · exact htz y h
      · rw [List.mem_singleton.mp h]; omega
    · simp [exSs, exS, evI, ev]
      refine ⟨rngOk_small (by omega) (by omega), ?_⟩
      refine wpS_rng (fun j g S' => TapeM2 S d (40 * k) j g S') ⟨t, _, _, _, _, rfl, rfl, by omega, htz⟩ (fun j g S' hj hJ => ?_) (fun g S' ⟨t, x2, num, x4, x5, e1, e2, e3, e4⟩ => close g S' ⟨t, x2, num, x4, x5, e1, e2, by omega, e4⟩)
      obtain ⟨t, x2, num, x4, x5, rfl, rfl, ht, htz⟩ := hJ
      simp [exSs, exS, ev, evs, evT, asM_ref (snoc_get S (.lst (t.map D.int))), mt_app (snoc_get S (.lst (t.map D.int))), set_snoc]
      refine ⟨cmul_r (by omega) (by omega), cmul_r (by omega) (by omega), cmul_r (by omega) (by omega), ⟨by omega, by omega⟩, by omega, t ++ [_], _, _, _, _, rfl, by simp; rfl, by simp; omega, fun y hy => ?_⟩
      rcases List.mem_append.mp hy with h | h
      · exact htz y h
      · rw [List.mem_singleton.mp h]
        exact ⟨Int.emod_nonneg _ (by omega), Int.lt_of_lt_of_le (Int.emod_lt_of_pos _ (by omega)) (by omega)⟩
  obtain ⟨t, x2, x3, x4, x5, rfl, rfl, ht, htz⟩ := hM2
  simp [exS, ev]
  exact ⟨t, rfl, htz⟩
theorem TapeC.call {G : List D → Store → Res D} (h : TapeC G) {S : Store} {d : D} {ns : List Int} (hd : ∀ S, asSeq S d = some (ns.map D.int)) (hr : ∀ a, d ≠ .ref a) (hl : ns.length ≤ 63) : wpR (frzR S (G [d] S)) fun r S' => S' = S ∧ ∃ t : List Int, r = ilst t ∧ ∀ z ∈ t, 0 ≤ z ∧ z < 2 ^ 31 :=
  wpR_pure (wpR_mono (h S d ns hd hr hl) fun r S' ⟨t, e, er, ht⟩ => ⟨⟨_, e⟩, ilst t, by subst er; subst e; exact fz_refl (k := 10) (Nat.le_refl _) (snoc_get _ _), rfl, t, rfl, ht⟩)

/-- the law's state made -/
abbrev TapeN (G : Gf) (d : D) : Prop := wpR (frzR [] (G [d] [])) fun r S' => S' = [] ∧ ∃ t, r = Ls D.int t ∧ TapeOk t
theorem tape_n {F : Fn} {d : D} {ns : List Int} (hd : d = .lst (ns.map D.int) ∨ d = .frz (ns.map D.int)) (hl : ns.length ≤ 63) : TapeN (runD F d_law_tape) d :=
  wpR_mono ((tape_ok F).call (S := []) (d := d) (ns := ns) (by rcases hd with rfl | rfl <;> intro S <;> rfl) (by rcases hd with rfl | rfl <;> intro a e <;> cases e) hl) fun r S' ⟨e, t, er, ht⟩ => ⟨e, t, er, ht⟩
end Li
end

section
set_option linter.all false
set_option maxRecDepth 100000
set_option maxHeartbeats 4000000
namespace Li
open PySem L2 Df
open Classical
theorem ix_set_ne {α : Type} [Inhabited α] {cs : List α} {i j : Nat} {x : α} (h : i ≠ j) : ix (cs.set i x) (j : Int) = ix cs (j : Int) := by
  unfold ix
  rw [Int.toNat_natCast, List.getD_eq_getElem?_getD, List.getD_eq_getElem?_getD, List.getElem?_set_ne h]
theorem ix_set_eq {α : Type} [Inhabited α] {cs : List α} {i : Nat} {x : α} (h : i < cs.length) : ix (cs.set i x) (i : Int) = x := by
  unfold ix
  rw [Int.toNat_natCast, List.getD_eq_getElem?_getD, List.getElem?_set_self h]; rfl
/-- a chain of shapes -/
structure GChain (cs : List (List Int)) : Prop where
  ch : ChainP cs
  shp : ∀ c ∈ cs, Shp c ∧ c.length ≤ 100
  len : cs.length ≤ 100
theorem GChain.at {cs : List (List Int)} (h : GChain cs) {j : Nat} (hj : j < cs.length) : Shp (ix cs (j : Int)) ∧ (ix cs (j : Int)).length ≤ 100 := h.shp _ (ix_mem (by omega) (by omega))
theorem GChain.tg {cs : List (List Int)} (h : GChain cs) {i : Int} (h1 : 1 ≤ i) (h2 : i + 1 < cs.length) : TgOk cs i := by
  obtain ⟨k, rfl⟩ : ∃ k : Nat, i = (k : Int) + 1 := ⟨(i - 1).toNat, by omega⟩
  refine ⟨h1, h2, by have := h.len; omega, fun c hc => by have := (h.shp c hc).2; omega, ?_, ?_, ?_⟩
  · rw [show (k : Int) + 1 - 1 = (k : Int) by omega]; exact (h.at (by omega)).1
  · rw [show (k : Int) + 1 - 1 = (k : Int) by omega]; exact h.ch.2.2 k (by omega)
  · have := h.ch.2.2 (k + 1) (by omega)
    rw [show ((k + 1 : Nat) : Int) = (k : Int) + 1 by omega] at this
    exact this
theorem GChain.tgl {cs : List (List Int)} (h : GChain cs) {i : Int} (h1 : 1 ≤ i) (h2 : i + 1 < cs.length) : GChain (tgl cs i) ∧ Li.tgl (Li.tgl cs i) i = cs := by
  have ok := h.tg h1 h2
  obtain ⟨k, rfl⟩ : ∃ k : Nat, i = (k : Int) + 1 := ⟨(i - 1).toNat, by omega⟩
  have hk : ((k : Int) + 1).toNat = k + 1 := by omega
  have e1 : (k : Int) + 1 - 1 = (k : Int) := by omega
  have e2 : (k : Int) + 1 + 1 = ((k + 2 : Nat) : Int) := by omega
  have e3 : (k : Int) + 1 = ((k + 1 : Nat) : Int) := by omega
  have lo := ok.low
  have s1 := ok.s1
  have s2 := ok.s2
  rw [e1] at lo s1
  rw [e2] at s2
  have hh := (h.at (j := k + 2) (by omega))
  have hm := (h.at (j := k + 1) (by omega)).1
  rw [← e3] at hm
  have et : Li.tgl cs ((k : Int) + 1) = cs.set (k + 1) (tgS (ix cs k) (ix cs ((k : Int) + 1)) (ix cs ((k + 2 : Nat) : Int))) := by
    unfold Li.tgl; rw [hk, e1, e2]
  generalize hx : tgS (ix cs k) (ix cs ((k : Int) + 1)) (ix cs ((k + 2 : Nat) : Int)) = x at et
  have x1 := tgS_shp lo s1 s2
  have x2 := tgS_low lo s1 s2
  have x3 := tgS_high lo s1 s2
  have x4 := tgS_back lo hm s1 s2
  have xl : x.length ≤ (ix cs ((k + 2 : Nat) : Int)).length := by rw [← hx]; exact (tgF_ptf lo s1 s2).len _
  rw [hx] at x1 x2 x3 x4
  have g0 : ix (cs.set (k + 1) x) (k : Int) = ix cs (k : Int) := ix_set_ne (by omega)
  have g1 : ix (cs.set (k + 1) x) ((k : Int) + 1) = x := by rw [e3]; exact ix_set_eq (by omega)
  have g2 : ix (cs.set (k + 1) x) ((k + 2 : Nat) : Int) = ix cs ((k + 2 : Nat) : Int) := ix_set_ne (by omega)
  refine ⟨?_, ?_⟩
  · rw [et]
    refine ⟨⟨by rw [List.length_set]; exact h.ch.1, ?_, fun j hj => ?_⟩, fun c hc => ?_, by rw [List.length_set]; exact h.len⟩
    · rw [show (0 : Int) = ((0 : Nat) : Int) from rfl, ix_set_ne (by omega)]; exact h.ch.2.1
    · rw [List.length_set] at hj
      by_cases a : j = k
      · subst a; rw [g0, g1]; exact x2
      · by_cases b : j = k + 1
        · subst b
          rw [show ((k + 1 : Nat) : Int) + 1 = ((k + 2 : Nat) : Int) by omega, g2, ← e3, g1]
          exact x3
        · rw [show (j : Int) + 1 = ((j + 1 : Nat) : Int) by omega, ix_set_ne (by omega), ix_set_ne (by omega)]
          have := h.ch.2.2 j hj
          rw [show (j : Int) + 1 = ((j + 1 : Nat) : Int) by omega] at this
          exact this
    · rcases List.mem_or_eq_of_mem_set hc with hc | rfl
      · exact h.shp c hc
      · exact ⟨x1, by omega⟩
  · rw [et]
    unfold Li.tgl
    rw [hk, e1, e2, g0, g1, g2, x4, List.set_set]
    refine List.ext_getElem? fun j => ?_
    by_cases hj : j = k + 1
    · subst hj
      rw [List.getElem?_set_self (by omega)]
      have := ix_get (xs := cs) (i := ((k + 1 : Nat) : Int)) (by omega) (by omega)
      rw [Int.toNat_natCast] at this
      rw [this, ← e3]
    · rw [List.getElem?_set_ne (by omega)]
theorem ChQ.good {xs : List Int} {steps : Int} {cs : List (List Int)} (h0 : 0 ≤ steps) (hs : steps ≤ 30) (h : ChQ xs steps steps.toNat cs) : GChain cs ∧ (cs.length : Int) = steps + 1 := by
  obtain ⟨c1, c2, c3, c4, c5⟩ := h
  exact ⟨⟨⟨by omega, List.eq_nil_of_length_eq_zero (by omega), c4⟩, c3, by omega⟩, by omega⟩
abbrev TogN (G : Gf) : Prop := ∀ (S : Store) (d : D) (cs : List (List Int)) (i : Int), asL S d = some (cs.map eS) → TgOk cs i → wpR (G [d, .int i] S) (TogP S cs i)
theorem TogN.frz {G : Gf} (h : TogN G) {S : Store} {d : D} {cs : List (List Int)} {i : Int} (hd : asL S d = some (cs.map eS)) (ok : TgOk cs i) : frzR S (G [d, .int i] S) = .ok (eC (tgl cs i)) S := by
  obtain ⟨r, S', e, U, p, rfl, rfl, hp, hg⟩ := wpR_get (h S d cs i hd ok)
  rw [e]
  exact frz_app (fz_oref (by decide) hp hg)
end Li
end

section
set_option linter.all false
set_option maxRecDepth 100000
set_option maxHeartbeats 1000000
namespace Li
open PySem L2
open Classical
/-! ### sums of parts -/
def ps (f : Int → Int) : Nat → Int
  | 0 => 0
  | n + 1 => ps f n + f ((n : Int) + 1)
theorem ps_add (f g : Int → Int) (n : Nat) : ps (fun r => f r + g r) n = ps f n + ps g n := by
  induction n with
  | zero => rfl
  | succ n ih => simp only [ps, ih]; omega
theorem ps_sub (f g : Int → Int) (n : Nat) : ps (fun r => f r - g r) n = ps f n - ps g n := by
  induction n with
  | zero => rfl
  | succ n ih => simp only [ps, ih]; omega
theorem ps_congr {f g : Int → Int} : ∀ {n : Nat}, (∀ r : Int, 1 ≤ r → r ≤ n → f r = g r) → ps f n = ps g n
  | 0, _ => rfl
  | n + 1, h => by rw [ps, ps, ps_congr fun r a b => h r a (by omega), h ((n : Int) + 1) (by omega) (by omega)]
theorem ps_shift (f : Int → Int) (n : Nat) : ps f (n + 1) = f 1 + ps (fun r => f (r + 1)) n := by
  induction n with
  | zero => simp [ps]
  | succ n ih =>
    rw [ps, ih, ps]
    rw [show ((n + 1 : Nat) : Int) = (n : Int) + 1 by omega]
    omega
theorem ps_far {f : Int → Int} {n : Nat} (h : ∀ r : Int, (n : Int) < r → f r = 0) : ∀ {m : Nat}, n ≤ m → ps f m = ps f n
  | 0, hm => by rw [show n = 0 by omega]
  | m + 1, hm => by
    by_cases e : n = m + 1
    · rw [e]
    · rw [ps, ps_far h (by omega), h ((m : Int) + 1) (by omega)]; omega
theorem sum_ps (xs : List Int) : xs.sum = ps (pt xs) xs.length := by
  refine List.reverseRecOn'' (P := fun xs => xs.sum = ps (pt xs) xs.length) rfl (fun q x ih => ?_) xs
  rw [List.sum_append, List.length_append, List.length_singleton, ps, pt_snoc_new, ih]
  rw [ps_congr (f := pt (q ++ [x])) (g := pt q) fun r a b => pt_append_left a b]
  simp
theorem sum_ps' {xs : List Int} {n : Nat} (h : xs.length ≤ n) : xs.sum = ps (pt xs) n := by
  rw [sum_ps, ps_far (n := xs.length) (fun r hr => pt_out hr) h]
theorem PtF.sum {f : Int → Int} {n m : Nat} (h : PtF f n) (hm : n ≤ m) : (nz (mkP f n)).sum = ps f m := by
  rw [sum_ps' (n := m) (by have := h.len n; omega)]
  exact ps_congr fun r a b => h.pt (Nat.le_refl _) a
theorem tgS_sum {low here high : List Int} (hl : Shp low) (h1 : StripP here low) (h2 : StripP high here) (n1 : low.length ≤ here.length) (n2 : here.length ≤ high.length) : (tgS low here high).sum = high.sum + low.sum - here.sum := by
  have q := tgF_ptf hl h1 h2
  unfold tgS
  rw [q.sum (m := high.length + 1) (by omega), sum_ps' (xs := high) (n := high.length + 1) (by omega), sum_ps' (xs := low) (n := high.length + 1) (by omega), sum_ps' (xs := here) (n := high.length + 1) (by omega)]
  have e : ps (tgF low here high) (high.length + 1) = ps (fun r => ((if r = 1 then pt high 1 else min (pt high r) (pt low (r - 1))) + max (pt high (r + 1)) (pt low r)) - pt here r) (high.length + 1) := rfl
  rw [e, ps_sub, ps_add]
  have e2 : ps (fun r => if r = 1 then pt high 1 else min (pt high r) (pt low (r - 1))) (high.length + 1) = pt high 1 + ps (fun r => min (pt high (r + 1)) (pt low r)) high.length := by
    rw [ps_shift]
    simp only [if_true]
    rw [ps_congr fun r a b => ?_]
    rw [if_neg (by omega), show r + 1 - 1 = r by omega]
  have e3 : ps (fun r => max (pt high (r + 1)) (pt low r)) (high.length + 1) = ps (fun r => max (pt high (r + 1)) (pt low r)) high.length := by
    rw [ps, pt_out (xs := high) (by omega), pt_out (xs := low) (by omega)]; simp
  have e4 : ps (fun r => min (pt high (r + 1)) (pt low r)) high.length + ps (fun r => max (pt high (r + 1)) (pt low r)) high.length = ps (fun r => pt high (r + 1)) high.length + ps (pt low) high.length := by
    rw [← ps_add, ← ps_add]
    exact ps_congr fun r a b => by omega
  have e5 : ps (pt high) (high.length + 1) = pt high 1 + ps (fun r => pt high (r + 1)) high.length := ps_shift _ _
  have e6 : ps (pt low) (high.length + 1) = ps (pt low) high.length := by rw [ps, pt_out (xs := low) (by omega)]; omega
  rw [e2, e3, e5, e6]
  omega
theorem StripP.len {u l : List Int} (hl : Shp l) (h : StripP u l) : l.length ≤ u.length := by
  rcases Nat.lt_or_ge u.length l.length with a | a
  · exfalso
    have := (h ((u.length : Int) + 1) (by omega)).1
    rw [pt_out (xs := u) (by omega), pt_get a] at this
    have := hl.2 _ (List.getElem_mem a)
    omega
  · exact a
end Li
end

section
set_option linter.all false
set_option maxRecDepth 100000
set_option maxHeartbeats 1000000
namespace Li
open PySem L2
open Classical
/-! ### the local rule -/
def grF (rho mu nu : List Int) (c : Int) (r : Int) : Int := if r = 1 then max (pt mu 1) (pt nu 1) + c else max (pt mu r) (pt nu r) + min (pt mu (r - 1)) (pt nu (r - 1)) - pt rho (r - 1)
def grS (rho mu nu : List Int) (c : Int) : List Int := nz (mkP (grF rho mu nu c) (max mu.length nu.length + 1))
/-- backwards -/
def shF (mu nu x : List Int) (r : Int) : Int := max (pt mu (r + 1)) (pt nu (r + 1)) + min (pt mu r) (pt nu r) - pt x (r + 1)
def shS (mu nu x : List Int) : List Int := nz (mkP (shF mu nu x) (max mu.length nu.length))
def shC (mu nu x : List Int) : Int := pt x 1 - max (pt mu 1) (pt nu 1)
section
variable {rho mu nu x : List Int} {c : Int}
theorem grF_bd (hm : StripP mu rho) (hn : StripP nu rho) (hc : 0 ≤ c) {r : Int} (hr : 1 ≤ r) : pt mu r ≤ grF rho mu nu c r ∧ pt nu r ≤ grF rho mu nu c r ∧ (2 ≤ r → grF rho mu nu c r ≤ pt mu (r - 1) ∧ grF rho mu nu c r ≤ pt nu (r - 1)) := by
  unfold grF
  by_cases h : r = 1
  · rw [if_pos h]; subst h; exact ⟨by omega, by omega, fun h => by omega⟩
  · rw [if_neg h]
    have a := hm (r - 1) (by omega)
    have b := hn (r - 1) (by omega)
    rw [show r - 1 + 1 = r by omega] at a b
    exact ⟨by omega, by omega, fun _ => ⟨by omega, by omega⟩⟩
theorem grF_ptf (hm1 : Shp mu) (hm : StripP mu rho) (hn : StripP nu rho) (hc : 0 ≤ c) : PtF (grF rho mu nu c) (max mu.length nu.length + 1) := by
  refine ⟨fun r hr => ?_, fun r hr => ?_, fun r hr => ?_⟩
  · have a := grF_bd hm hn hc hr
    have b := (grF_bd hm hn hc (r := r + 1) (by omega)).2.2 (by omega)
    rw [show r + 1 - 1 = r by omega] at b
    omega
  · have a := grF_bd hm hn hc hr
    have := hm1.nonneg r; omega
  · have a := grF_bd hm hn hc (r := r) (by omega)
    have b := a.2.2 (by omega)
    have := hm1.nonneg r
    rw [pt_out (xs := mu) (n := r - 1) (by omega)] at b
    omega
theorem grS_pt (hm1 : Shp mu) (hm : StripP mu rho) (hn : StripP nu rho) (hc : 0 ≤ c) {r : Int} (hr : 1 ≤ r) : pt (grS rho mu nu c) r = grF rho mu nu c r := (grF_ptf hm1 hm hn hc).pt (Nat.le_refl _) hr
theorem grS_shp (hm1 : Shp mu) (hm : StripP mu rho) (hn : StripP nu rho) (hc : 0 ≤ c) : Shp (grS rho mu nu c) := (grF_ptf hm1 hm hn hc).shp _
theorem grS_len (rho mu nu : List Int) (c : Int) : (grS rho mu nu c).length ≤ max mu.length nu.length + 1 := by
  have := nz_len (mkP (grF rho mu nu c) (max mu.length nu.length + 1)); rw [mkP_len] at this; exact this
theorem grS_mu (hm1 : Shp mu) (hm : StripP mu rho) (hn : StripP nu rho) (hc : 0 ≤ c) : StripP (grS rho mu nu c) mu := fun r hr => by
  rw [grS_pt hm1 hm hn hc hr, grS_pt hm1 hm hn hc (by omega)]
  have a := grF_bd hm hn hc hr
  have b := (grF_bd hm hn hc (r := r + 1) (by omega)).2.2 (by omega)
  rw [show r + 1 - 1 = r by omega] at b
  exact ⟨a.1, b.1⟩
theorem grS_nu (hm1 : Shp mu) (hm : StripP mu rho) (hn : StripP nu rho) (hc : 0 ≤ c) : StripP (grS rho mu nu c) nu := fun r hr => by
  rw [grS_pt hm1 hm hn hc hr, grS_pt hm1 hm hn hc (by omega)]
  have a := grF_bd hm hn hc hr
  have b := (grF_bd hm hn hc (r := r + 1) (by omega)).2.2 (by omega)
  rw [show r + 1 - 1 = r by omega] at b
  exact ⟨a.2.1, b.2⟩
theorem grF_comm (r : Int) : grF rho mu nu c r = grF rho nu mu c r := by unfold grF; split <;> omega
theorem grS_comm : grS rho mu nu c = grS rho nu mu c := by
  unfold grS mkP
  rw [Nat.max_comm]
  congr 2
  funext k; exact grF_comm _
/-- shrink -/
theorem shF_bd (hm : StripP x mu) (hn : StripP x nu) {r : Int} (hr : 1 ≤ r) : max (pt mu (r + 1)) (pt nu (r + 1)) ≤ shF mu nu x r ∧ shF mu nu x r ≤ pt mu r ∧ shF mu nu x r ≤ pt nu r := by
  have a := hm (r + 1) (by omega)
  have b := hn (r + 1) (by omega)
  have a' := hm r hr
  have b' := hn r hr
  unfold shF
  omega
theorem shF_ptf (hm1 : Shp mu) (hm : StripP x mu) (hn : StripP x nu) : PtF (shF mu nu x) (max mu.length nu.length) := by
  refine ⟨fun r hr => ?_, fun r hr => ?_, fun r hr => ?_⟩
  · have a := shF_bd hm hn hr
    have b := shF_bd hm hn (r := r + 1) (by omega)
    omega
  · have a := shF_bd hm hn hr
    have := hm1.nonneg (r + 1); omega
  · have a := shF_bd hm hn (r := r) (by omega)
    have := hm1.nonneg (r + 1)
    rw [pt_out (xs := mu) (n := r) (by omega)] at a
    omega
theorem shS_pt (hm1 : Shp mu) (hm : StripP x mu) (hn : StripP x nu) {r : Int} (hr : 1 ≤ r) : pt (shS mu nu x) r = shF mu nu x r := (shF_ptf hm1 hm hn).pt (Nat.le_refl _) hr
theorem shS_shp (hm1 : Shp mu) (hm : StripP x mu) (hn : StripP x nu) : Shp (shS mu nu x) := (shF_ptf hm1 hm hn).shp _
theorem shS_len (mu nu x : List Int) : (shS mu nu x).length ≤ max mu.length nu.length := by
  have := nz_len (mkP (shF mu nu x) (max mu.length nu.length)); rw [mkP_len] at this; exact this
theorem shS_mu (hm1 : Shp mu) (hm : StripP x mu) (hn : StripP x nu) : StripP mu (shS mu nu x) := fun r hr => by
  rw [shS_pt hm1 hm hn hr]
  have a := shF_bd hm hn hr
  exact ⟨a.2.1, by omega⟩
theorem shS_nu (hm1 : Shp mu) (hm : StripP x mu) (hn : StripP x nu) : StripP nu (shS mu nu x) := fun r hr => by
  rw [shS_pt hm1 hm hn hr]
  have a := shF_bd hm hn hr
  exact ⟨a.2.2, by omega⟩
theorem shC_nn (hm : StripP x mu) (hn : StripP x nu) : 0 ≤ shC mu nu x := by
  have a := hm 1 (by omega)
  have b := hn 1 (by omega)
  unfold shC; omega
theorem shS_comm : shS mu nu x = shS nu mu x := by
  unfold shS mkP
  rw [Nat.max_comm]
  congr 2
  funext k; unfold shF; omega
theorem shC_comm : shC mu nu x = shC nu mu x := by unfold shC; omega
/-- both ways -/
theorem sh_gr (hr : Shp rho) (hm1 : Shp mu) (hm : StripP mu rho) (hn : StripP nu rho) (hc : 0 ≤ c) : shS mu nu (grS rho mu nu c) = rho ∧ shC mu nu (grS rho mu nu c) = c := by
  have a := grS_mu hm1 hm hn hc
  have b := grS_nu hm1 hm hn hc
  refine ⟨shp_ext (shS_shp hm1 a b) hr fun r h => ?_, ?_⟩
  · rw [shS_pt hm1 a b h]
    unfold shF
    rw [grS_pt hm1 hm hn hc (by omega)]
    unfold grF
    rw [if_neg (by omega), show r + 1 - 1 = r by omega]
    omega
  · unfold shC
    rw [grS_pt hm1 hm hn hc (by omega)]
    unfold grF
    rw [if_pos rfl]; omega
theorem gr_sh (hx : Shp x) (hm1 : Shp mu) (hm : StripP x mu) (hn : StripP x nu) : grS (shS mu nu x) mu nu (shC mu nu x) = x := by
  have a := shS_mu hm1 hm hn
  have b := shS_nu hm1 hm hn
  have c := shC_nn hm hn
  refine shp_ext (grS_shp hm1 a b c) hx fun r h => ?_
  rw [grS_pt hm1 a b c h]
  unfold grF
  by_cases h1 : r = 1
  · rw [if_pos h1, h1]; unfold shC; omega
  · rw [if_neg h1, shS_pt hm1 hm hn (by omega)]
    unfold shF
    rw [show r - 1 + 1 = r by omega]
    omega
theorem gr_self (hr : Shp rho) (hn1 : Shp nu) (hn : StripP nu rho) : grS rho rho nu 0 = nu := by
  have s : StripP rho rho := fun r h => ⟨Int.le_refl _, hr.anti r h⟩
  refine shp_ext (grS_shp hr s hn (by omega)) hn1 fun r h => ?_
  rw [grS_pt hr s hn (by omega) h]
  unfold grF
  by_cases h1 : r = 1
  · rw [if_pos h1, h1]; have := (hn 1 (by omega)).1; omega
  · rw [if_neg h1]
    have p := (hn r h).1
    have q := (hn (r - 1) (by omega)).1
    have q2 := (hn (r - 1) (by omega)).2
    omega
theorem gr_more (hm1 : Shp mu) (hm : StripP mu rho) (hn : StripP nu rho) (hc : 0 ≤ c) {b : Int} (hb : 0 ≤ b) (r : Int) (hr : 1 ≤ r) : pt (grS rho mu nu (c + b)) r = pt (grS rho mu nu c) r + if r = 1 then b else 0 := by
  rw [grS_pt hm1 hm hn (by omega) hr, grS_pt hm1 hm hn hc hr]
  unfold grF
  by_cases h : r = 1
  · simp [h]; omega
  · simp [h]
theorem gr_sum (hm1 : Shp mu) (hr : Shp rho) (hm : StripP mu rho) (hn : StripP nu rho) (hc : 0 ≤ c) (hn1 : Shp nu) : (grS rho mu nu c).sum = mu.sum + nu.sum + c - rho.sum := by
  have q := grF_ptf hm1 hm hn hc
  have l1 := hm.len hr
  generalize hN : max mu.length nu.length = N at q
  have e0 : (grS rho mu nu c).sum = ps (grF rho mu nu c) (N + 1) := by
    unfold grS; rw [hN]; exact q.sum (Nat.le_refl _)
  rw [e0, ps_shift, sum_ps' (xs := mu) (n := N + 1) (by omega), sum_ps' (xs := nu) (n := N + 1) (by omega), sum_ps' (xs := rho) (n := N) (by omega)]
  have e1 : ps (fun r => grF rho mu nu c (r + 1)) N = ps (fun r => (max (pt mu (r + 1)) (pt nu (r + 1)) + min (pt mu r) (pt nu r)) - pt rho r) N := ps_congr fun r a b => by
    unfold grF
    rw [if_neg (by omega), show r + 1 - 1 = r by omega]
  have e2 : grF rho mu nu c 1 = max (pt mu 1) (pt nu 1) + c := by unfold grF; rw [if_pos rfl]
  rw [e1, e2, ps_sub, ps_add]
  have e3 : ps (fun r => max (pt mu r) (pt nu r)) (N + 1) = max (pt mu 1) (pt nu 1) + ps (fun r => max (pt mu (r + 1)) (pt nu (r + 1))) N := ps_shift _ _
  have e4 : ps (fun r => min (pt mu r) (pt nu r)) (N + 1) = ps (fun r => min (pt mu r) (pt nu r)) N := by
    rw [ps, pt_out (xs := mu) (by omega), pt_out (xs := nu) (by omega)]; simp
  have e5 : ps (fun r => max (pt mu r) (pt nu r)) (N + 1) + ps (fun r => min (pt mu r) (pt nu r)) (N + 1) = ps (pt mu) (N + 1) + ps (pt nu) (N + 1) := by
    rw [← ps_add, ← ps_add]
    exact ps_congr fun r a b => by omega
  omega
end
end Li
end

section
set_option linter.all false
set_option maxRecDepth 100000
set_option maxHeartbeats 2000000
namespace Li
open PySem L2 Df
open Classical
structure GrOk (rho mu nu : List Int) (c : Int) : Prop where
  pr : Shp rho
  pm : Shp mu
  pn : Shp nu
  sm : StripP mu rho
  sn : StripP nu rho
  pc : 0 ≤ c
  lm : mu.length ≤ 5000
  ln : nu.length ≤ 5000
theorem GrOk.lr {rho mu nu : List Int} {c : Int} (h : GrOk rho mu nu c) : rho.length ≤ 5000 := by have := h.sm.len h.pr; have := h.lm; omega
structure ShOk (mu nu x : List Int) : Prop where
  pm : Shp mu
  pn : Shp nu
  px : Shp x
  sm : StripP x mu
  sn : StripP x nu
  lx : x.length ≤ 5000
theorem ShOk.lm {mu nu x : List Int} (h : ShOk mu nu x) : mu.length ≤ 5000 := by have := h.sm.len h.pm; have := h.lx; omega
theorem ShOk.ln {mu nu x : List Int} (h : ShOk mu nu x) : nu.length ≤ 5000 := by have := h.sn.len h.pn; have := h.lx; omega
abbrev GrowN (G : Gf) : Prop := ∀ (S : Store) (rho mu nu : List Int) (c : Int), GrOk rho mu nu c → frzR S (G [eS rho, eS mu, eS nu, .int c] S) = .ok (eS (grS rho mu nu c)) S
abbrev eSc : List Int × Int → D := P2 eS D.int
abbrev ShrN (G : Gf) : Prop := ∀ (S : Store) (mu nu x : List Int), ShOk mu nu x → frzR S (G [eS mu, eS nu, eS x] S) = .ok (eSc (shS mu nu x, shC mu nu x)) S
def GrJ (S : Store) (rho mu nu : List Int) (c : Int) (k : Nat) (g : GE) (S' : Store) : Prop := ∃ x5 x6, g = [some (eS rho), some (eS mu), some (eS nu), some (.int c), some (.ref S.length), x5, x6] ∧ S' = S ++ [oL D.int (mkP (grF rho mu nu c) (k + 1))]
def ShJ2 (S : Store) (mu nu x : List Int) (k : Nat) (g : GE) (S' : Store) : Prop := ∃ x4 x5, g = [some (eS mu), some (eS nu), some (eS x), some (.ref S.length), x4, x5] ∧ S' = S ++ [oL D.int (mkP (shF mu nu x) k)]
section
variable {F : Fn} {f0 f1 f2 : Nat}
theorem grow_tail (htr : TrimmedR (F f0)) (hp : PartN (F f1)) {S : Store} {rho mu nu : List Int} {c : Int} (ok : GrOk rho mu nu c) :
    Then F (.cons (.asg (.one 4) (.lst (.cons (.bin .add (.bi .max2 (.cons (.call f1 (.cons (.var 1) (.cons (.cst (.int 1)) .nil))) (.cons (.call f1 (.cons (.var 2) (.cons (.cst (.int 1)) .nil))) .nil))) (.var 3)) .nil))) (.cons (.for_ (.one 5) (.rng2 (.cst (.int 2)) (.bin .add (.bi .max2 (.cons (.bi .len (.cons (.var 1) .nil)) (.cons (.bi .len (.cons (.var 2) .nil)) .nil))) (.cst (.int 2)))) (.cons (.asg (.one 6) (.bi .min2 (.cons (.call f1 (.cons (.var 1) (.cons (.bin .sub (.var 5) (.cst (.int 1))) .nil))) (.cons (.call f1 (.cons (.var 2) (.cons (.bin .sub (.var 5) (.cst (.int 1))) .nil))) .nil)))) (.cons (.ex (.mt .append (.var 4) (.cons (.bin .sub (.bin .add (.bi .max2 (.cons (.call f1 (.cons (.var 1) (.cons (.var 5) .nil))) (.cons (.call f1 (.cons (.var 2) (.cons (.var 5) .nil))) .nil))) (.var 6)) (.call f1 (.cons (.var 0) (.cons (.bin .sub (.var 5) (.cst (.int 1))) .nil)))) .nil))) .nil))) (.cons (.ret (.call f0 (.cons (.var 4) .nil))) .nil)))
      (fun _ S' => (fun r S' => (∃ U, S' = S ++ U) ∧ r = eS (grS rho mu nu c)) .non S') (fun r S' => (∃ U, S' = S ++ U) ∧ r = eS (grS rho mu nu c)) [some (eS rho), some (eS mu), some (eS nu), some (.int c), none, none, none] S := by
  have hz := sl_sz
  have lm := ok.lm
  have ln := ok.ln
  rw [Then_cons]
  simp (disch := first | omega | simp) [exS, ev, evs, hp, show 1 ≤ sizeLine by omega]
  rw [Then_cons]
  simp [exS, ev, evs, evI]
  refine ⟨⟨rngOk_small (by omega) (by omega), rngOk_small (by omega) (by omega)⟩, ?_⟩
  refine wpS_rng (GrJ S rho mu nu c) ⟨_, _, rfl, rfl⟩ (fun k g S' hk hJ => ?_) (fun g S' hJ => ?_)
  · obtain ⟨x5, x6, rfl, rfl⟩ := hJ
    have e0 := snoc_get S (oL D.int (mkP (grF rho mu nu c) (k + 1)))
    have ef : grF rho mu nu c (((k + 1 : Nat) : Int) + 1) = max (pt mu (2 + (k : Int))) (pt nu (2 + (k : Int))) + min (pt mu (2 + (k : Int) - 1)) (pt nu (2 + (k : Int) - 1)) - pt rho (2 + (k : Int) - 1) := by
      unfold grF
      rw [show ((k + 1 : Nat) : Int) + 1 = 2 + (k : Int) by omega, if_neg (by omega)]
    rw [wpS_blk, Then_cons]
    simp (disch := first | omega | simp) [exS, ev, evs, hp]
    rw [Then_cons]
    simp (disch := first | omega | simp) [exS, ev, evs, hp, asM_o e0]
    rw [mt_appo e0 (by rw [mkP_len]; omega)]
    simp [set_snoc]
    exact ⟨_, _, rfl, by rw [mkP_succ _ (k + 1), ef]⟩
  obtain ⟨x5, x6, rfl, rfl⟩ := hJ
  have hn : (max (mu.length : Int) nu.length).toNat = max mu.length nu.length := by omega
  simp only [hn]
  rw [Then_cons]
  simp [exS, ev, evs]
  rw [htr _ _ _ (snoc_get _ _) (by rw [mkP_len]; omega), (grF_ptf ok.pm ok.sm ok.sn ok.pc).tz]
  exact ⟨⟨_, rfl⟩, rfl⟩
theorem grow_n (htr : TrimmedR (F f0)) (hp : PartN (F f1)) (hs : StripN (F f2)) : GrowN (runD F (d_grow f0 f1 f2)) := by
  intro S rho mu nu c ok
  refine fn_eq (wpR_mono (Q := fun r S' => (∃ U, S' = S ++ U) ∧ r = eS (grS rho mu nu c)) (wpR_def rfl ?_) fun r S' ⟨e1, e2⟩ => ⟨e1, by rw [e2]; exact fz_enc (by decide)⟩)
  have lm := ok.lm
  have ln := ok.ln
  have lr := ok.lr
  simp only [d_grow]
  rw [Then_cons]
  simp [exS, ev, evs, evT]
  rw [hs _ _ _ (by omega) (by omega)]
  simp [ok.sm]
  rw [Then_cons]
  simp [exS, ev, evs, evT]
  rw [hs _ _ _ (by omega) (by omega)]
  simp [ok.sn]
  exact grow_tail htr hp ok
theorem shr_tail (hp : PartN (F f0)) (htr : TrimmedR (F f1)) {S : Store} {mu nu x : List Int} (ok : ShOk mu nu x) :
    Then F (.cons (.asg (.one 3) (.lst .nil)) (.cons (.for_ (.one 4) (.rng2 (.cst (.int 1)) (.bin .add (.bi .max2 (.cons (.bi .len (.cons (.var 0) .nil)) (.cons (.bi .len (.cons (.var 1) .nil)) .nil))) (.cst (.int 1)))) (.cons (.asg (.one 5) (.bi .min2 (.cons (.call f0 (.cons (.var 0) (.cons (.var 4) .nil))) (.cons (.call f0 (.cons (.var 1) (.cons (.var 4) .nil))) .nil)))) (.cons (.ex (.mt .append (.var 3) (.cons (.bin .sub (.bin .add (.bi .max2 (.cons (.call f0 (.cons (.var 0) (.cons (.bin .add (.var 4) (.cst (.int 1))) .nil))) (.cons (.call f0 (.cons (.var 1) (.cons (.bin .add (.var 4) (.cst (.int 1))) .nil))) .nil))) (.var 5)) (.call f0 (.cons (.var 2) (.cons (.bin .add (.var 4) (.cst (.int 1))) .nil)))) .nil))) .nil))) (.cons (.ret (.tup (.cons (.call f1 (.cons (.var 3) .nil)) (.cons (.bin .sub (.call f0 (.cons (.var 2) (.cons (.cst (.int 1)) .nil))) (.bi .max2 (.cons (.call f0 (.cons (.var 0) (.cons (.cst (.int 1)) .nil))) (.cons (.call f0 (.cons (.var 1) (.cons (.cst (.int 1)) .nil))) .nil)))) .nil)))) .nil)))
      (fun _ S' => (fun r S' => (∃ U, S' = S ++ U) ∧ r = eSc (shS mu nu x, shC mu nu x)) .non S') (fun r S' => (∃ U, S' = S ++ U) ∧ r = eSc (shS mu nu x, shC mu nu x)) [some (eS mu), some (eS nu), some (eS x), none, none, none] S := by
  have hz := sl_sz
  have lm := ok.lm
  have ln := ok.ln
  rw [Then_cons]
  simp [exS, ev, evs]
  rw [Then_cons]
  simp [exS, ev, evs, evI]
  refine ⟨⟨rngOk_small (by omega) (by omega), rngOk_small (by omega) (by omega)⟩, ?_⟩
  refine wpS_rng (ShJ2 S mu nu x) ⟨_, _, rfl, rfl⟩ (fun k g S' hk hJ => ?_) (fun g S' hJ => ?_)
  · obtain ⟨x4, x5, rfl, rfl⟩ := hJ
    have e0 := snoc_get S (oL D.int (mkP (shF mu nu x) k))
    have ef : shF mu nu x ((k : Int) + 1) = max (pt mu (1 + (k : Int) + 1)) (pt nu (1 + (k : Int) + 1)) + min (pt mu (1 + (k : Int))) (pt nu (1 + (k : Int))) - pt x (1 + (k : Int) + 1) := by
      unfold shF
      rw [show (k : Int) + 1 = 1 + (k : Int) by omega]
    rw [wpS_blk, Then_cons]
    simp (disch := first | omega | simp) [exS, ev, evs, hp]
    rw [Then_cons]
    simp (disch := first | omega | simp) [exS, ev, evs, hp, asM_o e0]
    rw [mt_appo e0 (by rw [mkP_len]; omega)]
    simp [set_snoc]
    exact ⟨_, _, rfl, by rw [mkP_succ, ef]⟩
  obtain ⟨x4, x5, rfl, rfl⟩ := hJ
  have hn : (max (mu.length : Int) nu.length).toNat = max mu.length nu.length := by omega
  simp only [hn]
  rw [Then_cons]
  simp [exS, ev, evs]
  rw [htr _ _ _ (snoc_get _ _) (by rw [mkP_len]; omega), (shF_ptf ok.pm ok.sm ok.sn).tz]
  simp (disch := first | omega | simp) [hp, show 2 ≤ sizeLine by omega]
  rfl
theorem shrink_n (hp : PartN (F f0)) (htr : TrimmedR (F f1)) (hs : StripN (F f2)) : ShrN (runD F (d_shrink f0 f1 f2)) := by
  intro S mu nu x ok
  refine fn_eq (wpR_mono (Q := fun r S' => (∃ U, S' = S ++ U) ∧ r = eSc (shS mu nu x, shC mu nu x)) (wpR_def rfl ?_) fun r S' ⟨e1, e2⟩ => ⟨e1, by rw [e2]; exact fz_enc (by decide)⟩)
  have lm := ok.lm
  have ln := ok.ln
  have lr := ok.lx
  simp only [d_shrink]
  rw [Then_cons]
  simp [exS, ev, evs, evT]
  rw [hs _ _ _ (by omega) (by omega)]
  simp [ok.sm]
  rw [Then_cons]
  simp [exS, ev, evs, evT]
  rw [hs _ _ _ (by omega) (by omega)]
  simp [ok.sn]
  exact shr_tail hp htr ok
end
end Li
end

section
set_option linter.all false
set_option maxRecDepth 100000
set_option maxHeartbeats 1000000
namespace Li
open PySem L2
open Classical
/-! ### shapes at corners -/
def rowF (prev : Nat → List Int) (am : Nat → Int) : Nat → List Int
  | 0 => []
  | j + 1 => grS (prev j) (prev (j + 1)) (rowF prev am j) (am j)
def cor (w : Nat → Nat → Int) : Nat → Nat → List Int
  | 0 => fun _ => []
  | i + 1 => rowF (cor w i) (w i)
theorem cor_z (w : Nat → Nat → Int) (i : Nat) : cor w i 0 = [] := by cases i <;> rfl
theorem cor_s (w : Nat → Nat → Int) (i j : Nat) : cor w (i + 1) (j + 1) = grS (cor w i j) (cor w i (j + 1)) (cor w (i + 1) j) (w i j) := rfl
theorem strip_nil {x : List Int} (h : Shp x) (hl : x.length ≤ 1) : StripP x [] := fun r hr => by
  rw [pt_nil]
  refine ⟨h.nonneg r, ?_⟩
  rw [pt_out (by omega)]; exact Int.le_refl _
theorem strip_self {x : List Int} (h : Shp x) : StripP x x := fun r hr => ⟨Int.le_refl _, h.anti r hr⟩
structure CorOk (w : Nat → Nat → Int) (i j : Nat) : Prop where
  shp : Shp (cor w i j)
  len : (cor w i j).length ≤ i ∧ (cor w i j).length ≤ j
theorem grS_len2 {rho mu nu : List Int} {c : Int} (hm1 : Shp mu) (hm : StripP mu rho) (hn : StripP nu rho) (hc : 0 ≤ c) : (grS rho mu nu c).length ≤ mu.length + 1 ∧ (grS rho mu nu c).length ≤ nu.length + 1 := by
  have hs := grS_shp hm1 hm hn hc
  constructor
  · have := hs.len_of (m := (mu.length : Int) + 1) (by omega) (by
      have a := (grS_mu hm1 hm hn hc ((mu.length : Int) + 1) (by omega)).2
      have b := hs.nonneg ((mu.length : Int) + 1 + 1)
      rw [pt_out (xs := mu) (by omega)] at a
      omega)
    omega
  · have := hs.len_of (m := (nu.length : Int) + 1) (by omega) (by
      have a := (grS_nu hm1 hm hn hc ((nu.length : Int) + 1) (by omega)).2
      have b := hs.nonneg ((nu.length : Int) + 1 + 1)
      rw [pt_out (xs := nu) (by omega)] at a
      omega)
    omega
section
variable {w : Nat → Nat → Int} {I J : Nat}
/-- all corners up to (I, J) are well -/
theorem cor_all (hw : ∀ i j, i < I → j < J → 0 ≤ w i j) : ∀ i, i ≤ I → (∀ j, j ≤ J → CorOk w i j ∧ (0 < i → StripP (cor w i j) (cor w (i - 1) j)) ∧ (0 < j → StripP (cor w i j) (cor w i (j - 1))))
  | 0, _ => fun j hj => ⟨⟨Shp.nil, by simp [cor]⟩, fun h => by omega, fun _ => strip_self Shp.nil⟩
  | i + 1, hi => fun j hj => by
    have ih := cor_all hw i (by omega)
    induction j with
    | zero =>
      rw [cor_z]
      exact ⟨⟨by rw [cor_z]; exact Shp.nil, by rw [cor_z]; simp⟩, fun _ => by rw [cor_z]; exact strip_self Shp.nil, fun h => by omega⟩
    | succ j ihj =>
      have a := ih j (by omega)
      have b := ih (j + 1) hj
      have c := ihj (by omega)
      have sm : StripP (cor w i (j + 1)) (cor w i j) := b.2.2 (by omega)
      have sn : StripP (cor w (i + 1) j) (cor w i j) := c.2.1 (by omega)
      have hc := hw i j (by omega) (by omega)
      have hl := grS_len2 b.1.shp sm sn hc
      have l1 := b.1.len
      have l2 := c.1.len
      refine ⟨⟨?_, ?_⟩, fun _ => ?_, fun _ => ?_⟩
      · rw [cor_s]; exact grS_shp b.1.shp sm sn hc
      · rw [cor_s]; omega
      · rw [cor_s]; exact grS_mu b.1.shp sm sn hc
      · rw [cor_s]; exact grS_nu b.1.shp sm sn hc
theorem cor_shp (hw : ∀ i j, i < I → j < J → 0 ≤ w i j) {i j : Nat} (hi : i ≤ I) (hj : j ≤ J) : Shp (cor w i j) := (cor_all hw i hi j hj).1.shp
theorem cor_len (hw : ∀ i j, i < I → j < J → 0 ≤ w i j) {i j : Nat} (hi : i ≤ I) (hj : j ≤ J) : (cor w i j).length ≤ i ∧ (cor w i j).length ≤ j := (cor_all hw i hi j hj).1.len
theorem cor_down (hw : ∀ i j, i < I → j < J → 0 ≤ w i j) {i j : Nat} (hi : i < I) (hj : j ≤ J) : StripP (cor w (i + 1) j) (cor w i j) := (cor_all hw (i + 1) hi j hj).2.1 (by omega)
theorem cor_right (hw : ∀ i j, i < I → j < J → 0 ≤ w i j) {i j : Nat} (hi : i ≤ I) (hj : j < J) : StripP (cor w i (j + 1)) (cor w i j) := (cor_all hw i hi (j + 1) hj).2.2 (by omega)
/-- the sum at a corner -/
def rs (f : Nat → Int) : Nat → Int
  | 0 => 0
  | n + 1 => rs f n + f n
theorem cor_sum (hw : ∀ i j, i < I → j < J → 0 ≤ w i j) : ∀ i, i ≤ I → ∀ j, j ≤ J → (cor w i j).sum = rs (fun a => rs (w a) j) i
  | 0, _, j, _ => rfl
  | i + 1, hi, j, hj => by
    induction j with
    | zero =>
      rw [cor_z, rs]
      have : ∀ n, rs (fun a => rs (w a) 0) n = 0 := fun n => by
        induction n with
        | zero => rfl
        | succ n ih => rw [rs, ih]; rfl
      rw [this]; rfl
    | succ j ihj =>
      have a := cor_sum hw i (by omega) j (by omega)
      have b := cor_sum hw i (by omega) (j + 1) hj
      have c := ihj (by omega)
      rw [cor_s, gr_sum (cor_shp hw (by omega) hj) (cor_shp hw (by omega) (by omega)) (cor_right hw (by omega) (by omega)) (cor_down hw (by omega) (by omega)) (hw i j (by omega) (by omega)) (cor_shp hw (by omega) (by omega)), a, b, c]
      simp only [rs]
      omega
/-- turned over the diagonal -/
theorem cor_flip (w : Nat → Nat → Int) : ∀ i j, cor (fun a b => w b a) j i = cor w i j
  | 0, j => by rw [cor_z]; rfl
  | i + 1, 0 => by rw [cor_z]; rfl
  | i + 1, j + 1 => by
    rw [cor_s, cor_s, cor_flip w i j, cor_flip w i (j + 1), cor_flip w (i + 1) j]
    exact grS_comm
termination_by i j => i + j
theorem cor_congr {w v : Nat → Nat → Int} : ∀ i j, (∀ a b, a < i → b < j → w a b = v a b) → cor w i j = cor v i j
  | 0, j, _ => rfl
  | i + 1, 0, _ => by rw [cor_z, cor_z]
  | i + 1, j + 1, h => by
    rw [cor_s, cor_s, cor_congr i j fun a b ha hb => h a b (by omega) (by omega), cor_congr i (j + 1) fun a b ha hb => h a b (by omega) hb, cor_congr (i + 1) j fun a b ha hb => h a b ha (by omega), h i j (by omega) (by omega)]
termination_by i j => i + j
end
end Li
end

section
set_option linter.all false
set_option maxRecDepth 100000
set_option maxHeartbeats 2000000
namespace Li
open PySem L2 Df
open Classical
instance : Inhabited D := ⟨.non⟩
abbrev eB : List (List Int) → D := T (T D.int)
abbrev eN : List (List (List Int)) → D := Ls (Ls (T D.int))
theorem snoc_getD {α : Type} (xs : List α) (x : α) : (xs ++ [x])[xs.length]? = some x := by
  rw [List.getElem?_append_right (Nat.le_refl _), Nat.sub_self]; rfl
def bw (bd : List (List Int)) (i j : Nat) : Int := (bd.getD i []).getD j 0
structure BdOk (bd : List (List Int)) (R C : Nat) : Prop where
  len : bd.length = R
  r1 : 1 ≤ R
  c1 : 1 ≤ C
  r2 : R ≤ 20
  c2 : C ≤ 20
  row : ∀ r ∈ bd, r.length = C
  am : ∀ r ∈ bd, ∀ x ∈ r, 0 ≤ x ∧ x ≤ 1000000
section
variable {bd : List (List Int)} {R C : Nat}
theorem BdOk.get (h : BdOk bd R C) {i : Nat} (hi : i < R) : ∃ r, bd[i]? = some r ∧ r ∈ bd ∧ r.length = C ∧ bd.getD i [] = r := by
  have hl := h.len
  refine ⟨bd[i], List.getElem?_eq_getElem (by omega), List.getElem_mem _, h.row _ (List.getElem_mem _), ?_⟩
  rw [List.getD_eq_getElem?_getD, List.getElem?_eq_getElem (by omega)]; rfl
theorem BdOk.w (h : BdOk bd R C) : ∀ i j, i < R → j < C → 0 ≤ bw bd i j := fun i j hi hj => by
  obtain ⟨r, _, hr, hl, e⟩ := h.get hi
  unfold bw
  rw [e, List.getD_eq_getElem?_getD, List.getElem?_eq_getElem (by omega)]
  exact (h.am r hr _ (List.getElem_mem _)).1
end
def crow (w : Nat → Nat → Int) (i C : Nat) : List (List Int) := (List.range (C + 1)).map fun j => cor w i j
def crn (w : Nat → Nat → Int) (R C : Nat) : List (List (List Int)) := (List.range (R + 1)).map fun i => crow w i C
theorem crow_len (w : Nat → Nat → Int) (i C : Nat) : (crow w i C).length = C + 1 := by unfold crow; simp
theorem crow_ix {w : Nat → Nat → Int} {i C j : Nat} (h : j ≤ C) : ix (crow w i C) (j : Int) = cor w i j := by
  rw [ix_nat (by rw [crow_len]; omega)]; unfold crow; simp
theorem crow_0 (w : Nat → Nat → Int) (C : Nat) : crow w 0 C = (List.range (C + 1)).map fun _ => [] := rfl
theorem crow_succ (w : Nat → Nat → Int) (i j : Nat) : crow w i (j + 1) = crow w i j ++ [cor w i (j + 1)] := by
  unfold crow; rw [List.range_succ, List.map_append]; rfl
/-- a list of lists of shapes, all in the store from n0 on -/
structure RowsAt (S : Store) (n0 : Nat) (p : Nat) (refs : List D) (rows : List (List (List Int))) : Prop where
  lo : n0 ≤ p
  at_ : S[p]? = some (.lst refs)
  len : refs.length = rows.length
  row : ∀ (j : Nat) (h : j < rows.length), ∃ q, refs[j]? = some (.ref q) ∧ n0 ≤ q ∧ q ≠ p ∧ S[q]? = some (oL eS rows[j])
theorem mapM_ix {α β : Type} {f : α → Option β} : ∀ {xs : List α} {ys : List β}, xs.length = ys.length → (∀ (j : Nat) (x : α) (y : β), xs[j]? = some x → ys[j]? = some y → f x = some y) → xs.mapM f = some ys
  | [], [], _, _ => rfl
  | [], _ :: _, h, _ => by simp at h
  | _ :: _, [], h, _ => by simp at h
  | x :: xs, y :: ys, h, k => by
    rw [List.mapM_cons, k 0 x y rfl rfl, mapM_ix (by simpa using h) fun j a b ha hb => k (j + 1) a b ha hb]; rfl
section
variable {S : Store} {n0 p : Nat} {refs : List D} {rows : List (List (List Int))}
theorem RowsAt.fz (h : RowsAt S n0 p refs rows) : fz 12 n0 S (.ref p) = some (eN rows) := by
  show (if n0 ≤ p then (match S[p]? with
      | some (.lst xs) => Option.map D.lst (xs.mapM (Li.fz 11 n0 S))
      | _ => none) else none) = _
  rw [if_pos h.lo, h.at_]
  show Option.map D.lst (refs.mapM (Li.fz 11 n0 S)) = _
  rw [mapM_ix (ys := rows.map (Ls (T D.int))) (by rw [h.len, List.length_map]) fun j x y hx hy => ?_]
  · rfl
  · rw [List.getElem?_map] at hy
    obtain ⟨r, hr, rfl⟩ := Option.map_eq_some_iff.mp hy
    obtain ⟨hj, rfl⟩ := List.getElem?_eq_some_iff.mp hr
    obtain ⟨q, e1, e2, e3, e4⟩ := h.row j hj
    rw [e1] at hx
    cases hx
    show (if n0 ≤ q then (match S[q]? with
      | some (.lst xs) => Option.map D.lst (xs.mapM (Li.fz 10 n0 S))
      | _ => none) else none) = _
    rw [if_pos e2, e4]
    show Option.map D.lst ((rows[j].map eS).mapM (Li.fz 10 n0 S)) = _
    rw [fz_mapM (by decide)]; rfl
theorem RowsAt.last (h : RowsAt S n0 p refs rows) (hl : 0 < rows.length) : ∃ q, idxR (.ref p) (.int (-1)) S = .ok (.ref q) S ∧ n0 ≤ q ∧ q ≠ p ∧ S[q]? = some (oL eS rows[rows.length - 1]) := by
  obtain ⟨q, e1, e2, e3, e4⟩ := h.row (rows.length - 1) (by omega)
  refine ⟨q, ?_, e2, e3, e4⟩
  have hr := h.len
  have := idx_qm (S := S) (e := id) (xs := refs) (d := .ref p) (by rw [List.map_id]; exact asSeq_L (asL_ref h.at_)) (by omega)
  rw [this]
  congr 1
  have e5 : refs[refs.length - 1]? = some (ix refs ((refs.length : Int) - 1)) := by
    have := ix_get (xs := refs) (i := (refs.length : Int) - 1) (by omega) (by omega)
    rw [show ((refs.length : Int) - 1).toNat = refs.length - 1 by omega] at this
    exact this
  rw [hr, e1] at e5
  rw [hr]
  exact (Option.some.inj e5).symm
/-- a row more -/
theorem RowsAt.more (h : RowsAt S n0 p refs rows) (h0 : n0 ≤ S.length) {r : List (List Int)} : RowsAt ((S ++ [oL eS r]).set p (.lst (refs ++ [.ref S.length]))) n0 p (refs ++ [.ref S.length]) (rows ++ [r]) := by
  have hp : p < S.length := (List.getElem?_eq_some_iff.mp h.at_).1
  refine ⟨h.lo, ?_, by rw [List.length_append, List.length_append, h.len]; rfl, fun j hj => ?_⟩
  · rw [List.getElem?_set_self (by rw [List.length_append]; omega)]
  · by_cases hjl : j < rows.length
    · obtain ⟨q, e1, e2, e3, e4⟩ := h.row j hjl
      refine ⟨q, by rw [List.getElem?_append_left (by rw [h.len]; exact hjl)]; exact e1, e2, e3, ?_⟩
      rw [List.getElem?_set_ne (fun z => e3 z.symm), List.getElem?_append_left (List.getElem?_eq_some_iff.mp e4).1, e4, List.getElem_append_left hjl]
    · have hj2 : j = rows.length := by rw [List.length_append, List.length_singleton] at hj; omega
      subst hj2
      refine ⟨S.length, by rw [← h.len]; exact snoc_getD refs _, h0, by omega, ?_⟩
      rw [List.getElem?_set_ne (by omega), snoc_get, List.getElem_append_right (Nat.le_refl _)]
      simp
end
end Li
end

section
set_option linter.all false
set_option maxRecDepth 100000
set_option maxHeartbeats 2000000
namespace Li
open PySem L2 Df
open Classical
theorem enum_get {α : Type} {e : α → D} {xs : List α} {k : Nat} {x : D} (h : (enumL (xs.map e))[k]? = some x) : ∃ hk : k < xs.length, x = .tup [.int k, e xs[k]] := by
  unfold enumL at h
  rw [List.getElem?_mapIdx] at h
  obtain ⟨y, hy, rfl⟩ := Option.map_eq_some_iff.mp h
  rw [List.getElem?_map] at hy
  obtain ⟨z, hz, rfl⟩ := Option.map_eq_some_iff.mp hy
  obtain ⟨hk, rfl⟩ := List.getElem?_eq_some_iff.mp hz
  exact ⟨hk, rfl⟩
theorem enum_len {α : Type} {e : α → D} {xs : List α} : (enumL (xs.map e)).length = xs.length := by unfold enumL; simp
/-- for i, x in enumerate(xs) -/
theorem wpS_enum {α : Type} {e : α → D} {xs : List α} {S : Store} {G : Store → Prop} {a b : Nat} {body : GE → Store → SR} {N : GE → Store → Prop} {R : D → Store → Prop} (J : Nat → GE → Store → Prop) {g : GE} (h : J 0 g S)
    (st : ∀ (k : Nat) (hk : k < xs.length) g S, J k g S → G S ∧ wpS (body ((g.set a (some (.int k))).set b (some (e xs[k]))) S) (J (k + 1)) R) (en : ∀ g S, J xs.length g S → G S ∧ N g S) : wpS (forGo G (.many [a, b]) body (enumL (xs.map e)) g S) N R := by
  refine wpS_list J h (fun k x g S hx hJ => ?_) (fun g S hJ => en g S (by rw [enum_len] at hJ; exact hJ))
  obtain ⟨hk, rfl⟩ := enum_get hx
  obtain ⟨h1, h2⟩ := st k hk g S hJ
  exact ⟨h1, _, rfl, h2⟩
abbrev LgrN (G : Gf) : Prop := GrowN G
section
variable {F : Fn} {f0 f1 : Nat}
theorem lgrown_n (htr : TrimR (F f0)) (hp : PartN (F f1)) : LgrN (runD F (d_law_grown f0 f1)) := by
  intro S rho mu nu c ok
  refine fn_eq (wpR_mono (Q := fun r S' => (∃ U, S' = S ++ U) ∧ r = eS (grS rho mu nu c)) (wpR_def rfl ?_) fun r S' ⟨e1, e2⟩ => ⟨e1, by rw [e2]; exact fz_enc (by decide)⟩)
  have hz := sl_sz
  have lm := ok.lm
  have ln := ok.ln
  simp only [d_law_grown]
  rw [Then_cons]
  simp (disch := first | omega | simp) [exS, ev, evs, hp, show 1 ≤ sizeLine by omega]
  rw [Then_cons]
  simp [exS, ev, evs, evI]
  refine ⟨⟨rngOk_small (by omega) (by omega), rngOk_small (by omega) (by omega)⟩, ?_⟩
  refine wpS_rng (GrJ S rho mu nu c) ⟨_, _, rfl, rfl⟩ (fun k g S' hk hJ => ?_) (fun g S' hJ => ?_)
  · obtain ⟨x5, x6, rfl, rfl⟩ := hJ
    have e0 := snoc_get S (oL D.int (mkP (grF rho mu nu c) (k + 1)))
    have ef : grF rho mu nu c (((k + 1 : Nat) : Int) + 1) = max (pt mu (2 + (k : Int))) (pt nu (2 + (k : Int))) + min (pt mu (2 + (k : Int) - 1)) (pt nu (2 + (k : Int) - 1)) - pt rho (2 + (k : Int) - 1) := by
      unfold grF
      rw [show ((k + 1 : Nat) : Int) + 1 = 2 + (k : Int) by omega, if_neg (by omega)]
    rw [wpS_blk, Then_cons]
    simp (disch := first | omega | simp) [exS, ev, evs, hp]
    rw [Then_cons]
    simp (disch := first | omega | simp) [exS, ev, evs, hp, asM_o e0]
    rw [mt_appo e0 (by rw [mkP_len]; omega)]
    simp [set_snoc]
    exact ⟨_, _, rfl, by rw [mkP_succ _ (k + 1), ef]⟩
  obtain ⟨x5, x6, rfl, rfl⟩ := hJ
  generalize hm : ((mu.length : Int) + nu.length).toNat = m
  rw [Then_cons]
  simp [exS, ev, evs]
  rw [htr _ _ _ (snoc_get _ _) (by rw [mkP_len]; omega), (grF_ptf ok.pm ok.sm ok.sn ok.pc).same (m := m + 1) (by omega)]
  exact ⟨⟨_, rfl⟩, rfl⟩
/-- the shapes at the corners of a board -/
def CrnP (S : Store) (bd : List (List Int)) (R C : Nat) (r : D) (S' : Store) : Prop := ∃ U p refs, S' = S ++ U ∧ r = .ref p ∧ RowsAt S' S.length p refs (crn (bw bd) R C)
abbrev CrnR (G : Gf) : Prop := ∀ (S : Store) (bd : List (List Int)) (R C : Nat), BdOk bd R C → wpR (G [eB bd] S) (CrnP S bd R C)
abbrev CrnN (G : Gf) : Prop := ∀ (S : Store) (bd : List (List Int)) (R C : Nat), BdOk bd R C → frzR S (G [eB bd] S) = .ok (eN (crn (bw bd) R C)) S
theorem CrnR.frz {G : Gf} (h : CrnR G) : CrnN G := fun S bd R C ok => by
  obtain ⟨r, S', e, U, p, refs, rfl, rfl, hr⟩ := wpR_get (h S bd R C ok)
  rw [e]
  exact frz_app hr.fz
def SoJ (S : Store) (bd : List (List Int)) (C : Nat) (k : Nat) (g : GE) (S' : Store) : Prop := ∃ x2 x3 x4 x5 x6 x7 U refs, g = [some (eB bd), some (.ref (S.length + 1)), x2, x3, x4, x5, x6, x7] ∧ S' = S ++ U ∧ RowsAt S' S.length (S.length + 1) refs ((List.range (k + 1)).map fun i => crow (bw bd) i C)
def SoJ2 (S1 : Store) (d : D) (p : Nat) (am : D) (q : Nat) (bd : List (List Int)) (i : Nat) (j : Nat) (g : GE) (S' : Store) : Prop := ∃ x5 x6 x7, g = [some d, some (.ref p), some am, some (.ref q), some (.ref S1.length), x5, x6, x7] ∧ S' = S1 ++ [oL eS (crow (bw bd) (i + 1) j)]
def LcJ (S : Store) (bd : List (List Int)) (C : Nat) (k : Nat) (g : GE) (S' : Store) : Prop := ∃ x2 x3 x4 x5 U refs, g = [some (eB bd), some (.ref (S.length + 1)), x2, x3, x4, x5] ∧ S' = S ++ U ∧ RowsAt S' S.length (S.length + 1) refs ((List.range (k + 1)).map fun i => crow (bw bd) i C)
def LcJ2 (S1 : Store) (d : D) (p : Nat) (am : D) (q : Nat) (bd : List (List Int)) (i : Nat) (j : Nat) (g : GE) (S' : Store) : Prop := ∃ x5, g = [some d, some (.ref p), some am, some (.ref q), some (.ref S1.length), x5] ∧ S' = S1 ++ [oL eS (crow (bw bd) (i + 1) j)]
theorem grOk_bd {bd : List (List Int)} {R C i j : Nat} (ok : BdOk bd R C) (hi : i < R) (hj : j < C) : GrOk (cor (bw bd) i j) (cor (bw bd) i (j + 1)) (cor (bw bd) (i + 1) j) (bw bd i j) := by
  have w := ok.w
  have r2 := ok.r2
  have a := cor_len w (i := i) (j := j + 1) (by omega) (by omega)
  have b := cor_len w (i := i + 1) (j := j) (by omega) (by omega)
  exact ⟨cor_shp w (by omega) (by omega), cor_shp w (by omega) (by omega), cor_shp w (by omega) (by omega), cor_right w (by omega) hj, cor_down w hi (by omega), w i j hi hj, by omega, by omega⟩
theorem shapes_of_r (hg : GrowN (F f0)) : CrnR (runD F (d_shapes_of f0)) := by
  intro S bd R C ok
  have hz := sl_sz
  obtain ⟨hlen, r1, c1, r2, c2, hrow, ham⟩ := id ok
  refine wpR_def rfl ?_
  simp only [d_shapes_of]
  rw [Then_cons]
  obtain ⟨b0, g0, g1, g2, g3⟩ := ok.get (i := 0) (by omega)
  have hb0 : ix bd 0 = b0 := by unfold ix; exact g3
  simp [exS, ev, evs, evI, idx_T (e := T D.int) (xs := bd) (i := 0) (by omega) (by omega), hb0, g2]
  refine ⟨rngOk_small (by omega) (by omega), ?_⟩
  rw [show rngL 0 (C + 1) = (List.range (C + 1)).map (fun i : Nat => D.int (0 + (i : Int))) from rfl, lc_map (e' := T D.int) (f := fun _ : Nat => []) trivial fun k hk => by simp [stepG, ev, evs, evC]; rfl]
  simp [show 1 ≤ sizeLine by omega]
  refine ⟨by omega, ?_⟩
  rw [Then_cons]
  simp [exS, ev, evI]
  refine wpS_each (SoJ S bd C) ?_ (fun k hk g S' hJ => ⟨trivial, ?_⟩) (fun g S' hJ => ⟨trivial, ?_⟩)
  · refine ⟨_, _, _, _, _, _, _, [.ref S.length], rfl, rfl, ⟨by omega, ?_, rfl, fun j hj => ?_⟩⟩
    · rw [List.getElem?_append_right (by omega), show S.length + 1 - S.length = 1 by omega]; rfl
    · have : j = 0 := by simp at hj; omega
      subst this
      refine ⟨S.length, rfl, Nat.le_refl _, by omega, ?_⟩
      rw [List.getElem?_append_right (by omega), Nat.sub_self]
      simp [oL, crow_0]
  · obtain ⟨x2, x3, x4, x5, x6, x7, U, refs, rfl, rfl, hr⟩ := hJ
    rw [hlen] at hk
    obtain ⟨am, a0, a1, a2, a3⟩ := ok.get hk
    have ha : bd[k] = am := by rw [List.getElem?_eq_getElem (by omega)] at a0; exact Option.some.inj a0
    rw [ha]
    refine ⟨_, rfl, ?_⟩
    obtain ⟨q, q1, q2, q3, q4⟩ := hr.last (by simp)
    have q4 : (S ++ U)[q]? = some (oL eS (crow (bw bd) k C)) := by rw [q4]; simp
    have hp := hr.at_
    rw [wpS_blk, Then_cons]
    simp [exS, ev, q1]
    rw [Then_cons]
    simp [exS, ev, evs, show 1 ≤ sizeLine by omega]
    rw [Then_cons]
    simp only [exS, ev, evI, wpS_of, wpR_bind]
    simp
    have hS1 : S.length ≤ (S ++ U).length := by simp
    rw [show S.length + U.length = (S ++ U).length by simp, show S ++ (U ++ [Ob.lst [D.tup []]]) = (S ++ U) ++ [oL eS (crow (bw bd) (k + 1) 0)] by simp [oL, crow]; rfl]
    obtain ⟨S1, hS⟩ : ∃ S1, S1 = S ++ U := ⟨_, rfl⟩
    rw [← hS] at hr q1 q4 hp hS1 ⊢
    refine wpS_enum (SoJ2 S1 (eB bd) (S.length + 1) (T D.int am) q bd k) ⟨_, _, _, rfl, rfl⟩ (fun j hj g S' hJ => ⟨trivial, ?_⟩) (fun g S' hJ => ⟨trivial, ?_⟩)
    · obtain ⟨x5, x6, x7, rfl, rfl⟩ := hJ
      rw [a2] at hj
      have q4' : (S1 ++ [oL eS (crow (bw bd) (k + 1) j)])[q]? = some (oL eS (crow (bw bd) k C)) := by
        rw [List.getElem?_append_left (List.getElem?_eq_some_iff.mp q4).1]; exact q4
      have e0 := snoc_get S1 (oL eS (crow (bw bd) (k + 1) j))
      have l1 := crow_len (bw bd) k C
      have l2 := crow_len (bw bd) (k + 1) j
      have c1 : ix (crow (bw bd) k C) (j : Int) = cor (bw bd) k j := crow_ix (by omega)
      have c2 : ix (crow (bw bd) k C) ((j : Int) + 1) = cor (bw bd) k (j + 1) := by
        rw [show (j : Int) + 1 = ((j + 1 : Nat) : Int) by omega]; exact crow_ix (by omega)
      have c3 : ix (crow (bw bd) (k + 1) j) (j : Int) = cor (bw bd) (k + 1) j := crow_ix (Nat.le_refl _)
      have c4 : am[j]'(by omega) = bw bd k j := by
        unfold bw; rw [a3, List.getD_eq_getElem?_getD, List.getElem?_eq_getElem (by omega)]; rfl
      have hgr := hg (S1 ++ [oL eS (crow (bw bd) (k + 1) j)]) _ _ _ _ (grOk_bd ok hk hj)
      rw [wpS_blk1]
      simp [exS, ev, evs, asM_o e0, idx_o q4' (show (0 : Int) ≤ (j : Int) by omega) (by omega), idx_o q4' (show (0 : Int) ≤ (j : Int) + 1 by omega) (by omega), idx_o e0 (show (0 : Int) ≤ (j : Int) by omega) (by omega), c1, c2, c3, c4]
      rw [hgr]
      simp
      rw [mt_appo e0 (by omega)]
      simp [set_snoc]
      exact ⟨_, _, _, rfl, by rw [crow_succ, cor_s]⟩
    · obtain ⟨x5, x6, x7, rfl, rfl⟩ := hJ
      rw [a2]
      have hp2 : (S1 ++ [oL eS (crow (bw bd) (k + 1) C)])[S.length + 1]? = some (.lst refs) := by
        rw [List.getElem?_append_left (List.getElem?_eq_some_iff.mp hp).1]; exact hp
      have hrl : refs.length = k + 1 := by rw [hr.len]; simp
      rw [Then_cons]
      simp [exS, ev, evs, asM_ref hp2, mt_app hp2]
      refine ⟨by omega, _, _, _, _, _, _, (U ++ [oL eS (crow (bw bd) (k + 1) C)]).set 1 (.lst (refs ++ [.ref S1.length])), refs ++ [.ref S1.length], rfl, ?_, ?_⟩
      · rw [hS, List.append_assoc, List.set_append_right _ _ (by omega), show S.length + 1 - S.length = 1 by omega]
      · have := hr.more hS1 (r := crow (bw bd) (k + 1) C)
        rw [List.range_succ (n := k + 1), List.map_append]
        exact this
  · obtain ⟨x2, x3, x4, x5, x6, x7, U, refs, rfl, rfl, hr⟩ := hJ
    rw [hlen] at hr
    rw [Then_cons]
    simp [exS, ev]
    exact ⟨U, _, refs, rfl, rfl, hr⟩
theorem corners_r (hg : LgrN (F f0)) : CrnR (runD F (d_law_corners f0)) := by
  intro S bd R C ok
  have hz := sl_sz
  obtain ⟨hlen, r1, c1, r2, c2, hrow, ham⟩ := id ok
  refine wpR_def rfl ?_
  simp only [d_law_corners]
  rw [Then_cons]
  obtain ⟨b0, g0, g1, g2, g3⟩ := ok.get (i := 0) (by omega)
  have hb0 : ix bd 0 = b0 := by unfold ix; exact g3
  have hmul : bopR .mul (Ls (T D.int) [[]]) (.int ((C : Int) + 1)) S = alloc (oL eS (crow (bw bd) 0 C)) S := by
    have : bopR .mul (Ls (T D.int) [[]]) (.int ((C : Int) + 1)) S = if -(2 ^ 63) ≤ ((C : Int) + 1) ∧ ((C : Int) + 1) < 2 ^ 63 ∧ [T D.int []].length * ((C : Int) + 1).toNat ≤ sizeLine then alloc (.lst (List.replicate ((C : Int) + 1).toNat [T D.int []]).flatten) S else .stuck := rfl
    rw [this, if_pos ⟨by omega, by omega, by simp; omega⟩]
    have hrep : (List.replicate ((C : Int) + 1).toNat [T D.int []]).flatten = (crow (bw bd) 0 C).map eS := by
      rw [crow_0, List.map_map, show ((C : Int) + 1).toNat = C + 1 by omega]
      refine List.ext_getElem? fun j => ?_
      rw [show (List.replicate (C + 1) [T D.int []]).flatten = List.replicate (C + 1) (T D.int []) by simp]
      rw [List.getElem?_replicate, List.getElem?_map]
      by_cases h : j < C + 1
      · rw [if_pos h, List.getElem?_range h]; rfl
      · rw [if_neg h, List.getElem?_eq_none (by simp; omega)]; rfl
    rw [hrep]; rfl
  simp [exS, ev, evs, evI, idx_T (e := T D.int) (xs := bd) (i := 0) (by omega) (by omega), hb0, g2, show 1 ≤ sizeLine by omega]
  rw [show D.tup [] = T D.int [] from rfl, frz_al1 (by decide)]
  simp [hmul]
  rw [Then_cons]
  simp [exS, ev, evI]
  refine wpS_each (LcJ S bd C) ?_ (fun k hk g S' hJ => ⟨trivial, ?_⟩) (fun g S' hJ => ⟨trivial, ?_⟩)
  · refine ⟨_, _, _, _, _, [.ref S.length], rfl, rfl, ⟨by omega, ?_, rfl, fun j hj => ?_⟩⟩
    · rw [List.getElem?_append_right (by omega), show S.length + 1 - S.length = 1 by omega]; rfl
    · have : j = 0 := by simp at hj; omega
      subst this
      refine ⟨S.length, rfl, Nat.le_refl _, by omega, ?_⟩
      rw [List.getElem?_append_right (by omega), Nat.sub_self]
      simp
  · obtain ⟨x2, x3, x4, x5, U, refs, rfl, rfl, hr⟩ := hJ
    rw [hlen] at hk
    obtain ⟨am, a0, a1, a2, a3⟩ := ok.get hk
    have ha : bd[k] = am := by rw [List.getElem?_eq_getElem (by omega)] at a0; exact Option.some.inj a0
    rw [ha]
    refine ⟨_, rfl, ?_⟩
    obtain ⟨q, q1, q2, q3, q4⟩ := hr.last (by simp)
    have q4 : (S ++ U)[q]? = some (oL eS (crow (bw bd) k C)) := by rw [q4]; simp
    have hp := hr.at_
    rw [wpS_blk, Then_cons]
    simp [exS, ev, q1]
    rw [Then_cons]
    simp [exS, ev, evs, show 1 ≤ sizeLine by omega]
    rw [Then_cons]
    simp only [exS, ev, evs, evI, wpS_of, wpR_bind]
    simp
    refine ⟨rngOk_small (by omega) (by omega), ?_⟩
    have hS1 : S.length ≤ (S ++ U).length := by simp
    rw [show S.length + U.length = (S ++ U).length by simp, show S ++ (U ++ [Ob.lst [D.tup []]]) = (S ++ U) ++ [oL eS (crow (bw bd) (k + 1) 0)] by simp [oL, crow]; rfl, a2]
    obtain ⟨S1, hS⟩ : ∃ S1, S1 = S ++ U := ⟨_, rfl⟩
    rw [← hS] at hr q1 q4 hp hS1 ⊢
    refine wpS_rng (LcJ2 S1 (eB bd) (S.length + 1) (T D.int am) q bd k) ⟨_, rfl, rfl⟩ (fun j g S' hj hJ => ?_) (fun g S' hJ => ?_)
    · obtain ⟨x5, rfl, rfl⟩ := hJ
      have q4' : (S1 ++ [oL eS (crow (bw bd) (k + 1) j)])[q]? = some (oL eS (crow (bw bd) k C)) := by
        rw [List.getElem?_append_left (List.getElem?_eq_some_iff.mp q4).1]; exact q4
      have e0 := snoc_get S1 (oL eS (crow (bw bd) (k + 1) j))
      have l1 := crow_len (bw bd) k C
      have l2 := crow_len (bw bd) (k + 1) j
      have c1 : ix (crow (bw bd) k C) (j : Int) = cor (bw bd) k j := crow_ix (by omega)
      have c2 : ix (crow (bw bd) k C) ((j : Int) + 1) = cor (bw bd) k (j + 1) := by
        rw [show (j : Int) + 1 = ((j + 1 : Nat) : Int) by omega]; exact crow_ix (by omega)
      have c3 : ix (crow (bw bd) (k + 1) j) (j : Int) = cor (bw bd) (k + 1) j := crow_ix (Nat.le_refl _)
      have c4 : ix am (j : Int) = bw bd k j := by
        unfold bw; rw [a3, ix_nat (by omega), List.getD_eq_getElem?_getD, List.getElem?_eq_getElem (by omega)]; rfl
      have hgr := hg (S1 ++ [oL eS (crow (bw bd) (k + 1) j)]) _ _ _ _ (grOk_bd ok hk hj)
      rw [wpS_blk1]
      simp [exS, ev, evs, asM_o e0, idx_o q4' (show (0 : Int) ≤ (j : Int) by omega) (by omega), idx_o q4' (show (0 : Int) ≤ (j : Int) + 1 by omega) (by omega), idx_o e0 (show (0 : Int) ≤ (j : Int) by omega) (by omega), idx_T (e := D.int) (xs := am) (show (0 : Int) ≤ (j : Int) by omega) (by omega), c1, c2, c3, c4]
      rw [hgr]
      simp
      rw [mt_appo e0 (by omega)]
      simp [set_snoc]
      exact ⟨_, rfl, by rw [crow_succ, cor_s]⟩
    · obtain ⟨x5, rfl, rfl⟩ := hJ
      have hp2 : (S1 ++ [oL eS (crow (bw bd) (k + 1) C)])[S.length + 1]? = some (.lst refs) := by
        rw [List.getElem?_append_left (List.getElem?_eq_some_iff.mp hp).1]; exact hp
      have hrl : refs.length = k + 1 := by rw [hr.len]; simp
      rw [Then_cons]
      simp [exS, ev, evs, asM_ref hp2, mt_app hp2]
      refine ⟨by omega, _, _, _, _, (U ++ [oL eS (crow (bw bd) (k + 1) C)]).set 1 (.lst (refs ++ [.ref S1.length])), refs ++ [.ref S1.length], rfl, ?_, ?_⟩
      · rw [hS, List.append_assoc, List.set_append_right _ _ (by omega), show S.length + 1 - S.length = 1 by omega]
      · have := hr.more hS1 (r := crow (bw bd) (k + 1) C)
        rw [List.range_succ (n := k + 1), List.map_append]
        exact this
  · obtain ⟨x2, x3, x4, x5, U, refs, rfl, rfl, hr⟩ := hJ
    rw [hlen] at hr
    rw [Then_cons]
    simp [exS, ev]
    exact ⟨U, _, refs, rfl, rfl, hr⟩
end
end Li
end

section
set_option linter.all false
set_option maxRecDepth 100000
set_option maxHeartbeats 1000000
namespace Li
open PySem L2 Df
open Classical
theorem co_neDct4 {S : Store} {k : List (Str × Fl)} (h : (k.map (·.1)).Nodup) : copR .ne (.dct k) (.dct k) S = .ok (.bl false) S := by
  show (if k = k ∧ (k.map (·.1)).Nodup then Res.ok (D.bl false) S else .stuck) = _
  rw [if_pos ⟨rfl, h⟩]
@[simp] theorem is_tDct4 {S : Store} {k : List (Str × Fl)} : isR .tuple (.dct k) S = .ok (.bl false) S := rfl
def refD4 (m : Str) : D := .dct [("refused", .str m)]
/-- shrink, of any shapes -/
abbrev ShxN (G : Gf) : Prop := ∀ (S : Store) (mu nu x : List Int), Shp mu → Shp nu → Shp x → mu.length ≤ 1000 → nu.length ≤ 1000 → x.length ≤ 1000 →
  frzR S (G [eS mu, eS nu, eS x] S) = if ¬ StripP x mu then .exc ⟨"NotStrip", some (.str "mu")⟩ S else if ¬ StripP x nu then .exc ⟨"NotStrip", some (.str "nu")⟩ S else .ok (eSc (shS mu nu x, shC mu nu x)) S
theorem shx_n {F : Fn} {f0 f1 f2 : Nat} (hp : PartN (F f0)) (htr : TrimmedR (F f1)) (hs : StripN (F f2)) : ShxN (runD F (K04.d_shrink f0 f1 f2)) := by
  intro S mu nu x pm pn px lm ln lx
  have h1 := fun S => hs S x mu (by omega) (by omega)
  have h2 := fun S => hs S x nu (by omega) (by omega)
  by_cases q1 : StripP x mu
  · rw [if_neg (fun z => z q1)]
    simp only [decide_eq_true q1] at h1
    by_cases q2 : StripP x nu
    · rw [if_neg (fun z => z q2)]
      simp only [decide_eq_true q2] at h2
      refine fn_eq (wpR_mono (Q := fun r S' => (∃ U, S' = S ++ U) ∧ r = eSc (shS mu nu x, shC mu nu x)) (wpR_def rfl ?_) fun r S' ⟨e1, e2⟩ => ⟨e1, by rw [e2]; exact fz_enc (by decide)⟩)
      simp only [K04.d_shrink]
      rw [Then_cons]
      simp [exS, exSs, ev, evs, evT, h1]
      rw [Then_cons]
      simp [exS, exSs, ev, evs, evT, h2]
      exact shr_tail hp htr ⟨pm, pn, px, q1, q2, by omega⟩
    · rw [if_pos q2]
      simp only [decide_eq_false q2] at h2
      have key : runD F (K04.d_shrink f0 f1 f2) [eS mu, eS nu, eS x] S = .exc ⟨"NotStrip", some (.str "nu")⟩ S := by
        unfold runD
        rw [if_pos (show [eS mu, eS nu, eS x].length = (K04.d_shrink f0 f1 f2).np from rfl)]
        simp only [K04.d_shrink]
        simp [exSs, exS, ev, evs, evT, h1, h2, SR.of, SR.thn]
      rw [key]; rfl
  · rw [if_pos q1]
    simp only [decide_eq_false q1] at h1
    have key : runD F (K04.d_shrink f0 f1 f2) [eS mu, eS nu, eS x] S = .exc ⟨"NotStrip", some (.str "mu")⟩ S := by
      unfold runD
      rw [if_pos (show [eS mu, eS nu, eS x].length = (K04.d_shrink f0 f1 f2).np from rfl)]
      simp only [K04.d_shrink]
      simp [exSs, exS, ev, evs, evT, h1, SR.of, SR.thn]
    rw [key]; rfl
noncomputable def dueE (mu nu x : List Int) : D := if ¬ StripP x mu then refD4 "mu" else if ¬ StripP x nu then refD4 "nu" else eSc (shS mu nu x, shC mu nu x)
abbrev StoN (G : Gf) : Prop := ∀ (S : Store) (mu nu x : List Int), Shp mu → Shp nu → Shp x → mu.length ≤ 1000 → nu.length ≤ 1000 → x.length ≤ 1000 → frzR S (G [eS mu, eS nu, eS x] S) = .ok (dueE mu nu x) S
theorem fz_due (S : Store) (mu nu x : List Int) : frzR S (.ok (dueE mu nu x) S) = .ok (dueE mu nu x) S := by
  unfold dueE
  split
  · exact frz_ok rfl
  · split
    · exact frz_ok rfl
    · exact frz_enc (e := eSc) (by decide)
theorem sto_n {F : Fn} {f0 : Nat} (hg : ShxN (F f0)) : StoN (runD F (K04.d_law_told f0)) := by
  intro S mu nu x pm pn px lm ln lx
  have h := fun S => hg S mu nu x pm pn px lm ln lx
  have key : runD F (K04.d_law_told f0) [eS mu, eS nu, eS x] S = .ok (dueE mu nu x) S := by
    unfold runD dueE
    rw [if_pos (show [eS mu, eS nu, eS x].length = (K04.d_law_told f0).np from rfl)]
    simp only [K04.d_law_told]
    by_cases q1 : StripP x mu
    · by_cases q2 : StripP x nu
      · simp only [if_neg (not_not.mpr q1), if_neg (not_not.mpr q2)] at h ⊢
        simp [exSs, exS, ev, evs, h, SR.of, SR.thn]
      · simp only [if_neg (not_not.mpr q1), if_pos q2] at h ⊢
        simp [exSs, exS, ev, evs, h, SR.of, SR.thn, List.lookup, HB.val, HX.val, hkv, HK.val, refD4]
    · simp only [if_pos q1] at h ⊢
      simp [exSs, exS, ev, evs, h, SR.of, SR.thn, List.lookup, HB.val, HX.val, hkv, HK.val, refD4]
  rw [key, fz_due]
theorem sdu_n {F : Fn} {f0 f1 f2 : Nat} (hp : PartN (F f0)) (htr : TrimR (F f1)) (hs : StripN (F f2)) : StoN (runD F (K04.d_law_due f0 f1 f2)) := by
  intro S mu nu x pm pn px lm ln lx
  have hz := sl_sz
  have h1 := fun S => hs S x mu (by omega) (by omega)
  have h2 := fun S => hs S x nu (by omega) (by omega)
  refine fn_eq (wpR_mono (Q := fun r S' => (∃ U, S' = S ++ U) ∧ r = dueE mu nu x) (wpR_def rfl ?_) fun r S' ⟨e1, e2⟩ => ⟨e1, ?_⟩)
  rotate_left
  · rw [e2]
    unfold dueE
    split
    · rfl
    · split
      · rfl
      · exact fz_enc (e := eSc) (by decide)
  simp only [K04.d_law_due]
  rw [Then_cons]
  by_cases q1 : StripP x mu
  · simp only [decide_eq_true q1] at h1
    simp [exS, exSs, ev, evs, evT, h1]
    rw [Then_cons]
    by_cases q2 : StripP x nu
    · simp only [decide_eq_true q2] at h2
      have ed : dueE mu nu x = eSc (shS mu nu x, shC mu nu x) := by unfold dueE; rw [if_neg (fun z => z q1), if_neg (fun z => z q2)]
      rw [ed]
      simp [exS, exSs, ev, evs, evT, h2]
      rw [Then_cons]
      simp [exS, ev, evs]
      rw [Then_cons]
      simp [exS, ev, evs, evI]
      refine ⟨⟨rngOk_small (by omega) (by omega), rngOk_small (by omega) (by omega)⟩, ?_⟩
      refine wpS_rng (ShJ2 S mu nu x) ⟨_, _, rfl, rfl⟩ (fun k g S' hk hJ => ?_) (fun g S' hJ => ?_)
      · obtain ⟨x4, x5, rfl, rfl⟩ := hJ
        have e0 := snoc_get S (oL D.int (mkP (shF mu nu x) k))
        have ef : shF mu nu x ((k : Int) + 1) = max (pt mu (1 + (k : Int) + 1)) (pt nu (1 + (k : Int) + 1)) + min (pt mu (1 + (k : Int))) (pt nu (1 + (k : Int))) - pt x (1 + (k : Int) + 1) := by
          unfold shF
          rw [show (k : Int) + 1 = 1 + (k : Int) by omega]
        rw [wpS_blk, Then_cons]
        simp (disch := first | omega | simp) [exS, ev, evs, hp]
        rw [Then_cons]
        simp (disch := first | omega | simp) [exS, ev, evs, hp, asM_o e0]
        rw [mt_appo e0 (by rw [mkP_len]; omega)]
        simp [set_snoc]
        exact ⟨_, _, rfl, by rw [mkP_succ, ef]⟩
      obtain ⟨x4, x5, rfl, rfl⟩ := hJ
      have hn : ((mu.length : Int) + nu.length).toNat = mu.length + nu.length := by omega
      simp only [hn]
      rw [Then_cons]
      simp [exS, ev, evs]
      rw [htr _ _ _ (snoc_get _ _) (by rw [mkP_len]; omega), (shF_ptf pm q1 q2).same (m := mu.length + nu.length) (by omega)]
      simp (disch := first | omega | simp) [hp, show 2 ≤ sizeLine by omega]
      rfl
    · simp only [decide_eq_false q2] at h2
      have ed : dueE mu nu x = refD4 "nu" := by unfold dueE; rw [if_neg (fun z => z q1), if_pos q2]
      rw [ed]
      simp [exS, exSs, ev, evs, evT, h2]
      rfl
  · simp only [decide_eq_false q1] at h1
    have ed : dueE mu nu x = refD4 "mu" := by unfold dueE; rw [if_pos q1]
    rw [ed]
    simp [exS, exSs, ev, evs, evT, h1]
    rfl
theorem lit3t {a b c : List Int} {S : Store} : frzR S (alloc (.lst [T D.int a, T D.int b, T D.int c]) S) = .ok (.lst [T D.int a, T D.int b, T D.int c]) S := frz_alloc (e := T D.int) (xs := [a, b, c]) (by decide)
def J04 (t : List Int) (d : D) (k : Nat) (g : GE) (S : Store) : Prop := ∃ x2 x3 x4 x5 x6 x7 n R, g = [some d, some (.ref 0), x2, x3, x4, x5, x6, x7] ∧ S = so t n :: R ∧ 0 ≤ n ∧ n ≤ 100000 * k
def J04b (t : List Int) (d : D) (rho : List Int) (x2 x6 x7 : Option D) (m : Int) (R : Store) (g : GE) (S : Store) : Prop := ∃ mu nu n, Shp mu ∧ Shp nu ∧ mu.length ≤ 300 ∧ nu.length ≤ 300 ∧ g = [some d, some (.ref 0), x2, some (eS rho), some (eS mu), some (eS nu), x6, x7] ∧ S = so t n :: R ∧ 0 ≤ n ∧ n ≤ m
theorem law04_ok {F : Fn} {f0 f1 f2 f3 f4 f5 f6 f7 : Nat} (h0 : StripN (F f0)) (h1 : StoN (F f1)) (h2 : StoN (F f2)) (h3 : ∀ t, TapeOk t → TakeN t (F f3)) (h4 : ∀ t, TapeOk t → OverN t (F f4)) (h5 : ∀ t, TapeOk t → ShapeN t (F f5)) (h6 : ∀ t, TapeOk t → BelowN t (F f6)) {d : D} (h7 : TapeN (F f7) d) :
    wpR (runD F (K04.d_law f0 f1 f2 f3 f4 f5 f6 f7) [d] []) fun r S' => r = .bl true := by
  have hz := sl_sz
  refine wpR_def rfl ?_
  simp only [K04.d_law]
  rw [Then_cons]
  simp [exS, ev, evs]
  refine wpR_mono h7 fun r S' ⟨e, t, er, ht⟩ => ?_
  subst e; subst er
  simp [show 2 ≤ sizeLine by omega]
  rw [Then_cons]
  simp [exS, ev, evs, evI]
  refine ⟨rngOk_small (by omega) (by omega), ?_⟩
  refine wpS_rng (J04 t d) ⟨none, none, none, none, none, none, 0, [], rfl, rfl, by omega, by omega⟩ (fun k g S' hk hJ => ?_) (fun g S' hJ => ?_)
  · obtain ⟨x2, x3, x4, x5, x6, x7, n, R, rfl, rfl, hn0, hn⟩ := hJ
    rw [wpS_blk, Then_cons]
    simp [exS, ev, evs, frz_lit lit4, show 4 ≤ sizeLine by omega]
    refine (h3 t ht 4 (by omega)).go hn0 (by omega) fun v n1 a1 a2 ⟨v0, v1⟩ => ?_
    refine idx_lit v0 (by simpa using v1) fun z hz => ?_
    obtain ⟨m, rfl, m0, m1⟩ : ∃ i, z = D.int i ∧ 5 ≤ i ∧ i ≤ 21 := by
      simp at hz
      rcases hz with rfl | rfl <;> exact ⟨_, rfl, by omega, by omega⟩
    refine (h5 t ht m (by omega) (by omega)).go (by omega) (by omega) fun rho n2 b1 b2 ⟨r1, r2⟩ => ?_
    rw [Then_cons]
    simp [exS, ev, evs]
    refine (h6 t ht rho r1 (by omega)).go (by omega) (by omega) fun mu n3 c1 c2 ⟨mu1, mu2, mu3⟩ => ?_
    rw [Then_cons]
    simp [exS, ev, evs]
    refine (h6 t ht rho r1 (by omega)).go (by omega) (by omega) fun nu n7 d1 d2 ⟨nu1, nu2, nu3⟩ => ?_
    rw [Then_cons]
    refine wpS_then (N' := J04b t d rho (some (.int (k : Int))) x6 x7 (n + 10000) R) ?_ ?_
    · simp [exS, ev, evs, evT]
      refine (h3 t ht 3 (by omega)).go (by omega) (by omega) fun w n8 g1 g2 ⟨w0, w1⟩ => ?_
      simp
      refine ⟨fun q => ?_, fun q => ?_⟩
      · rw [wpS_blk, Then_cons]
        simp [exS, ev, evs]
        refine wpR_frzB (soB t) ?_
        try simp
        refine (h5 t ht 5 (by omega) (by omega)).go (by omega) (by omega) fun sh n9 g3 g4 ⟨sh1, sh2⟩ => ?_
        try simp
        refine (h4 t ht rho r1 (by omega)).go (by omega) (by omega) fun ov n9b g3b g4b ⟨ov1, ov2, ov3⟩ => ?_
        simp [show 3 ≤ sizeLine by omega]
        refine ⟨n9b, rfl, ?_⟩
        rw [lit3t]
        try simp
        refine (h3 t ht 3 (by omega)).go (by omega) (by omega) fun i1 n10 g5 g6 ⟨i10, i11⟩ => ?_
        refine idx_lit i10 (by simpa using i11) fun z hz => ?_
        obtain ⟨mu', rfl, hm1, hm2⟩ : ∃ m', z = T D.int m' ∧ Shp m' ∧ m'.length ≤ 300 := by
          simp at hz
          rcases hz with rfl | rfl | rfl
          · exact ⟨_, rfl, sh1, by omega⟩
          · exact ⟨_, rfl, mu1, by omega⟩
          · exact ⟨_, rfl, ov1, by omega⟩
        rw [Then_cons]
        simp [exS, ev, evs]
        refine wpR_frzB (soB t) ?_
        try simp
        refine (h5 t ht 5 (by omega) (by omega)).go (by omega) (by omega) fun sg n11 g7 g8 ⟨sg1, sg2⟩ => ?_
        try simp
        refine (h4 t ht rho r1 (by omega)).go (by omega) (by omega) fun bl n12 g9 g10 ⟨bl1, bl2, bl3⟩ => ?_
        simp [show 3 ≤ sizeLine by omega]
        refine ⟨n12, rfl, ?_⟩
        rw [lit3t]
        try simp
        refine (h3 t ht 3 (by omega)).go (by omega) (by omega) fun i2 n13 g11 g12 ⟨i20, i21⟩ => ?_
        refine idx_lit i20 (by simpa using i21) fun z hz => ?_
        obtain ⟨nu', rfl, hn1, hn2⟩ : ∃ m', z = T D.int m' ∧ Shp m' ∧ m'.length ≤ 300 := by
          simp at hz
          rcases hz with rfl | rfl | rfl
          · exact ⟨_, rfl, sg1, by omega⟩
          · exact ⟨_, rfl, nu1, by omega⟩
          · exact ⟨_, rfl, bl1, by omega⟩
        exact ⟨mu', nu', n13, hm1, hn1, hm2, hn2, rfl, rfl, by omega, by omega⟩
      · try simp [exSs]
        exact ⟨mu, nu, n8, mu1, nu1, by omega, by omega, rfl, rfl, by omega, by omega⟩
    rintro g S' ⟨mu', nu', n8, m1', m2', l1, l2, rfl, rfl, hn8, hn9⟩
    have hd1 := fun S => h2 S mu' nu' rho m1' m2' r1 (by omega) (by omega) (by omega)
    have ht1 := fun S => h1 S mu' nu' rho m1' m2' r1 (by omega) (by omega) (by omega)
    have nd : ∀ m : Str, ((([("refused", Fl.str m)] : List (Str × Fl)).map (·.1)).Nodup) := fun m => by simp
    have nref : ∀ (m : Str) S, copR .ne (refD4 m) (refD4 m) S = .ok (.bl false) S := fun m S => co_neDct4 (nd m)
    have nit : ∀ (m : Str) S, isR .tuple (refD4 m) S = .ok (.bl false) S := fun m S => rfl
    have fin : ∀ x6' x7', J04 t d (k + 1) [some d, some (.ref 0), some (.int (k : Int)), some (eS rho), some (eS mu'), some (eS nu'), x6', x7'] (so t n8 :: R) := fun x6' x7' => ⟨_, _, _, _, _, _, n8, R, rfl, rfl, by omega, by omega⟩
    have bad : ∀ m : Str, dueE mu' nu' rho = refD4 m → wpS (exS F (.asg (.one 6) (.call f2 (.cons (.var 4) (.cons (.var 5) (.cons (.var 3) .nil))))) [some d, some (.ref 0), some (.int (k : Int)), some (eS rho), some (eS mu'), some (eS nu'), x6, x7] (so t n8 :: R)) (fun g S => g = [some d, some (.ref 0), some (.int (k : Int)), some (eS rho), some (eS mu'), some (eS nu'), some (refD4 m), x7] ∧ S = so t n8 :: R) (fun _ _ => False) := fun m e => by
      rw [e] at hd1
      simp [exS, ev, evs, hd1]
    rw [Then_cons]
    by_cases q : StripP rho mu' ∧ StripP rho nu'
    · have ed : dueE mu' nu' rho = eSc (shS mu' nu' rho, shC mu' nu' rho) := by unfold dueE; rw [if_neg (fun z => z q.1), if_neg (fun z => z q.2)]
      rw [ed] at hd1 ht1
      have sl := shS_len mu' nu' rho
      have hk1 := fun S => h0 S mu' (shS mu' nu' rho) (by omega) (by omega)
      have hk2 := fun S => h0 S nu' (shS mu' nu' rho) (by omega) (by omega)
      simp only [decide_eq_true (shS_mu m1' q.1 q.2), decide_eq_true (shS_nu m1' q.1 q.2)] at hk1 hk2
      have hc : ¬ shC mu' nu' rho < 0 := by
        have a1 := (q.1 1 (by omega)).1
        have a2 := (q.2 1 (by omega)).1
        unfold shC; omega
      have i0 : ∀ S, idxR (eSc (shS mu' nu' rho, shC mu' nu' rho)) (.int 0) S = .ok (eS (shS mu' nu' rho)) S := fun S => rfl
      have i1 : ∀ S, idxR (eSc (shS mu' nu' rho, shC mu' nu' rho)) (.int 1) S = .ok (.int (shC mu' nu' rho)) S := fun S => rfl
      simp [exS, ev, evs, hd1]
      rw [Then_cons]
      simp [exS, ev, evs, ht1]
      rw [Then_cons]
      simp [exS, exSs, ev, evs, evT, evTO]
      rw [Then_cons]
      simp [exS, exSs, ev, evs, evT, evTO, i0, i1, hk1, hk2, hc]
      simpa using fin (some (eSc (shS mu' nu' rho, shC mu' nu' rho))) (some (eSc (shS mu' nu' rho, shC mu' nu' rho)))
    · obtain ⟨m, ed⟩ : ∃ m, dueE mu' nu' rho = refD4 m := by
        unfold dueE
        by_cases q1 : StripP rho mu'
        · rw [if_neg (fun z => z q1), if_pos (fun z => q ⟨q1, z⟩)]
          exact ⟨_, rfl⟩
        · rw [if_pos q1]
          exact ⟨_, rfl⟩
      rw [ed] at hd1 ht1
      simp [exS, ev, evs, hd1]
      rw [Then_cons]
      simp [exS, ev, evs, ht1]
      rw [Then_cons]
      simp [exS, exSs, ev, evs, evT, evTO, nref, nit]
      rw [Then_cons]
      simp [exS, exSs, ev, evs, evT, evTO, nit]
      simpa using fin _ _
  · obtain ⟨x2, x3, x4, x5, x6, x7, n, R, rfl, rfl, hn0, hn⟩ := hJ
    rw [Then_cons]
    simp [exS, ev, evs]
end Li
end

section
set_option Elab.async false
set_option linter.all false
set_option maxRecDepth 100000
set_option maxHeartbeats 0
namespace K04
open PySem PySem.Spec PyProof.Rows L2 Li
theorem c_part (k : Nat) : PartN (Li.run fds (k + 1) i_part) := part_n (F := Li.run fds k)
theorem c_lawpart (k : Nat) : PartN (Li.run fds (k + 1) i_law_part) := lawpart_n (F := Li.run fds k)
theorem c_is (k : Nat) : StripN (Li.run fds (k + 2) i_is_strip) := isstrip_n (F := Li.run fds (k + 1)) (c_part k)
theorem c_lst (k : Nat) : StripN (Li.run fds (k + 2) i_law_strip) := lawstrip_n (F := Li.run fds (k + 1)) (c_lawpart k)
theorem c_draw (k : Nat) : DrawN (Li.run fds (k + 1) i_law_draw) := draw_n (F := Li.run fds k)
theorem c_take (k : Nat) (t : List Int) (ht : TapeOk t) : TakeN t (Li.run fds (k + 2) i_law_take) := take_n ht (F := Li.run fds (k + 1)) (c_draw k)
theorem c_trim (k : Nat) : TrimN (Li.run fds (k + 1) i_law_trim) := trim_n (F := Li.run fds k)
theorem c_trimr (k : Nat) : TrimR (Li.run fds (k + 1) i_law_trim) := trim_r (F := Li.run fds k)
theorem c_trimmed (k : Nat) : TrimmedR (Li.run fds (k + 1) i_trimmed) := trimmed_r (F := Li.run fds k)
theorem c_bet (k : Nat) (t : List Int) (ht : TapeOk t) : BetN t (Li.run fds (k + 3) i_law_between) := bet_n (F := Li.run fds (k + 2)) (c_take k t ht)
theorem c_shape (k : Nat) (t : List Int) (ht : TapeOk t) : ShapeN t (Li.run fds (k + 3) i_law_shape) := shape_n (F := Li.run fds (k + 2)) (c_trim (k + 1)) (c_take k t ht)
theorem c_over (k : Nat) (t : List Int) (ht : TapeOk t) : OverN t (Li.run fds (k + 4) i_law_over) := over_n (F := Li.run fds (k + 3)) (c_trimr (k + 2)) (c_bet k t ht) (c_lawpart (k + 2)) (c_take (k + 1) t ht)
theorem c_below (k : Nat) (t : List Int) (ht : TapeOk t) : BelowN t (Li.run fds (k + 4) i_law_below) := below_n (F := Li.run fds (k + 3)) (c_trimr (k + 2)) (c_bet k t ht) (c_lawpart (k + 2))
theorem c_shx (k : Nat) : ShxN (Li.run fds (k + 3) i_shrink) := shx_n (F := Li.run fds (k + 2)) (c_part (k + 1)) (c_trimmed (k + 1)) (c_is k)
theorem c_sto (k : Nat) : StoN (Li.run fds (k + 4) i_law_told) := sto_n (F := Li.run fds (k + 3)) (c_shx k)
theorem c_sdu (k : Nat) : StoN (Li.run fds (k + 3) i_law_due) := sdu_n (F := Li.run fds (k + 2)) (c_lawpart (k + 1)) (c_trimr (k + 1)) (c_lst k)
theorem law_runs (ns : List Int) (d : Li.D) (hl : ns.length ≤ 63) (hb : ∀ z ∈ ns, Builtin.Int.intBits z ≤ 1048576) (hd : d = .lst (ns.map D.int) ∨ d = .frz (ns.map D.int)) : ∃ S', Li.run fds 12 i_law [d] [] = .ok (.bl true) S' := by
  have h := law04_ok (F := Li.run fds 11) (c_lst 9) (c_sto 7) (c_sdu 8) (c_take 9) (c_over 7) (c_shape 8) (c_below 7) (d := d) (show TapeN (Li.run fds 11 i_law_tape) d from tape_n (F := Li.run fds 10) hd hl)
  obtain ⟨r, S', e, hr⟩ := wpR_get h
  subst hr
  exact ⟨S', e⟩
end K04
open PySem PySem.W PySem.Calls PyProof.Rows
theorem PySem.Challenge.cw_walkhands_k04_the_rule_backwards_holds : PySem.Challenge.rw_walkhands_k04_the_rule_backwards.Holds := by
  w_on; o_law
  refine HandSHeadRun.head_any (r := OpenLaw.row PySem.Challenge.rw_walkhands_k04_the_rule_backwards) (q := K04.qv) (H := K04.hk) (ob := K04.ob) (M := 3200) (loose := K04.names) (d := HandSHeadRun.topDef (OpenLaw.row PySem.Challenge.rw_walkhands_k04_the_rule_backwards).prog 22) (kwd := []) K04.ob_eq
    (by kernel_rfl) (fun s => by kernel_rfl) K04.hrun (by kernel_rfl) (by kernel_rfl) (by kernel_rfl) (by rfl) (by first | assumption | decide +kernel) (by decide +kernel) ⟨rfl, rfl, rfl, rfl, rfl, by decide +kernel⟩ ?hw ?hc
  case hw => w_witness2
  case hc =>
    refine LamX.walk_ofTsE (l := PySem.Challenge.rw_walkhands_k04_the_rule_backwards) (n := 63) (k := 24) (x := "_law_script") (CX := fun w => L2.CX (PySem.Challenge.rw_walkhands_k04_the_rule_backwards).prog w) rfl (by decide) (by kernel_rfl) ⟨rfl, by decide, by decide⟩ ?F (fun w H s e s' z => by obtain ⟨_, _, _, _, _, _, _, _, _, _, _, _, zz⟩ := z; exact zz.elim)
    intro w mg fa h Y G hmg0
    obtain ⟨K, KX, c⟩ := Y
    have hmg : mg ("law" : PySem.Str) = some (.ref fa) := by
      have e : (HandSHeadRun.topDef (OpenLaw.row PySem.Challenge.rw_walkhands_k04_the_rule_backwards).prog 22).name = ("law" : PySem.Str) := by kernel_rfl
      rw [← e]
      exact hmg0
    exact ⟨K, KX, Li.law_endE (xc := K04.xc) K04.tbl K04.iv 12 K04.i_law _ rfl rfl KX G hmg c K04.tbl_all K04.tbl_bd K04.law_runs⟩
end
