import PyProof.Rows.All
import Wide.All
import OpenK.AllK
import Wide.FinOn
import PyProof.Conv_int
import KE.KIntText
import PyProof.Rows.Digits
import PyProof.EnumIter
import PyProof.EnumStmt
import PyProof.EnumMake
import HandS.Iter
import HandS.SortKw
import PyProof.Rows.CallKwBuiltin
import KE.GoesMore
import KE.GoesEnum
import KE.GoesEnumKw
import PyProof.EnumFor
import HandS.SetFor
import HandS.Strs
import PyProof.Rows.SetFrom
import HandS.Zip0
import HandS.Zip
import KE.KDictZip
import KE.KItemsList
import KE.KTurns
import HandS.ForMost
import HandS.SortOrd
import HandS.SortRule
import HandS.SortInts
import HandS.Gcd
import HandS.CallLocal
import KE.KSortTup
import KE.KMathGC
import HandS.Star
import HandS.Rev
import HandS.RevTup
import HandS.StrMore
import HandS.IsInst
import HandS.Flow
import HandS.Style
import HandS.TupAny
import HandS.Wide
import HandS.Replace
import HandS.ReplaceLit
import HandS.ReplaceDef
import HandS.WrittenGet
import PyProof.EqLayable
import HandS.Deep
import PyProof.Rows.StrIntSpec
import PyProof.StrOps2
import HandS.More
import HandS.WideBits
import HandS.List
import HandS.Exc
import HandS.ExcInit
import HandS.Dict
import HandS.Defaults
import HandS.FStr
import KE.KxField
import HandS.TryOnly
import HandS.Head0
import HandS.Head1
import HandS.Head2
import HandS.HeadEnd
import HandS.HeadHook1
import HandS.HeadHook2
import HandS.HeadHook3
import KE.KIsAll
import KE.KTryMore
import HandS.ExcIs
import HandS.ExcField
import HandS.Words
import HandS.CallSlots
import HandS.ExcOwn
import HandS.WordsExc
import KE.IntTextLaws
import HandS.Ends
import HandS.Base
import HandS.Call
import PySem.Challenge.RW_surewater_k00_tides_waters
set_option Elab.async false
set_option linter.all false
set_option maxRecDepth 100000
set_option maxHeartbeats 4000000
/-! int(text) of any length, where the limit on digits stands as it was -/
namespace TW
open PySem PySem.NumText PyProof.Rows PySem.Calls
section
variable {M : Model} {A : Around} {E : Value → Shared → Prop} {s : Shared}
theorem digits_limit {Q : Nat → Shared → Prop} (nd : s.heap.NoDigits) (h : Q 4300 s) : wpAny M A Builtin.intMaxStrDigits Q E s := by
  obtain ⟨mc, h1, h2⟩ := nd
  unfold Builtin.intMaxStrDigits
  refine wpAny_bind (wpAny_nsGet h1 ?_)
  rw [h2]
  exact wpAny_pure h
theorem from_text {Q : Value → Shared → Prop} {v : Value} {text : List Nat} {n : Int} (nd : s.heap.NoDigits) (hs : ¬ (text.takeWhile (· != 0)).length ≤ 640) (hr : (int_private% "readNumeral") 4300 10 (text.takeWhile (· != 0)) = (int_private% "Numeral.value") n)
    (ha : ((text.takeWhile (· != 0)).length == text.length) = true) (h : Q (.int n s.toks) { s with toks := s.toks + 1 }) :
    wpAny M A ((int_private% "intFromText") v text 10) Q E s := by
  obtain ⟨hp, g, d, tk, os⟩ := s
  repeat (any_goals (first
    | assumption
    | with_reducible refine wpAny_ite_false (decide_eq_false hs) ?_
    | with_reducible refine digits_limit nd ?_
    | with_reducible refine wpAny_ite_true (decide_eq_true ha) ?_
    | wp_step))
  rw [hr]
  dsimp only
  repeat (any_goals (first
    | assumption
    | with_reducible refine wpAny_ite_true (decide_eq_true ha) ?_
    | wp_step))
end
section
variable {M : Model} {A : Around} {E : Value → Shared → Prop} {s : Shared}
theorem from_any {Q : Value → Shared → Prop} {v : Value} {x : PySem.Str} {n : Int} (nd : s.heap.NoDigits) (hr : (int_private% "readNumeral") (numLimitOf x) 10 (numSeenOf x) = (int_private% "Numeral.value") n)
    (ha : ((numSeenOf x).length == (numTextOf x).length) = true) (h : Q (.int n s.toks) { s with toks := s.toks + 1 }) :
    wpAny M A ((int_private% "intFromText") v (numTextOf x) 10) Q E s := by
  by_cases hl : (numSeenOf x).length ≤ 640
  · rw [show numLimitOf x = 0 from if_pos hl] at hr
    exact PySem.W.KIN.wp_text hl hr ha h
  · rw [show numLimitOf x = 4300 from if_neg hl] at hr
    exact from_text nd hl hr ha h
end
/-- held from the walk's eyes -/
structure Far (p : Prop) : Prop where
  near : p
def limS (n : Int) : PySem.Spec := fun _ R s => s.heap.NoDigits ∧ R (.ok (.ret (.int n s.toks))) { s with toks := s.toks + 1 }
theorem limS_meets {x : PySem.Str} {u : Tok} {n : Int} (hn : PySem.intText? x = some n) (hz : x.length ≤ sizeLine) : Meets (Builtin.«int.__new__» ⟨[.type "int", .str x u], []⟩) (limS n) := by
  intro prog w A R s h
  obtain ⟨nd, h⟩ := h
  have g1 := F.conv_sub_int
  have g2 := F.madeHere_int
  have g3 := PySem.W.KIN.str_int
  have g4 := PySem.W.KIN.str_idx
  have g5 := PySem.W.KIN.str_trunc
  have g6 : typeOf (.str x u) = pure (.type "str") := rfl
  have key : (int_private% "readNumeral") (numLimitOf x) 10 (numSeenOf x) = (int_private% "Numeral.value") n ∧ ((numSeenOf x).length == (numTextOf x).length) = true := by
    rcases readAny x hz with ⟨m, h1, h2, h3⟩ | ⟨h1, _⟩
    · rw [hn] at h1
      cases h1
      exact ⟨h3, h2⟩
    · rw [hn] at h1; cases h1
  have far := Far.mk (And.intro nd key)
  obtain ⟨hp, g, d, tk, os⟩ := s
  clear key nd hn hz
  repeat (any_goals (first
    | assumption
    | ((with_reducible show wpAny _ _ ((int_private% "intFromText") _ _ _) _ _ _); refine from_any far.near.1 far.near.2.1 far.near.2.2 ?_)
    | wp_step))
section
variable {prog : Program} {w : World} {A : Around} {E : Value → Shared → Prop} {s : Shared}
/-- int(text), the digits as many as one likes -/
theorem int_of_text {Q : Value → Shared → Prop} {x : PySem.Str} {t : Tok} {n : Int} (nd : s.heap.NoDigits) (hz : x.length ≤ sizeLine) (hn : PySem.intText? x = some n) (h : Q (.int n s.toks) { s with toks := s.toks + 1 }) :
    wpAny (model prog w) A (call (.type "int") [.str x t]) Q E s := call_int_1 (limS_meets hn hz) ⟨nd, rfl, h⟩
end
end TW
set_option Elab.async false
set_option linter.all false
set_option maxRecDepth 100000
/-! enumerate from another number than nought -/
namespace TEn
open PySem
section
variable {prog : Program} {w : World} {A : Around} {E : Value → Shared → Prop} {s : Shared}
theorem en_next {e it l : Addr} {i : Nat} {c : Int} {items : Array Value} {x old : Value} {Q : Value → Shared → Prop} (he : IsEnum s.heap e it c old) (hit : s.heap.IsListIter it l i) (hl : s.heap.IsList l items) (hx : items[i]? = some x) (hne : e ≠ it) (hQ : ∀ h', IsEnumOut h' e it (c + 1) x s.heap.objs.size → h'.IsListIter it l (i + 1) → h'.get? s.heap.objs.size = some { cls := .type "tuple", data := .seq #[.int c s.toks, x] } → h'.objs.size = s.heap.objs.size + 1 → (∀ b o, b ≠ e → b ≠ it → s.heap.get? b = some o → h'.get? b = some o) → Q (.ref s.heap.objs.size) { s with heap := h', toks := s.toks + 1 }) : wpAny (model prog w) A (Builtin.«enumerate.__next__» ⟨[.ref e], []⟩) (fun fin s' => ∃ v, fin = .done (.ret v) ∧ Q v s') E s := by
  obtain ⟨hp, gg, dd, tk, oo⟩ := s
  (show wpAny _ _ (field (.ref e) 2 >>= _) _ _ _)
  (refine wpAny_bind (wpAny_field he rfl (x := .ref it) rfl ?_))
  (refine wpAny_bind (wpAny_nextOf_list_item hit hl hx fun m1 j1 u1 => ?_))
  (replace u1 : Heap.SameBut it hp m1 := u1)
  have w1 : IsEnum m1 e it c old := (u1.2 e hne).trans he
  (show wpAny _ _ (field (.ref e) 3 >>= _) _ _ ⟨m1, gg, dd, tk, oo⟩)
  (refine wpAny_bind (wpAny_field w1 rfl (x := rawInt c) rfl ?_))
  (show wpAny _ _ (field (.ref e) 4 >>= _) _ _ ⟨m1, gg, dd, tk, oo⟩)
  (refine wpAny_bind (wpAny_field w1 rfl (x := .none) rfl ?_))
  (show wpAny _ _ (mkInt c >>= _) _ _ ⟨m1, gg, dd, tk, oo⟩)
  (refine wpAny_bind (wpAny_mkInt ?_))
  (show wpAny _ _ (setField (.ref e) 3 (rawInt (c + 1)) >>= _) _ _ ⟨m1, gg, dd, tk + 1, oo⟩)
  (refine wpAny_bind (wpAny_setField_rec w1 (by simp) fun m2 w2 u2 => ?_))
  (replace u2 : Heap.SameBut e m1 m2 := u2)
  (replace w2 : IsEnum m2 e it (c + 1) old := w2)
  (show wpAny _ _ (setField (.ref e) 4 .none >>= _) _ _ ⟨m2, gg, dd, tk + 1, oo⟩)
  (refine wpAny_bind (wpAny_setField_rec w2 (by simp) fun m3 w3 u3 => ?_))
  (replace u3 : Heap.SameBut e m2 m3 := u3)
  (replace w3 : IsEnum m3 e it (c + 1) old := w3)
  (show wpAny _ _ (newTuple [.int c tk, x] >>= _) _ _ ⟨m3, gg, dd, tk + 1, oo⟩)
  (refine wpAny_bind (wpAny_newTuple ?_))
  have w4 : IsEnum (m3.push { cls := .type "tuple", data := .seq #[.int c tk, x] }) e it (c + 1) old := Heap.get?_push_of_some _ w3
  (generalize q4 : m3.push { cls := .type "tuple", data := .seq #[.int c tk, x] } = m4 at w4)
  have hsz : m3.objs.size = hp.objs.size := by rw [u3.1, u2.1, u1.1]
  have hel : e < hp.objs.size := Heap.lt_size he
  have t4 : m4.get? hp.objs.size = some { cls := .type "tuple", data := .seq #[.int c tk, x] } := by rw [← q4, ← hsz]; exact Heap.get?_push_size _ rfl
  have z4 : m4.objs.size = hp.objs.size + 1 := by rw [← q4, Heap.size_push, hsz]
  have y4 : ∀ b o, b ≠ e → b ≠ it → hp.get? b = some o → m4.get? b = some o := fun b o hbe hbi hb => by
    (rw [← q4]; exact Heap.get?_push_of_some _ (u3.extBut b o hbe (u2.extBut b o hbe (u1.extBut b o hbi hb))))
  have j4 : m4.IsListIter it l (i + 1) := by
    (rw [← q4]; obtain ⟨o, ho, r⟩ := (j1.extBut u2.extBut (Ne.symm hne)).extBut u3.extBut (Ne.symm hne); exact ⟨o, Heap.get?_push_of_some _ ho, r⟩)
  (show wpAny _ _ (Builtin.SmallTypes.ownedTupleIsFree (.ref e) >>= _) _ _ ⟨m4, gg, dd, tk + 1, oo⟩)
  (rw [hsz])
  (clear q4 w3 u3 w2 u2 w1 u1 j1 hsz m3 m2 m1)
  (refine wpAny_bind ?_)
  · (unfold Builtin.SmallTypes.ownedTupleIsFree)
    (refine wpAny_bind (wpAny_field w4 rfl (x := .none) rfl (wpAny_pure ?_)))
    (simp only [if_true])
    (refine wpAny_bind (wpAny_rule ?_))
    (refine wpAny_bind (wpAny_field w4 rfl (x := old) rfl ?_))
    (refine wpAny_bind (wpAny_setField_rec w4 (by simp) fun m5 w5 u5 => ?_))
    (replace u5 : Heap.SameBut e m4 m5 := u5)
    (replace w5 : IsEnum m5 e it (c + 1) x := w5)
    (show wpAny _ _ (Builtin.SmallTypes.ownedTupleHandOut (.ref e) (.ref hp.objs.size) >>= _) _ _ ⟨m5, gg, dd, tk + 1, oo⟩)
    (refine wpAny_bind ?_)
    · (unfold Builtin.SmallTypes.ownedTupleHandOut)
      (refine wpAny_bind (wpAny_setField_rec w5 (by simp) fun m6 w6 u6 => ?_))
      (replace u6 : Heap.SameBut e m5 m6 := u6)
      (replace w6 : IsEnumOut m6 e it (c + 1) x hp.objs.size := w6)
      (refine wpAny_setField_rec w6 (by simp) fun m7 w7 u7 => ?_)
      (replace u7 : Heap.SameBut e m6 m7 := u7)
      (replace w7 : IsEnumOut m7 e it (c + 1) x hp.objs.size := w7)
      (refine wpAny_bind (wpAny_letGo (wpAny_pure ⟨_, rfl, hQ m7 w7 ?_ ?_ ?_ ?_⟩)))
      · (exact ((j4.extBut u5.extBut (Ne.symm hne)).extBut u6.extBut (Ne.symm hne)).extBut u7.extBut (Ne.symm hne))
      · (exact u7.extBut _ _ (Nat.ne_of_gt hel) (u6.extBut _ _ (Nat.ne_of_gt hel) (u5.extBut _ _ (Nat.ne_of_gt hel) t4)))
      · (rw [u7.1, u6.1, u5.1, z4])
      · (exact fun b o hbe hbi hb => u7.extBut b o hbe (u6.extBut b o hbe (u5.extBut b o hbe (y4 b o hbe hbi hb))))

theorem en_item {e it l : Addr} {i : Nat} {c : Int} {items : Array Value} {x old : Value} {Q : Option Value → Shared → Prop} (he : IsEnum s.heap e it c old) (hit : s.heap.IsListIter it l i) (hl : s.heap.IsList l items) (hx : items[i]? = some x) (hne : e ≠ it)
    (hQ : ∀ k, IsEnumOut k e it (c + 1) x s.heap.objs.size → k.IsListIter it l (i + 1) → k.get? s.heap.objs.size = some { cls := .type "tuple", data := .seq #[.int c s.toks, x] } → k.objs.size = s.heap.objs.size + 1 → (∀ b o, b ≠ e → b ≠ it → s.heap.get? b = some o → k.get? b = some o) → Q (some (.ref s.heap.objs.size)) { s with heap := k, toks := s.toks + 1 }) :
    wpAny (model prog w) A (pyNext (.ref e)) Q E s := by
  have tt : s.TypeIs (.ref e) "enumerate" := ⟨_, he, rfl⟩
  unfold pyNext
  exact (wpAny_bind (wpAny_attempt (wpAny_callSpecial?_slot (name := Str.ofString "__next__") tt F.slot_enumerate_next (wpAny_call_entry F.slot_enumerate_next tt F.entry_enumerate_next (en_next he hit hl hx hne fun k a b c d y => wpAny_pure (hQ k a b c d y)) (F.args_enumerate_next_1 _)))))
theorem en_end {e it l : Addr} {i : Nat} {c : Int} {items : Array Value} {old : Value} {Q : Option Value → Shared → Prop} (hh : A.handled = none) (he : IsEnum s.heap e it c old) (hit : s.heap.IsListIter it l i) (hl : s.heap.IsList l items) (hx : items[i]? = none)
    (hQ : ∀ k, Heap.ExtBut it s.heap k → Q none { s with heap := k }) : wpAny (model prog w) A (pyNext (.ref e)) Q E s := by
  have tt : s.TypeIs (.ref e) "enumerate" := ⟨_, he, rfl⟩
  unfold pyNext
  refine (wpAny_bind (wpAny_attempt (wpAny_callSpecial?_slot (name := Str.ofString "__next__") tt F.slot_enumerate_next (wpAny_call_entry F.slot_enumerate_next tt F.entry_enumerate_next ?_ (F.args_enumerate_next_1 _)))))
  show wpAny _ _ (field (.ref e) 2 >>= fun _ => _) _ _ _
  refine (wpAny_bind (wpAny_field he rfl (x := .ref it) rfl ?_))
  refine (wpAny_bind (wpAny_nextOf_list_end hh hit hl hx fun k x he' hx' => ?_))
  obtain ⟨ob, ho, hc⟩ := hx'
  refine (wpAny_bind (wpAny_isInstance (T := "StopIteration") (b := true) ⟨ob, ho, hc⟩ isSubtype_stop ?_))
  exact (wpAny_pure (hQ _ he'))

end
end TEn
set_option Elab.async false
set_option linter.all false
set_option maxRecDepth 100000
/-! enumerate from another number than nought: made -/
namespace TEn
open PySem
open Sem (wp)
open AutoSeq1 (wpAny_loadPart')
theorem en_new (l : Addr) (items : Array Value) (n : Nat) (dct : Option Addr) (sl : Array (Option Value)) (c : Int) (t : Tok) (hc : Builtin.SmallTypes.fitsIndex c = true) : Meets (Builtin.«enumerate.__new__» ⟨[.type "enumerate", .ref l], [(Str.ofString "start", .int c t)]⟩) (fun _ R s => s.heap.get? l = some { cls := .type "list", dict := dct, data := .seq items n, slots := sl } ∧ R (.ok (.ret (.ref (s.heap.push { cls := .type "list_iterator", data := .fields #[.ref l, .int 0 0] }).objs.size))) { s with heap := (s.heap.push { cls := .type "list_iterator", data := .fields #[.ref l, .int 0 0] }).push { cls := .type "enumerate", data := .fields #[.none, .bool false, .ref s.heap.objs.size, rawInt c, .none, .none] } }) :=
  .of_wp fun prog w A R s h => by
    obtain ⟨hp, gg, dd, tk, oo⟩ := s
    obtain ⟨hl, h⟩ := h
    have sb := sub_enumerate
    have hL : Heap.IsList (Shared.heap ⟨hp, gg, dd, tk, oo⟩) l items := ⟨_, hl, rfl, n, rfl⟩
    have nf : (!Builtin.SmallTypes.fitsIndex c) = false := by rw [hc]; rfl
    wp_walk using wpAny_loadPart' hl
    refine wpAny_stack_any fun st => wpAny_pure ?_
    split
    · rename_i c0 _ _ _ _ _
      cases (c0 == Value.type "enumerate")
      · wp_walk using wpAny_loadPart' hl, wpAny_pyIter_list hL
        exact ⟨_, rfl, h⟩
      · wp_walk using wpAny_loadPart' hl, wpAny_pyIter_list hL
        exact ⟨_, rfl, h⟩
    · wp_walk using wpAny_loadPart' hl, wpAny_pyIter_list hL
      exact ⟨_, rfl, h⟩
section
variable {prog : Program} {w : World} {A : Around} {E : Value → Shared → Prop} {s : Shared}
/-- object.__init__ with what stood in the call -/
theorem en_init {T newId : String} {self : Value} {rest : List Value} {kw : List (Str × Value)} (hl : typeLookup (.type T) "__init__" = pure (some (.builtin "object.__init__"))) (hm : Bind.madeBy (.type T) = pure (some newId)) (hne : (some newId != some "object.__new__") = true) :
    Meets (Builtin.«object.__init__» ⟨self :: rest, kw⟩) (fun _ R s => s.TypeIs self T ∧ R (.ok (.ret .none)) s) := by
  refine (Meets.of_wp fun prog w A R s hs => ?_)
  obtain ⟨ht, hq⟩ := hs
  cases rest with
  | nil =>
    cases kw with
    | nil => exact (wpAny_pure ⟨_, rfl, hq⟩)
    | cons k kw =>
      repeat (any_goals (first | assumption | wp_step))
      exact ⟨_, rfl, hq⟩
  | cons a rest =>
    repeat (any_goals (first | assumption | wp_step))
    exact ⟨_, rfl, hq⟩
/-- a built-in type is called, with keywords -/
theorem en_callT {T newId initId : String} {Bn Bi : Builtin} {args : List Value} {kw : List (Str × Value)} {S : Spec} {Q Q1 : Value → Shared → Prop} (ft : TypeCalled T newId initId) (hct : checkTypeCall T ⟨args, kw⟩ = pure ()) (hcn : checkBuiltinCall newId ⟨.type T :: args, kw⟩ = pure ())
    (eN : entryFor table newId = some Bn) (eI : entryFor table initId = some Bi) (gn : Meets (Bn ⟨.type T :: args, kw⟩) S) (h : S A.in1 (wants Q1 E) s)
    (hnext : ∀ obj s1, Q1 obj s1 → s1.TypeIs obj T ∧ argsOk initId ⟨obj :: args, kw⟩ ∧ ∃ Si, Meets (Bi ⟨obj :: args, kw⟩) Si ∧ Si A.in1 (wants (fun r s2 => r = .none ∧ Q obj s2) E) s1) :
    wpAny (model prog w) A (call (.type T) args kw) Q E s := by
  obtain ⟨c, tl, hmro⟩ := ft.mro
  have md := ft.made
  have sb := ft.sub
  refine (wpAny_call (codeAny_of_tree ?_))
  show wpAny _ _ (callAny (.type T) _) _ _ _ 
  refine (wpAny_pure ⟨Code.quiet_builtin _ (by decide +kernel), codeAny_builtin F.entry_type_call ?_⟩)
  rw [(Around.under_plain (weight_type_call_type T args kw) (units_type_call_type T args kw))]
  have a1 := ft.notType
  have a2 := ft.canCreate
  repeat (any_goals (first | assumption | wp_step))
  refine (codeAny_mono (codeAny_call_builtin ft.plain eN (wpAny_of_eq hcn (gn prog w A.in1 _ s h))) fun r s1 hr => ?_)
  cases r with
  | error e => exact hr
  | ok fl =>
    cases fl with
    | ret obj =>
      obtain ⟨hT, hok, Si, gi, hsi⟩ := hnext _ _ hr
      have b1 := ft.init.lookup
      have b2 := ft.init.bind obj
      repeat (any_goals (first | assumption | wp_step))
      refine (codeAny_mono (codeAny_call_builtin ft.init.plain eI (ft.init.check _ _ _ _ _ _ _ _ hT hok (gi prog w A.in1 _ s1 hsi))) fun r2 s2 hr2 => ?_)
      cases r2 with
      | error e => exact hr2
      | ok fl2 =>
        cases fl2 with
        | ret r =>
          obtain ⟨rfl, hq⟩ := hr2
          repeat (any_goals (first | assumption | wp_step))
        | _ => exact hr2.elim
    | _ => exact hr.elim
end
end TEn
set_option Elab.async false
set_option linter.all false
set_option maxRecDepth 100000
/-! enumerate(list, start=c) -/
namespace TEn
open PySem
abbrev kwS (v : Value) : List (Str × Value) := [(Str.ofString "start", v)]
theorem en_c1 (a v : Value) : checkTypeCall "enumerate" ⟨[a], kwS v⟩ = pure () := by kernel_rfl
theorem en_c2 (a v : Value) : checkBuiltinCall "enumerate.__new__" ⟨[.type "enumerate", a], kwS v⟩ = pure () := by kernel_rfl
theorem en_c3 (a b v : Value) : argsOk "object.__init__" ⟨[a, b], kwS v⟩ := by
  unfold argsOk; rw [signature?_of (id := "object.__init__") (n := ['_', '_', 't', 'i', 'n', 'i', '_', '_']) (o := ['t', 'c', 'e', 'j', 'b', 'o']) (by kernel_rfl) F.owner_object]; kernel_rfl
section
variable {prog : Program} {w : World} {A : Around} {E : Value → Shared → Prop} {s : Shared}
theorem en_call {l : Addr} {items : Array Value} {c : Int} {t : Tok} {Q : Value → Shared → Prop} (hc : Builtin.SmallTypes.fitsIndex c = true) (hL : s.heap.IsList l items)
    (h : ∀ k, IsEnum k (s.heap.objs.size + 1) s.heap.objs.size c .none → k.IsListIter s.heap.objs.size l 0 → k.objs.size = s.heap.objs.size + 2 → (∀ b o, s.heap.get? b = some o → k.get? b = some o) → Q (.ref (s.heap.objs.size + 1)) { s with heap := k }) :
    wpAny (model prog w) A (call (.type "enumerate") [.ref l] (kwS (.int c t))) Q E s := by
  obtain ⟨⟨kl, dct, dt, sl⟩, hl, h1, n, h2⟩ := hL
  obtain rfl : kl = .type "list" := h1
  obtain rfl : dt = .seq items n := h2
  refine (en_callT (Q1 := fun obj s1 => s1.TypeIs obj "enumerate" ∧ Q obj s1) F.called_enumerate (en_c1 _ _) (en_c2 _ _) F.entry_enumerate_new F.entry_object_init (en_new l items n dct sl c t hc) ⟨hl, ?_⟩ fun obj s1 hq => ⟨hq.1, en_c3 _ _ _, _, en_init F.called_enumerate.init.lookup F.called_enumerate.made (by decide), hq.1, rfl, hq.2⟩)
  have z1 : (s.heap.push { cls := .type "list_iterator", data := .fields #[.ref l, .int 0 0] }).objs.size = s.heap.objs.size + 1 := Heap.size_push ..
  show _ ∧ _
  rw [z1]
  have he := Heap.get?_push_size (s.heap.push { cls := .type "list_iterator", data := .fields #[.ref l, .int 0 0] }) (o := { cls := .type "enumerate", data := .fields #[.none, .bool false, .ref s.heap.objs.size, rawInt c, .none, .none] }) rfl
  rw [z1] at he
  exact ⟨⟨_, he, rfl⟩, h _ he ⟨_, Heap.get?_push_of_some _ (Heap.get?_push_size _ rfl), rfl, rfl⟩ (by rw [Heap.size_push, z1]) fun b o x => Heap.get?_push_of_some _ (Heap.get?_push_of_some _ x)⟩
end
end TEn
set_option Elab.async false
set_option linter.all false
set_option maxRecDepth 100000
set_option maxHeartbeats 2000000
/-! for a, b in enumerate(list, start=c) -/
namespace TEn
open PySem PySem.Spec PyProof.Rows L2
/-- the items at their turns, each in a new pair with its number -/
def IteS (K : PySem.W.Frag) (a : Addr) (c : Int) : It :=
  ⟨fun i H => ∃ (xs : List V) (x : V), SqL K H a xs ∧ xs[i]? = some x, fun i H v H' => ∃ T x, v = .ref T ∧ H T = none ∧ H' = upd H T (.tup [.int (c + (i : Nat)), x]) ∧ ∀ xs, SqL K H a xs → xs[i]? = some x, fun i H => ∃ xs : List V, SqL K H a xs ∧ xs.length ≤ i⟩
theorem two_of {b e it : Addr} (h : b ∈ [e, it]) : b = e ∨ b = it := by simpa using h
theorem turn_enS {P : Program} {w : World} {K : PySem.W.Frag} {elts : List Expr} {kk : Nat} {tpos : Pos} (a e it : Addr) (c : Int) : Turn P w K (.Tuple elts kk tpos) (IteS K a c) [e, it] e (fun i h => (∃ old, IsEnum h e it (c + (i : Nat)) old) ∧ h.IsListIter it a i ∧ e ≠ it) where
  mem := List.mem_cons_self
  obj := fun i h st b hb => by
    obtain ⟨⟨old, he⟩, ⟨ob, ho, hc, hd⟩, _⟩ := st
    rcases two_of hb with rfl | rfl
    · exact ⟨_, he, fun v q => nomatch q⟩
    · exact ⟨ob, ho, fun v q => by rw [hd] at q; cases q⟩
  keep := fun i h k st y => by
    obtain ⟨⟨old, he⟩, hi, hne⟩ := st
    exact ⟨⟨old, y e List.mem_cons_self _ he⟩, hi.at fun ob q => y it (List.mem_cons_of_mem _ List.mem_cons_self) ob q, hne⟩
  item := by
    intro X hP hw hK hc i pins s σ H E I hf st hg
    subst hP hw hK
    obtain ⟨⟨old, he⟩, hit, hne⟩ := st
    obtain ⟨xs, x, hq, hx⟩ := hg
    obtain ⟨its, rv, pl, hz⟩ := I.list hq
    obtain ⟨u, hu, ru⟩ := rv.get hx
    have le := Heap.lt_size he
    have li : it < s.heap.objs.size := by
      obtain ⟨_, q, _⟩ := hit
      exact (Heap.lt_size q)
    refine (en_item he hit pl.isList (x := u) (by simpa using hu) hne fun k ho jt hT hs y => ?_)
    refine ⟨_, rfl, (wpAny_letOwnedTupleGo_enum (s := { s with heap := k, toks := s.toks + 1 }) ho fun k2 he2 sb => ?_)⟩
    have hT2 := (sb.2 _ (Nat.ne_of_gt le)).trans hT
    have nw : ObjOk X.prog X.w (upd H s.heap.objs.size (.tup [.int (c + (i : Nat)), x])) k2 s.heap.objs.size (.tup [.int (c + (i : Nat)), x]) := ⟨by show 2 ≤ sizeLine; decide, [.int (c + (i : Nat)) s.toks, u], .cons ⟨_, rfl⟩ (.cons ru .nil), ⟨_, hT2, rfl, _, rfl⟩⟩
    have out : ∀ b, b ∉ [e, it] → b ≠ e ∧ b ≠ it := fun b hb => ⟨fun z => hb (by simp [z]), fun z => hb (by simp [z])⟩
    have I1 : Inv X pins σ (upd H s.heap.objs.size (.tup [.int (c + (i : Nat)), x])) { s with heap := k2, toks := s.toks + 1 } := I.turnedNew (ch := [e, it]) (fun b ob hb q => (sb.2 b (out b hb).1).trans (y b ob (out b hb).1 (out b hb).2 q)) hf (Nat.le_refl _) nw
    refine ⟨.ref s.heap.objs.size, _, I1, rfl, ⟨_, x, rfl, I.hok.fresh (Nat.le_refl _), rfl, fun ys hy => by rw [I.list_inj hy hq]; exact hx⟩, ⟨⟨u, ?_⟩, jt.at fun ob q => (sb.2 it (Ne.symm hne)).trans q, hne⟩, fun b hb => ?_⟩
    · have e1 : c + ((i + 1 : Nat) : Int) = c + (i : Int) + 1 := by omega
      rw [e1]
      exact he2
    · have hb2 : b < s.heap.objs.size := by rcases two_of hb with rfl | rfl <;> assumption
      rw [upd_ne (Nat.ne_of_lt hb2)]
      exact (hf b hb).1
  done := by
    intro X hP hw hK hc i pins s σ H E I hf st hg
    subst hP hw hK
    obtain ⟨⟨old, he⟩, hit, hne⟩ := st
    obtain ⟨xs, hq, hx⟩ := hg
    obtain ⟨its, rv, pl, hz⟩ := I.list hq
    obtain ⟨f0, f1, f2, f3, f4, f5⟩ := hf it (List.mem_cons_of_mem _ List.mem_cons_self)
    have ln := rv.length
    exact (en_end (I.ok.hd hc) he hit pl.isList (by simp; omega) fun k eb => ⟨rfl, I.turned (t' := s.toks) (fun b ob hb q => eb b ob hb q) f0 f1 f3 f4 f5⟩)
  self := fun A i s Q E st h => by
    obtain ⟨⟨_, he⟩, _⟩ := st
    exact wpAny_pyIter_enum he h
/-- a built-in type called with keywords -/
theorem en_with {M : Model} {A : Around} {E : Value → Shared → Prop} {s : Shared} {env : PySem.Env} {pos : Pos} {T : String} {e : Expr} {rest : List Expr} {kws : List Keyword} {Q : Value → Shared → Prop}
    (h : wpAny M A (spliced (backTo pos (starEach (e :: rest) env))) (fun vs s1 => wpAny M A (evalAll ((backToKw pos (keywordEach kws env)).map (·.2))) (fun kvs s2 => wpAny M A (call (.type T) vs (((backToKw pos (keywordEach kws env)).filterMap (·.1)).zip kvs)) Q E s2) E s1) E s)
    (he : backTo pos (starEach (e :: rest) env) = (false, eval e env) :: backTo pos (starEach rest env)) (hplain : (backTo pos (starEach (e :: rest) env)).any (·.1) = false) (hall : (backToKw pos (keywordEach kws env)).all (·.1.isSome) = true) (hkw : (backToKw pos (keywordEach kws env)).any (·.1.isNone) = false) :
    wpAny M A (callWith pos (.type T) [] (backTo pos (starEach (e :: rest) env)) (backToKw pos (keywordEach kws env))) Q E s := by
  unfold callWith
  have ev : wpAny M A (evalArgs (.type T) true (backTo pos (starEach (e :: rest) env)) (backToKw pos (keywordEach kws env))) (fun a s1 => wpAny M A (call (.type T) ([] ++ a.pos) a.kw) Q E s1) E s := by
    rw [he] at h ⊢
    exact evalArgs_kwB hall h
  refine wpAny_bind (wpAny_holding (wpAny_mono ev (fun a s1 h1 => wpAny_bind (wpAny_standAt ?_)) fun _ _ x => x))
  simp only [hplain, hkw, Bool.or_false]
  refine wpAny_bind (wpAny_pure ?_)
  exact (wpAny_bind (wpAny_mono h1 (fun r s2 hr => wpAny_bind (wpAny_holding (wpAny_point (wpAny_pure hr)))) fun _ _ x => x))
def iEnS (K : PySem.W.Frag) (c : Int) (ta : TA) : L2.TI := fun σ H R => ta σ H fun vs H1 => ∃ a xs, vs = [.ref a] ∧ SqL K H1 a xs ∧ R (IteS K a c) H1
theorem pi_enS {X : Cx} {e : Expr} {ta : TA} {p pos tpos cp kp : Pos} {elts : List Expr} {kk j : Nat} {c : Int} (hc : Builtin.SmallTypes.fitsIndex c = true) (hg : Gl X "enumerate") (hm : X.mg "enumerate" = none) (ha : PA X [e] ta) (hs : starEach [e] X.env = [(false, eval e X.env)] := by rfl) :
    PI X (.Tuple elts kk tpos) (.Call (.Name "enumerate" p) [e] [⟨some "start", .Constant (.int c) j cp, kp⟩] pos) (iEnS X.K c ta) := by
  refine ⟨fun pins s σ H R I h => ?_⟩
  have hst : backTo pos (starEach [e] X.env) = (false, eval e X.env) :: backTo pos (starEach [] X.env) := by rw [hs]; rfl
  refine wpAny_Call_Name_kw (ld_blt I hg hm boot_enumerate ?_)
  refine (en_with ?_ hst (by rw [hs]; rfl) rfl rfl)
  refine thn (ha.run pos pins s σ H _ I h) fun us s1 ⟨vs, H1, I1, r1, a, xs, ex, hq, q⟩ => ?_
  refine thn ((pk_cons (nm := some "start") (kpos := kp) (pe_int (i := c) (j := j) (pos := cp)) pk_nil).run pos pins s1 σ H1 (fun zs H2 => zs = [.int c] ∧ H2 = H1) I1 ⟨rfl, rfl⟩) fun ws s2 ⟨zs, H2, I2, r2, e1, e2⟩ => ?_
  subst ex e1 e2
  obtain ⟨u, rfl, z1⟩ := vals1 r1
  obtain ⟨v, rfl, t, rfl⟩ := vals1 r2
  obtain rfl : u = Value.ref a := z1
  obtain ⟨its, rv, pl, hz⟩ := I2.list hq
  refine (en_call hc pl.isList fun k he hit hsz hk => (wpAny_pyIter_enum he ?_))
  have I3 : Inv X pins σ H2 { s2 with heap := k } := I2.kept (t' := s2.toks) hk
  refine ⟨s2.heap.objs.size + 1, [s2.heap.objs.size + 1, s2.heap.objs.size], _, _, H2, rfl, I3, turn_enS a (s2.heap.objs.size + 1) s2.heap.objs.size c, ⟨⟨.none, ?_⟩, hit, Nat.succ_ne_self _⟩, fun b hb => ?_, q⟩
  · have e0 : c + ((0 : Nat) : Int) = c := by omega
    rw [e0]
    exact he
  · have le : s2.heap.objs.size ≤ b := by rcases two_of hb with rfl | rfl <;> omega
    exact I2.fpOk le (I2.hok.fresh le)
end TEn
set_option Elab.async false
set_option linter.all false
set_option maxRecDepth 100000
set_option maxHeartbeats 2000000
/-! for a, b in enumerate(tuple, start=e) -/
namespace TEn
open PySem PySem.Spec PyProof.Rows L2
/-- the items of a tuple at their turns, each in a new pair with its number -/
def IteT (K : PySem.W.Frag) (a : Addr) (c : Int) : It :=
  ⟨fun i H => ∃ (xs : List V) (x : V), SqT K H a xs ∧ xs[i]? = some x, fun i H v H' => ∃ T x, v = .ref T ∧ H T = none ∧ H' = upd H T (.tup [.int (c + (i : Nat)), x]) ∧ ∀ xs, SqT K H a xs → xs[i]? = some x, fun i H => ∃ xs : List V, SqT K H a xs ∧ xs.length ≤ i⟩
section
variable {prog : Program} {w : World} {A : Around} {E : Value → Shared → Prop} {s : Shared}
theorem en_endT {e it l : Addr} {i : Nat} {c : Int} {items : Array Value} {old : Value} {Q : Option Value → Shared → Prop} (hh : A.handled = none) (he : IsEnum s.heap e it c old) (hit : s.heap.IsTupleIter it l i) (hl : s.heap.IsTuple l items) (hx : items[i]? = none)
    (hQ : ∀ k, Heap.ExtBut it s.heap k → Q none { s with heap := k }) : wpAny (model prog w) A (pyNext (.ref e)) Q E s := by
  have tt : s.TypeIs (.ref e) "enumerate" := ⟨_, he, rfl⟩
  unfold pyNext
  refine (wpAny_bind (wpAny_attempt (wpAny_callSpecial?_slot (name := Str.ofString "__next__") tt F.slot_enumerate_next (wpAny_call_entry F.slot_enumerate_next tt F.entry_enumerate_next ?_ (F.args_enumerate_next_1 _)))))
  show wpAny _ _ (field (.ref e) 2 >>= fun _ => _) _ _ _
  refine (wpAny_bind (wpAny_field he rfl (x := .ref it) rfl ?_))
  refine (wpAny_bind (wpAny_nextOf_tuple_end hh hit hl hx fun k x he' hx' => ?_))
  obtain ⟨ob, ho, hc⟩ := hx'
  refine (wpAny_bind (wpAny_isInstance (T := "StopIteration") (b := true) ⟨ob, ho, hc⟩ isSubtype_stop ?_))
  exact (wpAny_pure (hQ _ he'))
end
theorem turn_enT {P : Program} {w : World} {K : PySem.W.Frag} {elts : List Expr} {kk : Nat} {tpos : Pos} (a e it : Addr) (c : Int) (hea : a ≠ e) (hia : a ≠ it) : Turn P w K (.Tuple elts kk tpos) (IteT K a c) [e, it] e (fun i h => (∃ old, IsEnum h e it (c + (i : Nat)) old) ∧ h.IsTupleIter it a i ∧ e ≠ it) where
  mem := List.mem_cons_self
  obj := fun i h st b hb => by
    obtain ⟨⟨old, he⟩, ⟨ob, ho, hc, hd⟩, _⟩ := st
    rcases two_of hb with rfl | rfl
    · exact ⟨_, he, fun v q => nomatch q⟩
    · exact ⟨ob, ho, fun v q => by rw [hd] at q; cases q⟩
  keep := fun i h k st y => by
    obtain ⟨⟨old, he⟩, hi, hne⟩ := st
    exact ⟨⟨old, y e List.mem_cons_self _ he⟩, hi.at fun ob q => y it (List.mem_cons_of_mem _ List.mem_cons_self) ob q, hne⟩
  item := by
    intro X hP hw hK hc i pins s σ H E I hf st hg
    subst hP hw hK
    obtain ⟨⟨old, he⟩, hit, hne⟩ := st
    obtain ⟨xs, x, hq, hx⟩ := hg
    obtain ⟨its, rv, pl, hz⟩ := I.tuple hq
    obtain ⟨u, hu, ru⟩ := rv.get hx
    have le := Heap.lt_size he
    have li : it < s.heap.objs.size := by
      obtain ⟨_, q, _⟩ := hit
      exact (Heap.lt_size q)
    have hl : i < its.length := (List.getElem?_eq_some_iff.mp hu).1
    refine wpAny_pyNext_enum_itemC (n := its.toArray.size) (Draws.tuple (A := X.A.in1) (show X.A.in1.handled = none from I.ok.hd hc) it a hia its.toArray) he ⟨hit, pl⟩ (by simpa using hl) hne (by simp [hne, Ne.symm hea]) fun y k tk hP ho jt hT hs yk => ?_
    obtain rfl : u = y := by
      have : its.toArray[i]? = some y := hP
      rw [List.getElem?_toArray, hu] at this
      injection this
    refine ⟨_, rfl, (wpAny_letOwnedTupleGo_enum (s := { s with heap := k, toks := tk + 1 }) ho fun k2 he2 sb => ?_)⟩
    have hT2 := (sb.2 _ (Nat.ne_of_gt le)).trans hT
    have nw : ObjOk X.prog X.w (upd H s.heap.objs.size (.tup [.int (c + (i : Nat)), x])) k2 s.heap.objs.size (.tup [.int (c + (i : Nat)), x]) := ⟨by show 2 ≤ sizeLine; decide, [.int (c + (i : Nat)) tk, u], .cons ⟨_, rfl⟩ (.cons ru .nil), ⟨_, hT2, rfl, _, rfl⟩⟩
    have out : ∀ b, b ∉ [e, it] → b ≠ e ∧ b ≠ it := fun b hb => ⟨fun z => hb (by simp [z]), fun z => hb (by simp [z])⟩
    have I1 : Inv X pins σ (upd H s.heap.objs.size (.tup [.int (c + (i : Nat)), x])) { s with heap := k2, toks := tk + 1 } := I.turnedNew (ch := [e, it]) (fun b ob hb q => (sb.2 b (out b hb).1).trans (yk b ob (out b hb).1 (out b hb).2 q)) hf (Nat.le_refl _) nw
    refine ⟨.ref s.heap.objs.size, _, I1, rfl, ⟨_, x, rfl, I.hok.fresh (Nat.le_refl _), rfl, fun ys hy => by rw [I.tuple_inj hy hq]; exact hx⟩, ⟨⟨u, ?_⟩, jt.1.at fun ob q => (sb.2 it (Ne.symm hne)).trans q, hne⟩, fun b hb => ?_⟩
    · have e1 : c + ((i + 1 : Nat) : Int) = c + (i : Int) + 1 := by omega
      rw [e1]
      exact he2
    · have hb2 : b < s.heap.objs.size := by rcases two_of hb with rfl | rfl <;> assumption
      rw [upd_ne (Nat.ne_of_lt hb2)]
      exact (hf b hb).1
  done := by
    intro X hP hw hK hc i pins s σ H E I hf st hg
    subst hP hw hK
    obtain ⟨⟨old, he⟩, hit, hne⟩ := st
    obtain ⟨xs, hq, hx⟩ := hg
    obtain ⟨its, rv, pl, hz⟩ := I.tuple hq
    obtain ⟨f0, f1, f2, f3, f4, f5⟩ := hf it (List.mem_cons_of_mem _ List.mem_cons_self)
    have ln := rv.length
    exact en_endT (I.ok.hd hc) he hit pl (by simp; omega) fun k eb => ⟨rfl, I.turned (t' := s.toks) (fun b ob hb q => eb b ob hb q) f0 f1 f3 f4 f5⟩
  self := fun A i s Q E st h => by
    obtain ⟨⟨_, he⟩, _⟩ := st
    exact wpAny_pyIter_enum he h
def iEnT (K : PySem.W.Frag) (ta : TA) (tk : TE) : L2.TI := fun σ H R => ta σ H fun vs H1 => ∃ a xs, vs = [.ref a] ∧ SqT K H1 a xs ∧ tk σ H1 fun z H2 => ∃ c, [z] = [V.int c] ∧ Builtin.SmallTypes.fitsIndex c = true ∧ SqT K H2 a xs ∧ R (IteT K a c) H2
theorem pi_enT {X : Cx} {e e2 : Expr} {ta : TA} {te : TE} {p pos tpos kp : Pos} {elts : List Expr} {kk : Nat} (hg : Gl X "enumerate") (hm : X.mg "enumerate" = none) (ha : PA X [e] ta) (h2 : PE X e2 te) (hs : starEach [e] X.env = [(false, eval e X.env)] := by rfl) :
    PI X (.Tuple elts kk tpos) (.Call (.Name "enumerate" p) [e] [⟨some "start", e2, kp⟩] pos) (iEnT X.K ta te) := by
  refine ⟨fun pins s σ H R I h => ?_⟩
  have hst : backTo pos (starEach [e] X.env) = (false, eval e X.env) :: backTo pos (starEach [] X.env) := by rw [hs]; rfl
  refine wpAny_Call_Name_kw (ld_blt I hg hm boot_enumerate ?_)
  refine (en_with ?_ hst (by rw [hs]; rfl) rfl rfl)
  refine thn (ha.run pos pins s σ H _ I h) fun us s1 ⟨vs, H1, I1, r1, a, xs, ex, hq, q⟩ => ?_
  refine thn ((pk_cons (nm := some "start") (kpos := kp) h2 pk_nil).run pos pins s1 σ H1 (fun zs H2 => ∃ c, zs = [.int c] ∧ Builtin.SmallTypes.fitsIndex c = true ∧ SqT X.K H2 a xs ∧ R (IteT X.K a c) H2) I1 ?_) fun ws s2 ⟨zs, H2, I2, r2, c, e1, hc, hq2, q2⟩ => ?_
  · exact q
  subst ex e1
  obtain ⟨u, rfl, z1⟩ := vals1 r1
  obtain ⟨v, rfl, t, rfl⟩ := vals1 r2
  obtain rfl : u = Value.ref a := z1
  obtain ⟨its, rv, pl, hz⟩ := I2.tuple hq2
  unfold Builtin.SmallTypes.fitsIndex at hc
  simp only [Bool.and_eq_true, decide_eq_true_eq] at hc
  have la : a < s2.heap.objs.size := by obtain ⟨o, ho, _⟩ := id pl; exact Heap.lt_size ho
  refine (enum_begins_start (begins_tuple a its.toArray) pl hc.1 hc.2 fun k he hit hsz hk => (wpAny_pyIter_enum he ?_))
  have I3 : Inv X pins σ H2 { s2 with heap := k } := I2.kept (t' := s2.toks) hk
  refine ⟨s2.heap.objs.size + 1, [s2.heap.objs.size + 1, s2.heap.objs.size], _, _, H2, rfl, I3, turn_enT a (s2.heap.objs.size + 1) s2.heap.objs.size c (Nat.ne_of_lt (Nat.lt_succ_of_lt la)) (Nat.ne_of_lt la), ⟨⟨.none, ?_⟩, ⟨_, hit, rfl, rfl⟩, Nat.succ_ne_self _⟩, fun b hb => ?_, q2⟩
  · have e0 : c + ((0 : Nat) : Int) = c := by omega
    rw [e0]
    exact he
  · have le : s2.heap.objs.size ≤ b := by rcases two_of hb with rfl | rfl <;> omega
    exact I2.fpOk le (I2.hok.fresh le)
end TEn
set_option Elab.async false
set_option linter.all false
set_option maxRecDepth 100000
set_option maxHeartbeats 4000000
/-! set(list of ints), and sorted(..) of it -/
namespace TSt
open PySem PySem.Spec PyProof.Rows L2
abbrev nuS (w : World) : Obj := { cls := .type "set", dict := none, data := .set #[] 0 (.fresh 0 0 (!w.params.followText "set-order")) }
section
variable {P : Program} {w : World} {A : Around} {E : Value → Shared → Prop} {s : Shared}
/-- what stands behind set(l): the members of ns at the new place a -/
def Got (w : World) (s0 : Shared) (a : Addr) (ns : List Int) (s2 : Shared) : Prop := ∃ h' tk c, s2 = { s0 with heap := h', toks := tk } ∧ SetR w h' a (fun j => decide (j ∈ ns)) c ∧ c ≤ ns.length ∧ ∀ b o, s0.heap.get? b = some o → h'.get? b = some o
theorem st_init {l : Addr} {items : Array Value} {ns : List Int} (hh : A.handled = none) (hl : s.heap.IsList l items) (hit : IntsAre items.toList ns) (hb : ns.length + 1 < scanBound) :
    wpAny (model P w) A (Builtin.«set.__init__» ⟨[.ref s.heap.objs.size, .ref l], []⟩) (fun fin s2 => ∃ v, fin = .done (.ret v) ∧ (v = .none ∧ Got w s s.heap.objs.size ns s2)) E { s with heap := s.heap.push (nuS w) } := by
  have hn : items.size = ns.length := by rw [← IntsAre.length hit, Array.length_toList]
  have hS := Heap.get?_push_size s.heap (o := nuS w) rfl
  obtain ⟨⟨oc, od, ot, os⟩, hol, hcl, nl, hdl⟩ := hl
  dsimp only at hcl hdl
  subst hcl hdl
  have lt : l < s.heap.objs.size := Heap.lt_size hol
  have up := Heap.get?_push_of_some (nuS w) hol
  have il : (s.heap.push (nuS w)).IsList l items := ⟨_, up, rfl, nl, rfl⟩
  have q1 := F.sub_list_set
  have q2 := F.sub_list_frozenset
  have q3 : (Value.type "list" == Value.type "dict") = false := by decide
  have sz : (s.heap.push (nuS w)).objs.size = s.heap.objs.size + 1 := Heap.size_push ..
  unfold Builtin.«set.__init__» noKeywords Builtin.Frozenset.updateFrom
  generalize hPI : pyIter = PI
  wp_walk
  subst hPI
  refine wpAny_pyIter_list il (wpAny_bind (wpAny_runValue ?_))
  have d1 : l ≠ (s.heap.push (nuS w)).objs.size := by rw [sz]; exact Nat.ne_of_lt (Nat.lt_succ_of_lt lt)
  have d2 : s.heap.objs.size ∉ [(s.heap.push (nuS w)).objs.size, l] := by
    rw [sz]
    intro z
    rcases List.mem_cons.mp z with z | z
    · exact Nat.ne_of_lt (Nat.lt_succ_self _) z
    · exact Nat.ne_of_gt lt (List.mem_singleton.mp z)
  have vals : ∀ (i : Nat) (v : Value), items[i]? = some v → ∃ k t, ns[i]? = some k ∧ v = .int k t := fun i v hv => by
    have hi : i < ns.length := by rw [← hn]; exact (Array.getElem?_eq_some_iff.mp hv).1
    obtain ⟨t, e⟩ := IntsAre.int_at hit i v (by rw [Array.getElem?_toList]; exact hv)
    exact ⟨ns[i], t, List.getElem?_eq_getElem hi, by rw [e, List.getD_eq_getElem?_getD, List.getElem?_eq_getElem hi] <;> rfl⟩
  have g0 := Heap.get?_push_of_some { cls := .type "list_iterator", data := .fields #[.ref l, .int 0 0] } hS
  have r0 : SetR w ((s.heap.push (nuS w)).push { cls := .type "list_iterator", data := .fields #[.ref l, .int 0 0] }) s.heap.objs.size (fun j => decide (j ∈ ns.take 0)) 0 := setR_new_at g0
  refine set_update_ints ((Walks.list (A := A.in1) (show A.in1.handled = none from by simp [hh]) _ l d1 items).toS) s.heap.objs.size d2 ns hn hb vals (items.size - 0) 0 _ (by omega) (Nat.zero_le _) ?st ?first ?rest
  case st => exact ⟨⟨_, Heap.get?_push_size _ rfl, rfl, rfl⟩, il.push _⟩
  case first => exact ⟨0, Nat.le_refl 0, r0⟩
  intro s2 c mv hc S2
  obtain ⟨h2, g2, d2', t2, o2⟩ := s2
  have e1 : g2 = s.gens := mv.gens
  have e2 : d2' = s.drawn := mv.drawn
  have e3 : o2 = s.os := mv.os
  subst e1 e2 e3
  show wpAny _ _ _ _ _ _
  refine wpAny_pure ?_
  show wpAny _ _ (ret Value.none) _ _ _
  refine wpAny_pure ⟨_, rfl, rfl, h2, t2, c, rfl, S2, by rw [← hn]; exact hc, fun b o e => ?_⟩
  have b0 : b < s.heap.objs.size := Heap.lt_size e
  refine mv.heap b o (fun z => ?_) (Heap.get?_push_of_some _ (Heap.get?_push_of_some _ e))
  rcases List.mem_cons.mp z with z | z
  · exact Nat.ne_of_lt b0 z
  · have z' := List.mem_singleton.mp z
    rw [sz] at z'
    exact Nat.ne_of_lt (Nat.lt_succ_of_lt b0) z'
/-- set(l) -/
theorem st_call {l : Addr} {items : Array Value} {ns : List Int} {Q : Value → Shared → Prop} (hh : A.handled = none) (hl : s.heap.IsList l items) (hit : IntsAre items.toList ns) (hb : ns.length + 1 < scanBound)
    (hq : ∀ s2, Got w s s.heap.objs.size ns s2 → Q (.ref s.heap.objs.size) s2) : wpAny (model P w) A (call (.type "set") [.ref l]) Q E s := by
  have T := F.called_set
  obtain ⟨c, tl, mro⟩ := T.mro
  have md := T.made
  have sb := T.sub
  have nt := T.notType
  have cc := T.canCreate
  have ct := F.typeCall_set_1 (.ref l)
  refine (wpAny_call (codeAny_of_tree ?_))
  show wpAny _ _ (callAny (.type "set") ⟨[.ref l], []⟩) _ _ _
  refine (wpAny_pure ⟨Code.quiet_builtin _ (by decide +kernel), (codeAny_builtin F.entry_type_call ?_)⟩)
  rw [(Around.under_plain (weight_type_call_type "set" [.ref l] []) rfl)]
  repeat (any_goals (first | assumption | wp_step))
  refine codeAny_mono (code_set_led1 (.ref l) (E := E) (Q₁ := fun v z => v = .ref s.heap.objs.size ∧ z = { s with heap := s.heap.push (nuS w) }) ⟨rfl, rfl⟩) fun r z hr => ?_
  cases r with
  | error e => exact hr
  | ok fl =>
    cases fl with
    | ret v =>
      obtain ⟨rfl, rfl⟩ := hr
      have tt : Shared.TypeIs { s with heap := s.heap.push (nuS w) } (.ref s.heap.objs.size) "set" := ⟨_, Heap.get?_push_size _ rfl, rfl⟩
      have il := T.init.lookup
      have ib := T.init.bind (.ref s.heap.objs.size)
      repeat (any_goals (first | assumption | wp_step))
      refine codeAny_mono (codeAny_call_builtin (R := wants (fun r s2 => r = .none ∧ Got w s s.heap.objs.size ns s2) E) T.init.plain F.entry_set_init (check_set_init_1 tt ?_)) fun r2 s2 hr2 => ?_
      · refine wpAny_mono (st_init (A := A.in1.in1) (E := fun e z => wants (fun r s2 => r = .none ∧ Got w s s.heap.objs.size ns s2) E (.error e) z) (by simpa using hh) hl hit hb) (fun fin z hz => ?_) fun _ _ x => x
        obtain ⟨v, rfl, hv⟩ := hz
        exact hv
      · cases r2 with
        | error e => exact hr2
        | ok f2 =>
          cases f2 with
          | ret r =>
            obtain ⟨rfl, gt⟩ := hr2
            repeat (any_goals (first | assumption | wp_step))
            exact hq _ gt
          | _ => exact hr2.elim
    | _ => exact hr.elim
end
section
variable {X : Cx}
/-- set(l), a list of ints -/
def rSetI (K : PySem.W.Frag) (w : World) : List V → Hp → VK → Prop := fun xs H Q => ∃ (l : Addr) (ns : List Int), xs = [V.ref l] ∧ SqL K H l (ns.map V.int) ∧ ns.length ≤ 1000 ∧ ∀ a S c, H a = none → (∀ k, S k = true ↔ k ∈ ns) → c ≤ ns.length → Q (.ref a) (upd H a (SetO w a S c))
theorem cr_setI (hc : X.calm = true) : CallR X (.type "set") (rSetI X.K X.w) := by
  intro pins s σ H xs us Q I r h
  obtain ⟨l, ns, rfl, hs, hn, q⟩ := h
  rw [Vals.ref1 r]
  obtain ⟨its, rv, pl, hz⟩ := I.list hs
  refine st_call (I.ok.hd hc) pl.isList (by rw [List.toList_toArray]; exact ints_of_vals rv) (by unfold scanBound; omega) fun s2 gt => ?_
  obtain ⟨h', tk, c, rfl, S2, hc2, k⟩ := gt
  have hp : H s.heap.objs.size = none := I.hok.fresh (Nat.le_refl _)
  exact ⟨.ref _, _, I.laid (t' := tk) (fun b u e => k b u e) (Nat.le_refl _) (setO_new S2), rfl, q _ _ c hp (fun j => by simp) hc2⟩
end
end TSt
set_option Elab.async false
set_option linter.all false
set_option maxRecDepth 100000
set_option maxHeartbeats 4000000
/-! enumerate(zip(..), start=e): zip's own pair is out from the first turn on -/
namespace TEz
open PySem PySem.Spec PyProof.Rows L2 TEn RZ
abbrev IsZG (h : Heap) (z TI TO : Addr) (f0 : Value) (f : Bool) : Prop :=
  h.get? z = some { cls := .type "zip", dict := none, data := .fields #[f0, .bool f, .bool false, .ref TI, .ref TO], slots := #[] }
/-- zip's state, its pair in or out -/
def ZS (h : Heap) (z TI TO : Addr) : Prop := ∃ f0 f, IsZG h z TI TO f0 f ∧ (f0 = .none ∨ ∃ T : Addr, f0 = rawInt T)
section
variable {prog : Program} {w : World} {A : Around} {E : Value → Shared → Prop} {s : Shared}
theorem dead {a : Addr} {Q : Option Obj → Shared → Prop} (ho : s.heap.get? a = none) (h : Q none s) : wpAny (model prog w) A (loadIfAlive a) Q E s := by
  have h' : Q (s.heap.get? a) s := by rw [ho]; exact h
  exact fun _ _ _ => h'
/-- is the pair free -/
theorem zs_free {z TI TO : Addr} {Q : Bool → Shared → Prop} {f0 : Value} {f : Bool} (hz : IsZG s.heap z TI TO f0 f) (hc : f0 = .none ∨ ∃ T : Addr, f0 = rawInt T) (h1 : Q true s)
    (h2 : ∀ h' (T : Addr), IsZG h' z TI TO (rawInt T) true → Heap.SameBut z s.heap h' → Q false { s with heap := h' }) : wpAny (model prog w) A (Builtin.SmallTypes.ownedTupleIsFree (.ref z)) Q E s := by
  rcases hc with rfl | ⟨T, rfl⟩
  · unfold Builtin.SmallTypes.ownedTupleIsFree
    exact wpAny_bind (wpAny_field hz rfl (x := .none) rfl (wpAny_pure h1))
  · cases ha : s.heap.get? T with
    | some oT => exact wpAny_tupleHeld_zip hz ha fun h' hz' sb => h2 h' T hz' sb
    | none =>
      unfold Builtin.SmallTypes.ownedTupleIsFree
      refine wpAny_bind (wpAny_field hz rfl (x := rawInt T) rfl ?_)
      show wpAny _ _ (loadIfAlive ((T : Int).toNat) >>= _) _ _ _
      rw [Int.toNat_natCast]
      exact wpAny_bind (dead ha (wpAny_pure h1))
theorem zs_item {z TI TO i1 i2 l1 l2 : Addr} {k1 k2 : Nat} {xs ys : Array Value} {x y a b : Value} {Q : Value → Shared → Prop} (D : ZipApart z TI TO i1 i2 l1 l2)
    (hz : ZS s.heap z TI TO) (hTI : IsPair s.heap TI (.ref i1) (.ref i2)) (hTO : IsPair s.heap TO a b)
    (h1 : s.heap.IsTupleIter i1 l1 k1) (h2 : s.heap.IsTupleIter i2 l2 k2) (hl1 : s.heap.IsTuple l1 xs) (hl2 : s.heap.IsTuple l2 ys) (hx : xs[k1]? = some x) (hy : ys[k2]? = some y)
    (hQ : ∀ h', ZS h' z TI TO → (∃ a b, IsPair h' TO a b) → h'.IsTupleIter i1 l1 (k1 + 1) → h'.IsTupleIter i2 l2 (k2 + 1) → IsPair h' s.heap.objs.size x y → h'.objs.size = s.heap.objs.size + 1 →
      (∀ c o, c ≠ z → c ≠ TO → c ≠ i1 → c ≠ i2 → s.heap.get? c = some o → h'.get? c = some o) → Q (.ref s.heap.objs.size) { s with heap := h' }) :
    wpAny (model prog w) A (Builtin.«zip.__next__» ⟨[.ref z], []⟩) (fun fin s' => ∃ v, fin = .done (.ret v) ∧ Q v s') E s := by
  obtain ⟨f0, f, hz, hc⟩ := hz
  (show wpAny _ _ (field (.ref z) 2 >>= _) _ _ _)
  (refine wpAny_bind (wpAny_field hz rfl (x := .bool false) rfl ?_))
  (show wpAny _ _ (field (.ref z) 3 >>= _) _ _ _)
  (refine wpAny_bind (wpAny_field hz rfl (x := .ref TI) rfl ?_))
  (refine wpAny_bind (wpAny_seqItems hTI rfl ?_))
  (show wpAny _ _ (Builtin.SmallTypes.ownedTupleIsFree (.ref z) >>= _) _ _ _)
  refine wpAny_bind (zs_free hz hc ?free fun m1 T z1 u1 => ?held)
  case free =>
    (simp only [if_true])
    (refine wpAny_bind (wpAny_rule ?_))
    (refine wpAny_bind (wpAny_field hz rfl (x := .ref TO) rfl ?_))
    refine wpAny_bind (wpAny_setField_rec hz (by simp) fun m1 z1 u1 => ?_)
    replace z1 : IsZG m1 z TI TO .ellipsis f := z1
    (refine wpAny_bind ?_)
    (simp only [List.zipIdx_cons, List.zipIdx_nil, List.forIn_cons, List.forIn_nil])
    (refine wpAny_bind (wpAny_bind (wpAny_onRaise ?_)))
    (show wpAny _ _ (Builtin.SmallTypes.nextOf (.ref i1) >>= _) _ _ _)
    refine wpAny_bind (nextOf_tuple_item (h1.extBut u1.extBut D.i1z) (hl1.extBut u1.extBut D.l1z) hx fun m2 j1 u2 => wpAny_pure ?_)
    have t2 : IsPair m2 TO a b := u2.extBut _ _ D.TOi1 (u1.extBut _ _ D.TOz hTO)
    (refine wpAny_bind (wpAny_seqItems t2 rfl ?_))
    refine wpAny_bind (wpAny_updateSeq_pair t2 fun m3 t3 u3 => ?_)
    replace t3 : IsPair m3 TO x b := t3
    (refine wpAny_bind (wpAny_letGo (wpAny_pure ?_)))
    (refine wpAny_bind (wpAny_bind (wpAny_onRaise ?_)))
    (show wpAny _ _ (Builtin.SmallTypes.nextOf (.ref i2) >>= _) _ _ _)
    refine wpAny_bind (nextOf_tuple_item (((h2.extBut u1.extBut D.i2z).extBut u2.extBut D.i12.symm).extBut u3.extBut D.TOi2.symm) (((hl2.extBut u1.extBut D.l2z).extBut u2.extBut D.l2i1).extBut u3.extBut D.l2TO) hy fun m4 j2 u4 => wpAny_pure ?_)
    have t4 : IsPair m4 TO x b := u4.extBut _ _ D.TOi2 t3
    (refine wpAny_bind (wpAny_seqItems t4 rfl ?_))
    refine wpAny_bind (wpAny_updateSeq_pair t4 fun m5 t5 u5 => ?_)
    replace t5 : IsPair m5 TO x y := t5
    (refine wpAny_bind (wpAny_letGo (wpAny_pure (wpAny_pure ?_))))
    (refine wpAny_bind (wpAny_seqItems t5 rfl ?_))
    (refine wpAny_bind (wpAny_newTuple ?_))
    have sz : m5.objs.size = s.heap.objs.size := by rw [u5.1, u4.1, u3.1, u2.1, u1.1]
    have z5 : IsZG m5 z TI TO .ellipsis f := u5.extBut _ _ D.TOz.symm (u4.extBut _ _ D.i2z.symm (u3.extBut _ _ D.TOz.symm (u2.extBut _ _ D.i1z.symm z1)))
    have k5 : ∀ c o, c ≠ z → c ≠ TO → c ≠ i1 → c ≠ i2 → s.heap.get? c = some o → m5.get? c = some o := fun c o c1 c2 c3 c4 e =>
      u5.extBut _ _ c2 (u4.extBut _ _ c4 (u3.extBut _ _ c2 (u2.extBut _ _ c3 (u1.extBut _ _ c1 e))))
    have j15 : m5.IsTupleIter i1 l1 (k1 + 1) := ((j1.extBut u3.extBut D.TOi1.symm).extBut u4.extBut D.i12).extBut u5.extBut D.TOi1.symm
    have j25 : m5.IsTupleIter i2 l2 (k2 + 1) := j2.extBut u5.extBut D.TOi2.symm
    have zl : z < m5.objs.size := Heap.lt_size z5
    (show wpAny _ _ (Builtin.SmallTypes.ownedTupleHandOut (.ref z) (.ref m5.objs.size) >>= _) _ _ _)
    (refine wpAny_bind ?_)
    (unfold Builtin.SmallTypes.ownedTupleHandOut)
    have z6 : IsZG (m5.push { cls := .type "tuple", data := .seq #[x, y] }) z TI TO .ellipsis f := Heap.get?_push_of_some _ z5
    refine wpAny_bind (wpAny_setField_rec z6 (by simp) fun m7 z7 u7 => ?_)
    replace z7 : IsZG m7 z TI TO (rawInt m5.objs.size) f := z7
    refine wpAny_setField_rec z7 (by simp) fun m8 z8 u8 => ?_
    replace z8 : IsZG m8 z TI TO (rawInt m5.objs.size) false := z8
    have up : ∀ c o, c ≠ z → m5.get? c = some o → m8.get? c = some o := fun c o c1 e => u8.extBut _ _ c1 (u7.extBut _ _ c1 (Heap.get?_push_of_some _ e))
    have t8 : IsPair m8 m5.objs.size x y := u8.extBut _ _ (Nat.ne_of_gt zl) (u7.extBut _ _ (Nat.ne_of_gt zl) (Heap.get?_push_size _ rfl))
    have s8 : m8.objs.size = m5.objs.size + 1 := by rw [u8.1, u7.1, Heap.size_push]
    refine wpAny_pure ⟨_, rfl, ?_⟩
    show Q (.ref m5.objs.size) _
    rw [sz] at t8 s8 ⊢
    exact hQ m8 ⟨_, _, z8, .inr ⟨_, rfl⟩⟩ ⟨x, y, up _ _ D.TOz t5⟩ (j15.at fun o e => up _ o D.i1z e) (j25.at fun o e => up _ o D.i2z e) t8 s8 fun c o c1 c2 c3 c4 e => up c o c1 (k5 c o c1 c2 c3 c4 e)
  case held =>
    (simp only [Bool.false_eq_true, if_false])
    (refine wpAny_bind ?_)
    (rw [← Array.forIn_toList])
    (simp only [List.forIn_cons, List.forIn_nil])
    (refine wpAny_bind (wpAny_bind (wpAny_holding ?_)))
    (show wpAny _ _ (Builtin.SmallTypes.nextOf (.ref i1) >>= _) _ _ _)
    refine wpAny_bind (nextOf_tuple_item (s := { s with heap := m1 }) (h1.extBut u1.extBut D.i1z) (hl1.extBut u1.extBut D.l1z) hx fun m2 j1 u2 => wpAny_pure ?_)
    (refine wpAny_pure ?_)
    (refine wpAny_bind (wpAny_bind (wpAny_holding ?_)))
    (show wpAny _ _ (Builtin.SmallTypes.nextOf (.ref i2) >>= _) _ _ _)
    refine wpAny_bind (nextOf_tuple_item (s := { s with heap := m2 }) ((h2.extBut u1.extBut D.i2z).extBut u2.extBut D.i12.symm) ((hl2.extBut u1.extBut D.l2z).extBut u2.extBut D.l2i1) hy fun m3 j2 u3 => wpAny_pure ?_)
    (refine wpAny_pure (wpAny_pure ?_))
    (show wpAny _ _ (newTuple [x, y] >>= _) _ _ _)
    (refine wpAny_bind (wpAny_newTuple ?_))
    have sz : m3.objs.size = s.heap.objs.size := by rw [u3.1, u2.1, u1.1]
    have z3 : IsZG m3 z TI TO (rawInt T) true := u3.extBut _ _ D.i2z.symm (u2.extBut _ _ D.i1z.symm z1)
    have k3 : ∀ c o, c ≠ z → c ≠ i1 → c ≠ i2 → s.heap.get? c = some o → m3.get? c = some o := fun c o c1 c2 c3 e => u3.extBut _ _ c3 (u2.extBut _ _ c2 (u1.extBut _ _ c1 e))
    have j13 : m3.IsTupleIter i1 l1 (k1 + 1) := j1.extBut u3.extBut D.i12
    have t3 : IsPair m3 TO a b := k3 _ _ D.TOz D.TOi1 D.TOi2 hTO
    refine wpAny_pure ⟨_, rfl, ?_⟩
    show Q (.ref m3.objs.size) _
    have t4 : IsPair (m3.push { cls := .type "tuple", data := .seq #[x, y] }) m3.objs.size x y := Heap.get?_push_size _ rfl
    have s4 : (m3.push { cls := .type "tuple", data := .seq #[x, y] }).objs.size = m3.objs.size + 1 := Heap.size_push ..
    rw [sz] at t4 s4 ⊢
    exact hQ _ ⟨_, _, Heap.get?_push_of_some _ z3, .inr ⟨T, rfl⟩⟩ ⟨a, b, Heap.get?_push_of_some _ t3⟩ (j13.at fun o e => Heap.get?_push_of_some _ e) (j2.at fun o e => Heap.get?_push_of_some _ e) t4 s4 fun c o c1 c2 c3 c4 e => Heap.get?_push_of_some _ (k3 c o c1 c3 c4 e)
end
end TEz
set_option Elab.async false
set_option linter.all false
set_option maxRecDepth 100000
set_option maxHeartbeats 4000000
/-! enumerate(zip(..), start=e): the walk -/
namespace TEz
open PySem PySem.Spec PyProof.Rows L2 TEn RZ
section
variable {prog : Program} {w : World} {A : Around} {E : Value → Shared → Prop} {s : Shared}
theorem zs_end {z TI TO i1 i2 l1 l2 : Addr} {k1 k2 : Nat} {xs ys : Array Value} {a b : Value} {Q : Fin → Shared → Prop} (hh : A.handled = none) (D : ZipApart z TI TO i1 i2 l1 l2)
    (hz : ZS s.heap z TI TO) (hTI : IsPair s.heap TI (.ref i1) (.ref i2)) (hTO : IsPair s.heap TO a b)
    (h1 : s.heap.IsTupleIter i1 l1 k1) (h2 : s.heap.IsTupleIter i2 l2 k2) (hl1 : s.heap.IsTuple l1 xs) (hl2 : s.heap.IsTuple l2 ys) (hend : xs[k1]? = none ∨ ys[k2]? = none)
    (hE : ∀ h' e, (∀ c o, c ≠ z → c ≠ TO → c ≠ i1 → c ≠ i2 → s.heap.get? c = some o → h'.get? c = some o) → (∃ o, h'.get? e = some o ∧ o.cls = .type "StopIteration") → E (.ref e) { s with heap := h' }) :
    wpAny (model prog w) A (Builtin.«zip.__next__» ⟨[.ref z], []⟩) Q E s := by
  obtain ⟨f0, f, hz, hc⟩ := hz
  (show wpAny _ _ (field (.ref z) 2 >>= _) _ _ _)
  (refine wpAny_bind (wpAny_field hz rfl (x := .bool false) rfl ?_))
  (show wpAny _ _ (field (.ref z) 3 >>= _) _ _ _)
  (refine wpAny_bind (wpAny_field hz rfl (x := .ref TI) rfl ?_))
  (refine wpAny_bind (wpAny_seqItems hTI rfl ?_))
  (show wpAny _ _ (Builtin.SmallTypes.ownedTupleIsFree (.ref z) >>= _) _ _ _)
  refine wpAny_bind (zs_free hz hc ?free fun m1 T z1 u1 => ?held)
  case free =>
    (simp only [if_true])
    (refine wpAny_bind (wpAny_rule ?_))
    (refine wpAny_bind (wpAny_field hz rfl (x := .ref TO) rfl ?_))
    refine wpAny_bind (wpAny_setField_rec hz (by simp) fun m1 z1 u1 => ?_)
    replace z1 : IsZG m1 z TI TO .ellipsis f := z1
    (refine wpAny_bind ?_)
    (simp only [List.zipIdx_cons, List.zipIdx_nil, List.forIn_cons, List.forIn_nil])
    (refine wpAny_bind (wpAny_bind (wpAny_onRaise ?_)))
    (show wpAny _ _ (Builtin.SmallTypes.nextOf (.ref i1) >>= _) _ _ _)
    cases hx : xs[k1]? with
    | none =>
      refine wpAny_bind (nextOf_tuple_end hh (h1.extBut u1.extBut D.i1z) (hl1.extBut u1.extBut D.l1z) hx fun m2 e u2 he => ?_)
      obtain ⟨oe, hoe, hce⟩ := he
      have z2 : IsZG m2 z TI TO .ellipsis f := u2 _ _ D.i1z.symm z1
      have ne : e ≠ z := fun q => by subst q; rw [z2] at hoe; cases hoe; simp at hce
      refine wpAny_setField_rec z2 (by simp) fun m3 _ u3 => hE m3 e (fun c o c1 _ c3 _ q => u3.extBut _ _ c1 (u2 _ _ c3 (u1.extBut _ _ c1 q))) ⟨oe, u3.extBut _ _ ne hoe, hce⟩
    | some x =>
      have hy : ys[k2]? = none := by rcases hend with h | h; rw [hx] at h; cases h; exact h
      refine wpAny_bind (nextOf_tuple_item (h1.extBut u1.extBut D.i1z) (hl1.extBut u1.extBut D.l1z) hx fun m2 j1 u2 => wpAny_pure ?_)
      have t2 : IsPair m2 TO a b := u2.extBut _ _ D.TOi1 (u1.extBut _ _ D.TOz hTO)
      (refine wpAny_bind (wpAny_seqItems t2 rfl ?_))
      refine wpAny_bind (wpAny_updateSeq_pair t2 fun m3 t3 u3 => ?_)
      (refine wpAny_bind (wpAny_letGo (wpAny_pure ?_)))
      (refine wpAny_bind (wpAny_bind (wpAny_onRaise ?_)))
      (show wpAny _ _ (Builtin.SmallTypes.nextOf (.ref i2) >>= _) _ _ _)
      refine wpAny_bind (nextOf_tuple_end hh (((h2.extBut u1.extBut D.i2z).extBut u2.extBut D.i12.symm).extBut u3.extBut D.TOi2.symm) (((hl2.extBut u1.extBut D.l2z).extBut u2.extBut D.l2i1).extBut u3.extBut D.l2TO) hy fun m4 e u4 he => ?_)
      obtain ⟨oe, hoe, hce⟩ := he
      have z4 : IsZG m4 z TI TO .ellipsis f := u4 _ _ D.i2z.symm (u3.extBut _ _ D.TOz.symm (u2.extBut _ _ D.i1z.symm z1))
      have ne : e ≠ z := fun q => by subst q; rw [z4] at hoe; cases hoe; simp at hce
      refine wpAny_setField_rec z4 (by simp) fun m5 _ u5 => hE m5 e (fun c o c1 c2 c3 c4 q => u5.extBut _ _ c1 (u4 _ _ c4 (u3.extBut _ _ c2 (u2.extBut _ _ c3 (u1.extBut _ _ c1 q))))) ⟨oe, u5.extBut _ _ ne hoe, hce⟩
  case held =>
    (simp only [Bool.false_eq_true, if_false])
    (refine wpAny_bind ?_)
    (rw [← Array.forIn_toList])
    (simp only [List.forIn_cons, List.forIn_nil])
    (refine wpAny_bind (wpAny_bind (wpAny_holding ?_)))
    (show wpAny _ _ (Builtin.SmallTypes.nextOf (.ref i1) >>= _) _ _ _)
    cases hx : xs[k1]? with
    | none =>
      refine wpAny_bind (nextOf_tuple_end (s := { s with heap := m1 }) hh (h1.extBut u1.extBut D.i1z) (hl1.extBut u1.extBut D.l1z) hx fun m2 e u2 he => ?_)
      exact hE m2 e (fun c o c1 _ c2 _ q => u2 _ _ c2 (u1.extBut _ _ c1 q)) he
    | some x =>
      have hy : ys[k2]? = none := by rcases hend with h | h; rw [hx] at h; cases h; exact h
      refine wpAny_bind (nextOf_tuple_item (s := { s with heap := m1 }) (h1.extBut u1.extBut D.i1z) (hl1.extBut u1.extBut D.l1z) hx fun m2 j1 u2 => wpAny_pure ?_)
      (refine wpAny_pure ?_)
      (refine wpAny_bind (wpAny_bind (wpAny_holding ?_)))
      (show wpAny _ _ (Builtin.SmallTypes.nextOf (.ref i2) >>= _) _ _ _)
      refine wpAny_bind (nextOf_tuple_end (s := { s with heap := m2 }) hh ((h2.extBut u1.extBut D.i2z).extBut u2.extBut D.i12.symm) ((hl2.extBut u1.extBut D.l2z).extBut u2.extBut D.l2i1) hy fun m3 e u3 he => ?_)
      exact hE m3 e (fun c o c1 _ c2 c3 q => u3 _ _ c3 (u2.extBut _ _ c2 (u1.extBut _ _ c1 q))) he
theorem zs_type {z TI TO : Addr} (hz : ZS s.heap z TI TO) : s.TypeIs (.ref z) "zip" := by
  obtain ⟨_, _, h, _⟩ := hz
  exact ⟨_, h, rfl⟩
/-- enumerate's next, whatever is drawn -/
theorem en_gen {e it : Addr} {c : Int} {old : Value} {P : Value → Heap → Prop} {Q : Value → Shared → Prop} (he : IsEnum s.heap e it c old)
    (dr : ∀ R : Value → Shared → Prop, (∀ x m1, IsEnum m1 e it c old → P x m1 → R x { s with heap := m1 }) → wpAny (model prog w) A (Builtin.SmallTypes.nextOf (.ref it)) R E s)
    (hQ : ∀ x m1 h', P x m1 → IsEnumOut h' e it (c + 1) x m1.objs.size → h'.get? m1.objs.size = some { cls := .type "tuple", data := .seq #[.int c s.toks, x] } → h'.objs.size = m1.objs.size + 1 → (∀ b o, b ≠ e → m1.get? b = some o → h'.get? b = some o) → Q (.ref m1.objs.size) { s with heap := h', toks := s.toks + 1 }) :
    wpAny (model prog w) A (Builtin.«enumerate.__next__» ⟨[.ref e], []⟩) (fun fin s' => ∃ v, fin = .done (.ret v) ∧ Q v s') E s := by
  obtain ⟨hp, gg, dd, tk, oo⟩ := s
  (show wpAny _ _ (field (.ref e) 2 >>= _) _ _ _)
  (refine wpAny_bind (wpAny_field he rfl (x := .ref it) rfl ?_))
  refine wpAny_bind (dr _ fun x m1 w1 px => ?_)
  (show wpAny _ _ (field (.ref e) 3 >>= _) _ _ ⟨m1, gg, dd, tk, oo⟩)
  (refine wpAny_bind (wpAny_field w1 rfl (x := rawInt c) rfl ?_))
  (show wpAny _ _ (field (.ref e) 4 >>= _) _ _ ⟨m1, gg, dd, tk, oo⟩)
  (refine wpAny_bind (wpAny_field w1 rfl (x := .none) rfl ?_))
  (show wpAny _ _ (mkInt c >>= _) _ _ ⟨m1, gg, dd, tk, oo⟩)
  (refine wpAny_bind (wpAny_mkInt ?_))
  (show wpAny _ _ (setField (.ref e) 3 (rawInt (c + 1)) >>= _) _ _ ⟨m1, gg, dd, tk + 1, oo⟩)
  (refine wpAny_bind (wpAny_setField_rec w1 (by simp) fun m2 w2 u2 => ?_))
  (replace u2 : Heap.SameBut e m1 m2 := u2)
  (replace w2 : IsEnum m2 e it (c + 1) old := w2)
  (show wpAny _ _ (setField (.ref e) 4 .none >>= _) _ _ ⟨m2, gg, dd, tk + 1, oo⟩)
  (refine wpAny_bind (wpAny_setField_rec w2 (by simp) fun m3 w3 u3 => ?_))
  (replace u3 : Heap.SameBut e m2 m3 := u3)
  (replace w3 : IsEnum m3 e it (c + 1) old := w3)
  (show wpAny _ _ (newTuple [.int c tk, x] >>= _) _ _ ⟨m3, gg, dd, tk + 1, oo⟩)
  (refine wpAny_bind (wpAny_newTuple ?_))
  have w4 : IsEnum (m3.push { cls := .type "tuple", data := .seq #[.int c tk, x] }) e it (c + 1) old := Heap.get?_push_of_some _ w3
  (generalize q4 : m3.push { cls := .type "tuple", data := .seq #[.int c tk, x] } = m4 at w4)
  have hsz : m3.objs.size = m1.objs.size := by rw [u3.1, u2.1]
  have hel : e < m1.objs.size := Heap.lt_size w1
  have t4 : m4.get? m1.objs.size = some { cls := .type "tuple", data := .seq #[.int c tk, x] } := by rw [← q4, ← hsz]; exact Heap.get?_push_size _ rfl
  have z4 : m4.objs.size = m1.objs.size + 1 := by rw [← q4, Heap.size_push, hsz]
  have y4 : ∀ b o, b ≠ e → m1.get? b = some o → m4.get? b = some o := fun b o hbe hb => by
    (rw [← q4]; exact Heap.get?_push_of_some _ (u3.extBut b o hbe (u2.extBut b o hbe hb)))
  (show wpAny _ _ (Builtin.SmallTypes.ownedTupleIsFree (.ref e) >>= _) _ _ ⟨m4, gg, dd, tk + 1, oo⟩)
  (rw [hsz])
  (clear q4 w3 u3 w2 u2 hsz m3 m2)
  (refine wpAny_bind ?_)
  · (unfold Builtin.SmallTypes.ownedTupleIsFree)
    (refine wpAny_bind (wpAny_field w4 rfl (x := .none) rfl (wpAny_pure ?_)))
    (simp only [if_true])
    (refine wpAny_bind (wpAny_rule ?_))
    (refine wpAny_bind (wpAny_field w4 rfl (x := old) rfl ?_))
    (refine wpAny_bind (wpAny_setField_rec w4 (by simp) fun m5 w5 u5 => ?_))
    (replace u5 : Heap.SameBut e m4 m5 := u5)
    (replace w5 : IsEnum m5 e it (c + 1) x := w5)
    (show wpAny _ _ (Builtin.SmallTypes.ownedTupleHandOut (.ref e) (.ref m1.objs.size) >>= _) _ _ ⟨m5, gg, dd, tk + 1, oo⟩)
    (refine wpAny_bind ?_)
    · (unfold Builtin.SmallTypes.ownedTupleHandOut)
      (refine wpAny_bind (wpAny_setField_rec w5 (by simp) fun m6 w6 u6 => ?_))
      (replace u6 : Heap.SameBut e m5 m6 := u6)
      (replace w6 : IsEnumOut m6 e it (c + 1) x m1.objs.size := w6)
      (refine wpAny_setField_rec w6 (by simp) fun m7 w7 u7 => ?_)
      (replace u7 : Heap.SameBut e m6 m7 := u7)
      (replace w7 : IsEnumOut m7 e it (c + 1) x m1.objs.size := w7)
      (refine wpAny_bind (wpAny_letGo (wpAny_pure ⟨_, rfl, hQ x m1 m7 px w7 ?_ ?_ ?_⟩)))
      · (exact u7.extBut _ _ (Nat.ne_of_gt hel) (u6.extBut _ _ (Nat.ne_of_gt hel) (u5.extBut _ _ (Nat.ne_of_gt hel) t4)))
      · (rw [u7.1, u6.1, u5.1, z4])
      · (exact fun b o hbe hb => u7.extBut b o hbe (u6.extBut b o hbe (u5.extBut b o hbe (y4 b o hbe hb))))
theorem enz_item {e z TI TO i1 i2 l1 l2 : Addr} {k : Nat} {c : Int} {xs ys : Array Value} {x y a b old : Value} {Q : Option Value → Shared → Prop} (D : ZipApart z TI TO i1 i2 l1 l2) (hne : e ≠ z ∧ e ≠ TO ∧ e ≠ i1 ∧ e ≠ i2)
    (he : IsEnum s.heap e z c old) (hz : ZS s.heap z TI TO) (hTI : IsPair s.heap TI (.ref i1) (.ref i2)) (hTO : IsPair s.heap TO a b)
    (h1 : s.heap.IsTupleIter i1 l1 k) (h2 : s.heap.IsTupleIter i2 l2 k) (hl1 : s.heap.IsTuple l1 xs) (hl2 : s.heap.IsTuple l2 ys) (hx : xs[k]? = some x) (hy : ys[k]? = some y)
    (hQ : ∀ m1 h', ZS m1 z TI TO → (∃ a b, IsPair m1 TO a b) → m1.IsTupleIter i1 l1 (k + 1) → m1.IsTupleIter i2 l2 (k + 1) → IsPair m1 s.heap.objs.size x y → m1.objs.size = s.heap.objs.size + 1 →
      (∀ c o, c ≠ z → c ≠ TO → c ≠ i1 → c ≠ i2 → s.heap.get? c = some o → m1.get? c = some o) → IsEnumOut h' e z (c + 1) (.ref s.heap.objs.size) (s.heap.objs.size + 1) → h'.get? (s.heap.objs.size + 1) = some { cls := .type "tuple", data := .seq #[.int c s.toks, .ref s.heap.objs.size] } → h'.objs.size = s.heap.objs.size + 2 →
      (∀ b o, b ≠ e → m1.get? b = some o → h'.get? b = some o) → Q (some (.ref (s.heap.objs.size + 1))) { s with heap := h', toks := s.toks + 1 }) :
    wpAny (model prog w) A (pyNext (.ref e)) Q E s := by
  have tt : s.TypeIs (.ref e) "enumerate" := ⟨_, he, rfl⟩
  have tz := zs_type hz
  unfold pyNext
  refine (wpAny_bind (wpAny_attempt (wpAny_callSpecial?_slot (name := Str.ofString "__next__") tt F.slot_enumerate_next (wpAny_call_entry F.slot_enumerate_next tt F.entry_enumerate_next ?_ (F.args_enumerate_next_1 _)))))
  refine en_gen (P := fun v m1 => v = .ref s.heap.objs.size ∧ ZS m1 z TI TO ∧ (∃ a b, IsPair m1 TO a b) ∧ m1.IsTupleIter i1 l1 (k + 1) ∧ m1.IsTupleIter i2 l2 (k + 1) ∧ IsPair m1 s.heap.objs.size x y ∧ m1.objs.size = s.heap.objs.size + 1 ∧ ∀ c o, c ≠ z → c ≠ TO → c ≠ i1 → c ≠ i2 → s.heap.get? c = some o → m1.get? c = some o) he (fun R hR => ?_) fun v m1 h' ⟨ev, p1, p2, p3, p4, p5, p6, p7⟩ q1 q2 q3 q4 => ?_
  · unfold Builtin.SmallTypes.nextOf
    refine wpAny_bind (wpAny_callSpecial?_slot (name := Str.ofString "__next__") tz F.slot_zip_next (wpAny_call_entry F.slot_zip_next tz F.entry_zip_next (zs_item D hz hTI hTO h1 h2 hl1 hl2 hx hy fun m1 a1 a2 a3 a4 a5 a6 a7 => wpAny_pure ?_) (F.args_zip_next_1 _)))
    exact (hR _ m1 (a7 _ _ hne.1 hne.2.1 hne.2.2.1 hne.2.2.2 he) ⟨rfl, a1, a2, a3, a4, a5, a6, a7⟩)
  · subst ev
    rw [p6] at q1 q2 q3
    refine wpAny_pure ?_
    rw [p6]
    exact hQ m1 h' p1 p2 p3 p4 p5 p6 p7 q1 q2 q3 q4
theorem enz_end {e z TI TO i1 i2 l1 l2 : Addr} {k : Nat} {c : Int} {xs ys : Array Value} {a b old : Value} {Q : Option Value → Shared → Prop} (hh : A.handled = none) (D : ZipApart z TI TO i1 i2 l1 l2)
    (he : IsEnum s.heap e z c old) (hz : ZS s.heap z TI TO) (hTI : IsPair s.heap TI (.ref i1) (.ref i2)) (hTO : IsPair s.heap TO a b)
    (h1 : s.heap.IsTupleIter i1 l1 k) (h2 : s.heap.IsTupleIter i2 l2 k) (hl1 : s.heap.IsTuple l1 xs) (hl2 : s.heap.IsTuple l2 ys) (hend : xs[k]? = none ∨ ys[k]? = none)
    (hQ : ∀ h', (∀ c o, c ≠ z → c ≠ TO → c ≠ i1 → c ≠ i2 → s.heap.get? c = some o → h'.get? c = some o) → Q none { s with heap := h' }) : wpAny (model prog w) A (pyNext (.ref e)) Q E s := by
  have tt : s.TypeIs (.ref e) "enumerate" := ⟨_, he, rfl⟩
  have tz := zs_type hz
  unfold pyNext
  refine (wpAny_bind (wpAny_attempt (wpAny_callSpecial?_slot (name := Str.ofString "__next__") tt F.slot_enumerate_next (wpAny_call_entry F.slot_enumerate_next tt F.entry_enumerate_next ?_ (F.args_enumerate_next_1 _)))))
  show wpAny _ _ (field (.ref e) 2 >>= fun _ => _) _ _ _
  refine (wpAny_bind (wpAny_field he rfl (x := .ref z) rfl ?_))
  refine wpAny_bind ?_
  unfold Builtin.SmallTypes.nextOf
  refine wpAny_bind (wpAny_callSpecial?_slot (name := Str.ofString "__next__") tz F.slot_zip_next (wpAny_call_entry F.slot_zip_next tz F.entry_zip_next (zs_end hh D hz hTI hTO h1 h2 hl1 hl2 hend fun k x he' hx' => ?_) (F.args_zip_next_1 _)))
  obtain ⟨ob, ho, hc⟩ := hx'
  refine (wpAny_bind (wpAny_isInstance (T := "StopIteration") (b := true) ⟨ob, ho, hc⟩ isSubtype_stop ?_))
  exact (wpAny_pure (hQ _ he'))
end
end TEz
set_option Elab.async false
set_option linter.all false
set_option maxRecDepth 100000
set_option maxHeartbeats 4000000
/-! for k, (a, b) in enumerate(zip(x, y), start=e) -/
namespace TEz
open PySem PySem.Spec PyProof.Rows L2 TEn RZ
open Sem (wp)
open AutoSeq1 (wpAny_loadPart')
theorem en_newZ (z TI TO : Addr) (c : Int) (t : Tok) (hc : Builtin.SmallTypes.fitsIndex c = true) : Meets (Builtin.«enumerate.__new__» ⟨[.type "enumerate", .ref z], [(Str.ofString "start", .int c t)]⟩) (fun _ R s => IsZip s.heap z TI TO .none ∧ R (.ok (.ret (.ref s.heap.objs.size))) { s with heap := s.heap.push { cls := .type "enumerate", data := .fields #[.none, .bool false, .ref z, rawInt c, .none, .none] } }) :=
  .of_wp fun prog w A R s h => by
    obtain ⟨hp, gg, dd, tk, oo⟩ := s
    obtain ⟨hl, h⟩ := h
    have sb := sub_enumerate
    have nf : (!Builtin.SmallTypes.fitsIndex c) = false := by rw [hc]; rfl
    have hz : IsZip (Shared.heap ⟨hp, gg, dd, tk, oo⟩) z TI TO .none := hl
    wp_walk using wpAny_loadPart' hl
    refine wpAny_stack_any fun st => wpAny_pure ?_
    split
    · rename_i c0 _ _ _ _ _
      cases (c0 == Value.type "enumerate")
      · wp_walk using wpAny_loadPart' hl, wpAny_pyIter_zip hz
        exact ⟨_, rfl, h⟩
      · wp_walk using wpAny_loadPart' hl, wpAny_pyIter_zip hz
        exact ⟨_, rfl, h⟩
    · wp_walk using wpAny_loadPart' hl, wpAny_pyIter_zip hz
      exact ⟨_, rfl, h⟩
section
variable {prog : Program} {w : World} {A : Around} {E : Value → Shared → Prop} {s : Shared}
theorem en_callZ {z TI TO : Addr} {c : Int} {t : Tok} {Q : Value → Shared → Prop} (hc : Builtin.SmallTypes.fitsIndex c = true) (hz : IsZip s.heap z TI TO .none)
    (h : ∀ k, IsEnum k s.heap.objs.size z c .none → k.objs.size = s.heap.objs.size + 1 → (∀ b o, s.heap.get? b = some o → k.get? b = some o) → Q (.ref s.heap.objs.size) { s with heap := k }) :
    wpAny (model prog w) A (call (.type "enumerate") [.ref z] (kwS (.int c t))) Q E s := by
  refine (en_callT (Q1 := fun obj s1 => s1.TypeIs obj "enumerate" ∧ Q obj s1) F.called_enumerate (en_c1 _ _) (en_c2 _ _) F.entry_enumerate_new F.entry_object_init (en_newZ z TI TO c t hc) ⟨hz, ?_⟩ fun obj s1 hq => ⟨hq.1, en_c3 _ _ _, _, en_init F.called_enumerate.init.lookup F.called_enumerate.made (by decide), hq.1, rfl, hq.2⟩)
  have he := Heap.get?_push_size s.heap (o := { cls := .type "enumerate", data := .fields #[.none, .bool false, .ref z, rawInt c, .none, .none] }) rfl
  exact ⟨⟨_, he, rfl⟩, h _ he (Heap.size_push ..) fun b o x => Heap.get?_push_of_some _ x⟩
end
/-- the items of two tuples at their turns: a new pair, and a new pair of the number and that -/
def IteZ (K : PySem.W.Frag) (a b : Addr) (c : Int) : It :=
  ⟨fun i H => ∃ (xs ys : List V) (x y : V), SqT K H a xs ∧ SqT K H b ys ∧ xs[i]? = some x ∧ ys[i]? = some y,
   fun i H v H' => ∃ T1 T2 x y, v = .ref T2 ∧ H T1 = none ∧ upd H T1 (.tup [x, y]) T2 = none ∧ H' = upd (upd H T1 (.tup [x, y])) T2 (.tup [.int (c + (i : Nat)), .ref T1]) ∧ (∀ xs, SqT K H a xs → xs[i]? = some x) ∧ ∀ ys, SqT K H b ys → ys[i]? = some y,
   fun i H => ∃ xs ys : List V, SqT K H a xs ∧ SqT K H b ys ∧ (xs.length ≤ i ∨ ys.length ≤ i)⟩
theorem six_of {b e z TI TO i1 i2 : Addr} (h : b ∈ [e, z, TI, TO, i1, i2]) : b = e ∨ b = z ∨ b = TI ∨ b = TO ∨ b = i1 ∨ b = i2 := by simpa using h
theorem turn_enZ {P : Program} {w : World} {K : PySem.W.Frag} {elts : List Expr} {kk : Nat} {tpos : Pos} {a b e z TI TO i1 i2 : Addr} (c : Int) (D : ZipApart z TI TO i1 i2 a b) (hne : e ≠ z ∧ e ≠ TO ∧ e ≠ i1 ∧ e ≠ i2) (hneT : e ≠ TI) :
    Turn P w K (.Tuple elts kk tpos) (IteZ K a b c) [e, z, TI, TO, i1, i2] e (fun i h => (∃ old, IsEnum h e z (c + (i : Nat)) old) ∧ ZS h z TI TO ∧ IsPair h TI (.ref i1) (.ref i2) ∧ (∃ x y, IsPair h TO x y) ∧ h.IsTupleIter i1 a i ∧ h.IsTupleIter i2 b i) where
  mem := List.mem_cons_self
  obj := fun i h st q hq => by
    obtain ⟨⟨old, he⟩, ⟨f0, f, hz, _⟩, hTI, ⟨x, y, hTO⟩, ⟨o1, e1, _, d1⟩, ⟨o2, e2, _, d2⟩⟩ := st
    rcases six_of hq with rfl | rfl | rfl | rfl | rfl | rfl
    · exact ⟨_, he, fun v q => nomatch q⟩
    · exact ⟨_, hz, fun v q => nomatch q⟩
    · exact ⟨_, hTI, fun v q => nomatch q⟩
    · exact ⟨_, hTO, fun v q => nomatch q⟩
    · exact ⟨o1, e1, fun v q => by rw [d1] at q; cases q⟩
    · exact ⟨o2, e2, fun v q => by rw [d2] at q; cases q⟩
  keep := fun i h k st y => by
    obtain ⟨⟨old, he⟩, ⟨f0, f, hz, hc⟩, hTI, ⟨u, v, hTO⟩, h1, h2⟩ := st
    exact ⟨⟨old, y e (by simp) _ he⟩, ⟨f0, f, y z (by simp) _ hz, hc⟩, y TI (by simp) _ hTI, ⟨u, v, y TO (by simp) _ hTO⟩, h1.at fun o q => y i1 (by simp) o q, h2.at fun o q => y i2 (by simp) o q⟩
  item := by
    intro X hP hw hK hc i pins s σ H E I hf st hg
    subst hP hw hK
    obtain ⟨⟨old, he⟩, hz, hTI, ⟨x0, y0, hTO⟩, h1, h2⟩ := st
    obtain ⟨xs, ys, x, y, hqx, hqy, hx, hy⟩ := hg
    obtain ⟨its, rv, p, _⟩ := I.tuple hqx
    obtain ⟨its2, rv2, p2, _⟩ := I.tuple hqy
    obtain ⟨u, hu, ru⟩ := rv.get hx
    obtain ⟨u2, hu2, ru2⟩ := rv2.get hy
    have le : e < s.heap.objs.size := Heap.lt_size he
    refine enz_item D hne he hz hTI hTO h1 h2 p p2 (x := u) (y := u2) (by simpa using hu) (by simpa using hu2) fun m1 k q1 q2 q3 q4 q5 q6 q7 r1 r2 r3 r4 => ?_
    refine ⟨_, rfl, wpAny_letOwnedTupleGo_enum (s := { s with heap := k, toks := s.toks + 1 }) r1 fun k2 he2 sb => ?_⟩
    have kp : ∀ b o, b ≠ e → m1.get? b = some o → k2.get? b = some o := fun b o hb q => (sb.2 b hb).trans (r4 b o hb q)
    have n1 : H s.heap.objs.size = none := I.hok.fresh (Nat.le_refl _)
    have new1 : ObjOk X.prog X.w (upd H s.heap.objs.size (.tup [x, y])) m1 s.heap.objs.size (.tup [x, y]) := ⟨by show 2 ≤ sizeLine; decide, [u, u2], .cons ru (.cons ru2 .nil), ⟨_, q5, rfl, _, rfl⟩⟩
    have I1 : Inv X pins σ (upd H s.heap.objs.size (.tup [x, y])) { s with heap := m1 } := I.turnedNew (t' := s.toks) (ch := [z, TI, TO, i1, i2]) (fun b o hb q => q7 b o (fun w => hb (by simp [w])) (fun w => hb (by simp [w])) (fun w => hb (by simp [w])) (fun w => hb (by simp [w])) q) (fun b hb => hf b (List.mem_cons_of_mem _ hb)) (Nat.le_refl _) new1
    have n2 : upd H s.heap.objs.size (.tup [x, y]) (s.heap.objs.size + 1) = none := I1.hok.fresh (by show m1.objs.size ≤ _; rw [q6]; exact Nat.le_refl _)
    have t2 : k2.get? (s.heap.objs.size + 1) = some { cls := .type "tuple", data := .seq #[.int (c + (i : Nat)) s.toks, .ref s.heap.objs.size] } := (sb.2 _ (Nat.ne_of_gt (Nat.lt_succ_of_lt le))).trans r2
    have new2 : ObjOk X.prog X.w (upd (upd H s.heap.objs.size (.tup [x, y])) (s.heap.objs.size + 1) (.tup [.int (c + (i : Nat)), .ref s.heap.objs.size])) k2 (s.heap.objs.size + 1) (.tup [.int (c + (i : Nat)), .ref s.heap.objs.size]) := ⟨by show 2 ≤ sizeLine; decide, [.int (c + (i : Nat)) s.toks, .ref s.heap.objs.size], .cons ⟨_, rfl⟩ (.cons rfl .nil), ⟨_, t2, rfl, _, rfl⟩⟩
    have fe : FpOk X pins (upd H s.heap.objs.size (.tup [x, y])) e := ⟨by rw [upd_ne (Nat.ne_of_lt le)]; exact (hf e List.mem_cons_self).1, (hf e List.mem_cons_self).2⟩
    have I2 : Inv X pins σ (upd (upd H s.heap.objs.size (.tup [x, y])) (s.heap.objs.size + 1) (.tup [.int (c + (i : Nat)), .ref s.heap.objs.size])) { s with heap := k2, toks := s.toks + 1 } := I1.turnedNew (t' := s.toks + 1) (ch := [e]) (fun b o hb q => kp b o (fun w => hb (by simp [w])) q) (fun b hb => by rw [List.mem_singleton.mp hb]; exact fe) (by show m1.objs.size ≤ _; rw [q6]; exact Nat.le_refl _) new2
    obtain ⟨f0, f, qz, qc⟩ := q1
    obtain ⟨a0, b0, qTO⟩ := q2
    have qTI : IsPair m1 TI (.ref i1) (.ref i2) := q7 _ _ D.TIz D.TITO D.TIi1 D.TIi2 hTI
    refine ⟨.ref (s.heap.objs.size + 1), _, I2, rfl, ⟨s.heap.objs.size, s.heap.objs.size + 1, x, y, rfl, n1, n2, rfl, fun zs hz' => by rw [I.tuple_inj hz' hqx]; exact hx, fun zs hz' => by rw [I.tuple_inj hz' hqy]; exact hy⟩, ⟨⟨.ref s.heap.objs.size, ?_⟩, ⟨f0, f, kp _ _ (Ne.symm hne.1) qz, qc⟩, kp _ _ (Ne.symm hneT) qTI, ⟨a0, b0, kp _ _ (Ne.symm hne.2.1) qTO⟩, q3.at fun o q => kp _ o (Ne.symm hne.2.2.1) q, q4.at fun o q => kp _ o (Ne.symm hne.2.2.2) q⟩, fun q hq => ?_⟩
    · have e1 : c + ((i + 1 : Nat) : Int) = c + (i : Int) + 1 := by omega
      rw [e1]
      exact he2
    · have lq : q < s.heap.objs.size := by
        obtain ⟨f1, f2, hz0, _⟩ := hz
        obtain ⟨_, g1, _⟩ := h1
        obtain ⟨_, g2, _⟩ := h2
        rcases six_of hq with rfl | rfl | rfl | rfl | rfl | rfl
        · exact le
        · exact Heap.lt_size hz0
        · exact Heap.lt_size hTI
        · exact Heap.lt_size hTO
        · exact Heap.lt_size g1
        · exact Heap.lt_size g2
      rw [upd_ne (Nat.ne_of_lt (Nat.lt_succ_of_lt lq)), upd_ne (Nat.ne_of_lt lq)]
      exact (hf q hq).1
  done := by
    intro X hP hw hK hc i pins s σ H E I hf st hg
    subst hP hw hK
    obtain ⟨⟨old, he⟩, hz, hTI, ⟨x0, y0, hTO⟩, h1, h2⟩ := st
    obtain ⟨xs, ys, hqx, hqy, hx⟩ := hg
    obtain ⟨its, rv, p, _⟩ := I.tuple hqx
    obtain ⟨its2, rv2, p2, _⟩ := I.tuple hqy
    have l1 := rv.length
    have l2 := rv2.length
    have hend : its.toArray[i]? = none ∨ its2.toArray[i]? = none := by
      rcases hx with h | h
      · exact .inl (by simp; omega)
      · exact .inr (by simp; omega)
    exact enz_end (I.ok.hd hc) D he hz hTI hTO h1 h2 p p2 hend fun k hk => ⟨rfl, I.turnedL (t' := s.toks) (ch := [e, z, TI, TO, i1, i2]) (fun q o hb w => hk q o (fun v => hb (by simp [v])) (fun v => hb (by simp [v])) (fun v => hb (by simp [v])) (fun v => hb (by simp [v])) w) hf⟩
  self := fun A i s Q E st h => by
    obtain ⟨⟨_, he⟩, _⟩ := st
    exact wpAny_pyIter_enum he h
def iEnZ (K : PySem.W.Frag) (ta : TA) (tk : TE) : L2.TI := fun σ H R => ta σ H fun vs H1 => ∃ a b xs ys, vs = [.ref a, .ref b] ∧ SqT K H1 a xs ∧ SqT K H1 b ys ∧ tk σ H1 fun v H2 => ∃ c, [v] = [V.int c] ∧ Builtin.SmallTypes.fitsIndex c = true ∧ SqT K H2 a xs ∧ SqT K H2 b ys ∧ R (IteZ K a b c) H2
theorem pi_enZ {X : Cx} {e1 e2 e3 : Expr} {ta : TA} {te : TE} {p pz pos posz tpos kp : Pos} {elts : List Expr} {kk : Nat} (hg : Gl X "enumerate") (hm : X.mg "enumerate" = none) (hgz : Gl X "zip") (hmz : X.mg "zip" = none) (ha : PA X [e1, e2] ta) (h3 : PE X e3 te)
    (hs : starEach [.Call (.Name "zip" pz) [e1, e2] [] posz] X.env = [(false, eval (.Call (.Name "zip" pz) [e1, e2] [] posz) X.env)]) (hsz : starEach [e1, e2] X.env = (false, eval e1 X.env) :: starEach [e2] X.env) (hpl : (backTo posz (starEach [e2] X.env)).any (·.1) = false) :
    PI X (.Tuple elts kk tpos) (.Call (.Name "enumerate" p) [.Call (.Name "zip" pz) [e1, e2] [] posz] [⟨some "start", e3, kp⟩] pos) (iEnZ X.K ta te) := by
  refine ⟨fun pins s σ H R I h => ?_⟩
  have hst : backTo pos (starEach [.Call (.Name "zip" pz) [e1, e2] [] posz] X.env) = (false, eval (.Call (.Name "zip" pz) [e1, e2] [] posz) X.env) :: backTo pos (starEach [] X.env) := by rw [hs]; rfl
  refine wpAny_Call_Name_kw (ld_blt I hg hm boot_enumerate ?_)
  refine (en_with ?_ hst (by rw [hs]; rfl) rfl rfl)
  rw [hst]
  refine Calls.spliced_cons ?_
  refine Call_ (ld_blt I hgz hmz PyProof.Rows.boot_zip (PyProof.Rows.callWith_type1 (thn (ha.run posz pins s σ H _ I h) fun us s1 ⟨vs, H1, I1, r1, q1⟩ => ?_) hsz hpl))
  obtain ⟨a, b, xs, ys, ex, hqx, hqy, q⟩ := q1
  subst ex
  cases r1 with
  | cons r rr =>
    cases rr with
    | cons r' rr =>
      cases rr
      cases r
      cases r'
      obtain ⟨its, rv, p1, _⟩ := I1.tuple hqx
      obtain ⟨its2, rv2, p2, _⟩ := I1.tuple hqy
      obtain ⟨o1, ho1, _⟩ := id p1
      obtain ⟨o2, ho2, _⟩ := id p2
      have D := PySem.W.ktu_apart s1.heap.objs.size a b (Heap.lt_size ho1) (Heap.lt_size ho2)
      refine call_zipT p1 p2 fun h' hz hTI hTO h1 h2 hsize hk => ?_
      have I2 : Inv X pins σ H1 { s1 with heap := h' } := I1.kept (t' := s1.toks) hk
      have big : ∀ q, q ∈ [s1.heap.objs.size + 4, s1.heap.objs.size + 2, s1.heap.objs.size + 3, s1.heap.objs.size, s1.heap.objs.size + 1] → s1.heap.objs.size ≤ q := fun q hq => by
        have e' : q = s1.heap.objs.size + 4 ∨ q = s1.heap.objs.size + 2 ∨ q = s1.heap.objs.size + 3 ∨ q = s1.heap.objs.size ∨ q = s1.heap.objs.size + 1 := by simpa using hq
        rcases e' with w | w | w | w | w
        · rw [w]; exact Nat.le_add_right _ _
        · rw [w]; exact Nat.le_add_right _ _
        · rw [w]; exact Nat.le_add_right _ _
        · rw [w]; exact Nat.le_refl _
        · rw [w]; exact Nat.le_add_right _ _
      have fresh5 : ∀ q, q ∈ [s1.heap.objs.size + 4, s1.heap.objs.size + 2, s1.heap.objs.size + 3, s1.heap.objs.size, s1.heap.objs.size + 1] → FpOk X pins H1 q := fun q hq => I1.fpOk (big q hq) (I1.hok.fresh (big q hq))
      obtain ⟨ob1, g1, gc1, gd1⟩ := id h1
      obtain ⟨ob2, g2, gc2, gd2⟩ := id h2
      have I3 := I2.pinned (fp := [s1.heap.objs.size + 4, s1.heap.objs.size + 2, s1.heap.objs.size + 3, s1.heap.objs.size, s1.heap.objs.size + 1]) fresh5 fun q hq => by
        have e' : q = s1.heap.objs.size + 4 ∨ q = s1.heap.objs.size + 2 ∨ q = s1.heap.objs.size + 3 ∨ q = s1.heap.objs.size ∨ q = s1.heap.objs.size + 1 := by simpa using hq
        rcases e' with w | w | w | w | w
        · rw [w]; exact ⟨_, hz, fun v q => nomatch q⟩
        · rw [w]; exact ⟨_, hTI, fun v q => nomatch q⟩
        · rw [w]; exact ⟨_, hTO, fun v q => nomatch q⟩
        · rw [w]; exact ⟨ob1, g1, fun v q => by rw [gd1] at q; cases q⟩
        · rw [w]; exact ⟨ob2, g2, fun v q => by rw [gd2] at q; cases q⟩
      refine Calls.spliced_nil ?_
      refine thn ((pk_cons (nm := some "start") (kpos := kp) h3 pk_nil).run pos _ { s1 with heap := h' } σ H1 (fun zs H2 => ∃ c, zs = [.int c] ∧ Builtin.SmallTypes.fitsIndex c = true ∧ SqT X.K H2 a xs ∧ SqT X.K H2 b ys ∧ R (IteZ X.K a b c) H2) I3 q) fun ws s3 ⟨zs, H3, I4, r2, c, e1', hc, hqx3, hqy3, q3⟩ => ?_
      subst e1'
      obtain ⟨v, rfl, t, rfl⟩ := vals1 r2
      have pin : ∀ q o, q ∈ [s1.heap.objs.size + 4, s1.heap.objs.size + 2, s1.heap.objs.size + 3, s1.heap.objs.size, s1.heap.objs.size + 1] → h'.get? q = some o → s3.heap.get? q = some o ∧ H3 q = none := fun q o hq ho => by
        obtain ⟨w1, w2, _⟩ := I4.pin (q, o) (List.mem_append_right _ (List.mem_append_right _ (mem_pinsAt hq ho)))
        exact ⟨w1, w2⟩
      have z3 : IsZip s3.heap (s1.heap.objs.size + 4) (s1.heap.objs.size + 2) (s1.heap.objs.size + 3) .none := (pin _ _ (by simp) hz).1
      have TI3 : IsPair s3.heap (s1.heap.objs.size + 2) (.ref s1.heap.objs.size) (.ref (s1.heap.objs.size + 1)) := (pin _ _ (by simp) hTI).1
      have TO3 : IsPair s3.heap (s1.heap.objs.size + 3) .none .none := (pin _ _ (by simp) hTO).1
      have i13 : s3.heap.IsTupleIter s1.heap.objs.size a 0 := ⟨ob1, (pin _ _ (by simp) g1).1, gc1, gd1⟩
      have i23 : s3.heap.IsTupleIter (s1.heap.objs.size + 1) b 0 := ⟨ob2, (pin _ _ (by simp) g2).1, gc2, gd2⟩
      have I5 : Inv X pins σ H3 s3 := I4.unpinned
      have sz3 : s1.heap.objs.size + 5 ≤ s3.heap.objs.size := Heap.lt_size z3
      refine en_callZ hc z3 fun k he hks hkk => wpAny_pyIter_enum he ?_
      have I6 : Inv X pins σ H3 { s3 with heap := k } := I5.kept (t' := s3.toks) hkk
      have ne : ∀ j : Nat, j ≤ 4 → s3.heap.objs.size ≠ s1.heap.objs.size + j := fun j hj w => by
        have w' : (s3.heap.objs.size : Nat) = s1.heap.objs.size + j := w
        omega
      refine ⟨s3.heap.objs.size, [s3.heap.objs.size, s1.heap.objs.size + 4, s1.heap.objs.size + 2, s1.heap.objs.size + 3, s1.heap.objs.size, s1.heap.objs.size + 1], _, _, H3, rfl, I6, turn_enZ c D ⟨ne 4 (by decide), ne 3 (by decide), ne 0 (by decide), ne 1 (by decide)⟩ (ne 2 (by decide)), ⟨⟨.none, ?_⟩, ⟨_, _, hkk _ _ z3, .inl rfl⟩, hkk _ _ TI3, ⟨_, _, hkk _ _ TO3⟩, i13.at fun o w => hkk _ o w, i23.at fun o w => hkk _ o w⟩, fun q hq => ?_, q3⟩
      · have e0 : c + ((0 : Nat) : Int) = c := by omega
        rw [e0]
        exact he
      · rcases List.mem_cons.mp hq with w | w
        · rw [w]; exact I5.fpOk (Nat.le_refl _) (I5.hok.fresh (Nat.le_refl _))
        · have hn : H3 q = none := by
            have e' : q = s1.heap.objs.size + 4 ∨ q = s1.heap.objs.size + 2 ∨ q = s1.heap.objs.size + 3 ∨ q = s1.heap.objs.size ∨ q = s1.heap.objs.size + 1 := by simpa using w
            rcases e' with w | w | w | w | w
            · rw [w]; exact (pin _ _ (by simp) hz).2
            · rw [w]; exact (pin _ _ (by simp) hTI).2
            · rw [w]; exact (pin _ _ (by simp) hTO).2
            · rw [w]; exact (pin _ _ (by simp) g1).2
            · rw [w]; exact (pin _ _ (by simp) g2).2
          exact I1.fpOk (big q w) hn
end TEz
set_option Elab.async false
set_option linter.all false
set_option maxRecDepth 100000
set_option maxHeartbeats 4000000
/-! sorted of tuples whose first items are unlike ints; math.lcm; a local that holds a def -/
namespace SrtH
open PySem PySem.Spec PyProof.Rows Srt SrtO
section
variable {prog : Program} {w : World} {A : Around} {E : Value → Shared → Prop} {s : Shared}
/-- a tuple whose first item is the int x -/
def IsHd (h : Heap) (v : Value) (x : Int) : Prop := ∃ a o t r n, v = .ref a ∧ h.get? a = some o ∧ o.cls = .type "tuple" ∧ o.data = .seq (List.toArray (.int x t :: r)) n
theorem IsHd.keeps {h h' : Heap} {v : Value} {x : Int} (k : IsHd h v x) (q : ∀ b o, h.get? b = some o → o.cls = .type "tuple" → h'.get? b = some o) : IsHd h' v x := by
  obtain ⟨a, o, t, r, n, e, ho, hc, hd⟩ := k
  exact ⟨a, o, t, r, n, e, q a o ho hc, hc, hd⟩
def ltH (k : Value → Int) (v u : Value) : Bool := decide (k v < k u)
theorem swoH (k : Value → Int) : Swo (ltH k) := by
  refine ⟨fun x y h => ?_, fun x y z h1 h2 => ?_⟩
  · unfold ltH at h ⊢
    have := of_decide_eq_true h
    exact decide_eq_false (by omega)
  · unfold ltH at h1 h2 ⊢
    have a := of_decide_eq_false h1
    have b := of_decide_eq_false h2
    exact decide_eq_false (by omega)
theorem lex_same {b : Bool} {Q : Bool → Shared → Prop} (hq : Q false s) : ∀ (l : List Value) (i : Nat), PySem.W.KatLex prog w A b false Q (l.zip l) i s
  | [], i => PySem.W.kat_nil hq
  | v :: l, i => by
    refine PySem.W.kat_cons (SeqAt.EqAt.same v prog w _ _ ?_)
    exact PySem.W.kat_go (fun _ => PySem.W.kat_yes (lex_same hq l (i + 1))) (fun z => by cases z)
theorem hd_cmp {vs : List Value} {k : Value → Int} (hp : ∀ v ∈ vs, IsHd s.heap v (k v)) (inj : ∀ v ∈ vs, ∀ u ∈ vs, k v = k u → v = u) : Cmp prog w A s (tuples' true) (fun p => p.1 ∈ vs) (lt2 (ltH k)) := by
  intro p q hm hm'
  have h1 := hp _ hm
  have h2 := hp _ hm'
  have hj := inj _ hm _ hm'
  show wpAny (model prog w) A (keyLt' (tuples' true) p.1 q.1) (fun r s' => s' = s ∧ r = ltH k p.1 q.1) (fun _ _ => False) s
  unfold ltH
  generalize k p.1 = x at h1 hj ⊢
  generalize k q.1 = x' at h2 hj ⊢
  by_cases hx : x = x'
  · have e0 := hj hx
    subst hx
    obtain ⟨a, o, t, r, n, e, ho, hc, hd⟩ := h1
    rw [← e0, e]
    refine PySem.W.kat_lt ho hd ho hd ?_
    rw [show decide ((List.toArray (Value.int x t :: r)).size < (List.toArray (Value.int x t :: r)).size) = false from decide_eq_false (Nat.lt_irrefl _)]
    exact lex_same ⟨rfl, (decide_eq_false (Int.lt_irrefl _)).symm⟩ _ _
  · obtain ⟨a, o, t, r, n, e, ho, hc, hd⟩ := h1
    obtain ⟨a', o', t', r', n', e', ho', hc', hd'⟩ := h2
    rw [e, e']
    refine PySem.W.kat_lt ho hd ho' hd' ?_
    show PySem.W.KatLex prog w A true _ _ ((.int x t, .int x' t') :: r.zip r') 0 s
    refine PySem.W.kat_cons (SeqAt.EqAt.int_int x t x' t' prog w _ _ ?_)
    refine PySem.W.kat_go (fun e1 => absurd (by simpa using e1) hx) (fun e1 => ?_)
    exact PySem.W.kat_no (oneLt_int ⟨rfl, rfl⟩)
theorem hd_firsts {h : Heap} : ∀ {vs : List Value}, (∀ v ∈ vs, ∃ x, IsHd h v x) → ∃ fs : List Value, PySem.W.KatTups h vs fs ∧ fs.length = vs.length ∧ ∀ f ∈ fs, ∃ x t, f = Value.int x t
  | [], _ => ⟨[], PySem.W.KatTups.nil, rfl, fun f hf => by simp at hf⟩
  | v :: vs, hv => by
    obtain ⟨fs, h1, h2, h3⟩ := hd_firsts (vs := vs) fun u hu => hv u (List.mem_cons_of_mem _ hu)
    obtain ⟨x, a, o, t, r, n, e, ho, hc, hd⟩ := hv v List.mem_cons_self
    subst e
    refine ⟨.int x t :: fs, PySem.W.KatTups.cons ho hc hd (by simp) h1, by simp [h2], fun f hf => ?_⟩
    rcases List.mem_cons.mp hf with rfl | hf
    · exact ⟨x, t, rfl⟩
    · exact h3 f hf
theorem hd_sortable {a : Addr} {vs : List Value} {k : Value → Int} (h0 : 0 < vs.length) (hp : ∀ v ∈ vs, IsHd s.heap v (k v)) (inj : ∀ v ∈ vs, ∀ u ∈ vs, k v = k u → v = u) (ha : ∀ o, s.heap.get? a = some o → o.cls ≠ .type "tuple") : SortableO prog w A s a vs (ltH k) := by
  intro h' keep
  have hp' : ∀ v ∈ vs, IsHd h' v (k v) := fun v hm => (hp v hm).keeps fun b o e c => keep b o (fun z => by subst z; exact ha o e c) e
  obtain ⟨fs, h1, h2, h3⟩ := hd_firsts fun v hm => ⟨_, hp' v hm⟩
  refine ⟨tuples' true, fun Q E hq => ?_, hd_cmp hp' inj⟩
  refine PySem.W.kat_kind (T := .type "int") h1 (by omega) (fun f hm => ?_) (by rfl) ?_
  · obtain ⟨x, t, rfl⟩ := h3 f hm
    exact PySem.W.Looks.now
  · have e : (Value.type "int" != Value.type "tuple") = true := by first | decide +kernel | rfl | decide
    rw [e]
    exact hq
theorem sorted_hd {l : Addr} {vs : List Value} {k : Value → Int} {Q : Value → Shared → Prop} (hl : s.heap.IsList l vs.toArray) (hz : vs.length ≤ sizeLine) (hp : ∀ v ∈ vs, IsHd s.heap v (k v)) (inj : ∀ v ∈ vs, ∀ u ∈ vs, k v = k u → v = u)
    (h : ∀ (h' : Heap) (d : Addr) (out : List Value), Srtd (ltH k) out → Stb (ltH k) out vs → (∀ b o, s.heap.get? b = some o → h'.get? b = some o) → s.heap.objs.size ≤ d → (∃ n, h'.get? d = some (seqObj "list" out.toArray n)) → Q (.ref d) { s with heap := h' }) :
    wpAny (model prog w) A (call (.builtin "sorted") [.ref l]) Q E s := by
  refine sorted_ord (swoH k) hl hz (fun h2 h₁ a ha kk => ?_) fun out hs hb => ?_
  · refine hd_sortable (s := { s with heap := h₁ }) (by omega) (fun v hm => (hp v hm).keeps fun b o e _ => (kk b o e).2) inj fun o e => ?_
    have e' : some o = some (seqObj "list" vs.toArray 0) := e.symm.trans ha
    cases e'
    intro c
    exact absurd (Value.type.inj c) (by decide)
  · exact h _ _ out hs hb (fun b o e => sortedAll_old e) (Nat.le_succ _) (sortedAll_at s.heap vs out.toArray)
end
end SrtH
namespace L2
open PySem PySem.Spec PyProof.Rows
/-- sorted(xs), tuples whose first items are unlike ints -/
def rSortedH (K : PySem.W.Frag) : List V → Hp → VK → Prop := fun vs H Q => ∃ (a : Addr) (zs : List (V × Int)), vs = [V.ref a] ∧ SqL K H a (zs.map (·.1)) ∧ (∀ z ∈ zs, ∃ t r, z.1 = V.ref t ∧ SqT K H t (.int z.2 :: r)) ∧ (zs.map (·.2)).Nodup ∧
  ∀ (zs' : List (V × Int)) p, zs'.Perm zs → zs'.Pairwise (fun x y => x.2 ≤ y.2) → H p = none → Q (.ref p) (upd H p (.lst (zs'.map (·.1))))
theorem nodup_snd {α β : Type} : ∀ {l : List (α × β)}, (l.map (·.2)).Nodup → ∀ x ∈ l, ∀ y ∈ l, x.2 = y.2 → x = y
  | [], _, x, hx, _, _, _ => by simp at hx
  | z :: l, h, x, hx, y, hy, e => by
    rw [List.map_cons, List.nodup_cons] at h
    rcases List.mem_cons.mp hx with ex | hx' <;> rcases List.mem_cons.mp hy with ey | hy'
    · rw [ex, ey]
    · exact absurd (show z.2 ∈ l.map (·.2) from List.mem_map.mpr ⟨y, hy', by rw [← e, ex]⟩) h.1
    · exact absurd (show z.2 ∈ l.map (·.2) from List.mem_map.mpr ⟨x, hx', by rw [e, ey]⟩) h.1
    · exact nodup_snd h.2 x hx' y hy' e
section
variable {X : Cx}
theorem cr_sortedH : CallR X (.builtin "sorted") (rSortedH X.K) := by
  intro pins s σ H vs us Q I r h
  obtain ⟨a, zs, rfl, hs, hx, nd, q⟩ := h
  obtain ⟨its, rv, hl, hz⟩ := I.list hs
  obtain ⟨u, rfl, ru⟩ := vals1 r
  obtain rfl : u = Value.ref a := ru
  obtain ⟨e1, e2⟩ := refs_back rv fun x m => by
    obtain ⟨z, hz, rfl⟩ := List.mem_map.mp m
    obtain ⟨t, _, e, _⟩ := hx z hz
    exact ⟨t, e⟩
  have ⟨kV, hk⟩ : ∃ kV : V → Int, ∀ z ∈ zs, kV z.1 = z.2 := by
    refine ⟨fun x => @dite _ (∃ z, z ∈ zs ∧ z.1 = x) (Classical.propDecidable _) (fun h => (Classical.choose h).2) (fun _ => 0), fun z hz => ?_⟩
    have hex : ∃ z', z' ∈ zs ∧ z'.1 = z.1 := ⟨z, hz, rfl⟩
    show @dite _ (∃ z', z' ∈ zs ∧ z'.1 = z.1) (Classical.propDecidable _) (fun h => (Classical.choose h).2) (fun _ => 0) = z.2
    rw [dif_pos hex]
    obtain ⟨hc1, hc2⟩ := Classical.choose_spec hex
    obtain ⟨t, r, et, ht⟩ := hx z hz
    obtain ⟨t', r', et', ht'⟩ := hx _ hc1
    rw [hc2, et] at et'
    cases et'
    have := I.tuple_inj ht ht'
    simp only [List.cons.injEq, V.int.injEq] at this
    exact this.1.symm
  have inz : ∀ v ∈ its, ∃ z ∈ zs, z.1 = backV v := fun v hv => by
    have hm : backV v ∈ zs.map (·.1) := by rw [e1]; exact List.mem_map.mpr ⟨_, hv, rfl⟩
    obtain ⟨z, hz, e⟩ := List.mem_map.mp hm
    exact ⟨z, hz, e⟩
  refine SrtH.sorted_hd (k := fun u => kV (backV u)) hl.isList (by rw [← rv.length]; exact hz) (fun v hv => ?_) (fun v hv u hu e => ?_) fun h' d out h1 h2 kp hd hn => ?_
  · obtain ⟨z, hz, e⟩ := inz v hv
    obtain ⟨t, rfl⟩ := e2 v hv
    obtain ⟨t', r', et, ht⟩ := hx z hz
    rw [e] at et
    cases et
    obtain ⟨its2, r2, ⟨o, ho, hc, n, hd⟩, _⟩ := I.tuple ht
    cases r2 with
    | cons ri rr =>
      obtain ⟨t1, rfl⟩ := ri
      have hk' : kV (backV (Value.ref t)) = z.2 := by rw [← e]; exact hk z hz
      show SrtH.IsHd s.heap (Value.ref t) (kV (backV (Value.ref t)))
      rw [hk']
      exact ⟨t, o, t1, _, n, rfl, ho, hc, hd⟩
  · obtain ⟨z, hz, ez⟩ := inz v hv
    obtain ⟨y, hy, ey⟩ := inz u hu
    have e' : z.2 = y.2 := by
      rw [← hk z hz, ← hk y hy, ez, ey]
      exact e
    have : z = y := nodup_snd nd z hz y hy e'
    rw [this] at ez
    obtain ⟨t, rfl⟩ := e2 v hv
    obtain ⟨t', rfl⟩ := e2 u hu
    have e3 : backV (Value.ref t) = backV (Value.ref t') := ez.symm.trans ey
    cases e3
    rfl
  · have h3 : ∀ u ∈ out, ∃ a, u = Value.ref a := fun u hu => e2 u (h2.perm.mem_iff.mp hu)
    obtain ⟨n, hn⟩ := hn
    have hp : (out.map backV).Perm (zs.map (·.1)) := by rw [e1]; exact h2.perm.map _
    have hzs : (zs.map (·.1)).map (fun y => (y, kV y)) = zs := by
      rw [List.map_map]
      have : ∀ l : List (V × Int), (∀ z ∈ l, kV z.1 = z.2) → l.map ((fun y => (y, kV y)) ∘ (·.1)) = l := by
        intro l
        induction l with
        | nil => intro _; rfl
        | cons z l ih =>
          intro hl
          rw [List.map_cons, ih fun y hy => hl y (List.mem_cons_of_mem _ hy)]
          show (z.1, kV z.1) :: l = z :: l
          rw [hl z List.mem_cons_self]
      exact this zs hk
    have hq := q ((out.map backV).map fun y => (y, kV y)) d (by have := hp.map (fun y => (y, kV y)); rw [hzs] at this; exact this) (by
      rw [List.map_map, List.pairwise_map]
      refine List.Pairwise.imp (fun {x y} hxy => ?_) h1
      have := of_decide_eq_false (show decide (kV (backV y) < kV (backV x)) = false from hxy)
      show kV (backV x) ≤ kV (backV y)
      omega) (I.hok.fresh hd)
    rw [List.map_map, show ((fun (x : V × Int) => x.1) ∘ fun y => (y, kV y)) = id from rfl, List.map_id] at hq
    refine ⟨.ref d, upd H d (.lst (out.map backV)), I.laid (t' := s.toks) kp hd ⟨?_, out, n, vals_back h3, hn⟩, rfl, hq⟩
    rw [hp.length_eq]
    exact hz
/-- math.lcm of two ints that are not large -/
def rLcm : List V → Hp → VK → Prop := fun vs H Q => ∃ a b : Int, vs = [.int a, .int b] ∧ a.natAbs < 2 ^ 64 ∧ b.natAbs < 2 ^ 64 ∧ Q (.int ((Nat.lcm a.natAbs b.natAbs : Nat) : Int)) H
theorem cr_lcm : CallR X (.builtin "math.lcm") rLcm := by
  intro pins s σ H vs us Q I r h
  obtain ⟨a, b, rfl, ha, hb, q⟩ := h
  obtain ⟨t, u, rfl⟩ := Vals.int2 r
  exact PySem.W.mc_lcm ha hb fun _ => ⟨.int _, H, I.tok _, ⟨_, rfl⟩, q⟩
/-- a call of a local that holds one of several defs -/
def tCallD (i : Nat) (S : Addr → Sp → Prop) (E : XK) (t : TA) : TE := fun σ H Q => ∃ f sp, σ[i]? = some (some (.ref f)) ∧ S f sp ∧ t σ H fun vs H1 => sp vs H1 Q E
theorem pe_callD {CX : CXT} {i : Nat} {E : XK} {x : Str} {p pos : Pos} {e : Expr} {es : List Expr} {t : TA} {S : Addr → Sp → Prop} (F : ∀ f sp, S f sp → ∃ (k : Nat) (fd : FuncData) (ps : List Str), FnOk X.prog X.w X.K X.mg X.base CX k f fd ps sp ∧ Room k X.A ∧ PySem.W.keepIn X.K (.ref f) = true ∧ Binds X.K fd ps []) (hN : X.N[i]? = some x) (hv : Vis X.env.scope x) (hx : Passes CX X E) (ha : PA X (e :: es) t)
    (hdb : (x == ("__debug__" : Str)) = false := by decide) (hcd : (x == ("__classdict__" : Str)) = false := by decide)
    (he : starEach (e :: es) X.env = (false, eval e X.env) :: starEach es X.env := by rfl) (hpl : (backTo pos (starEach es X.env)).any (·.1) = false := by rfl) : PE X (.Call (.Name x p) (e :: es) [] pos) (tCallD i S E t) := by
  refine ⟨fun pins s σ H Q I h => ?_⟩
  obtain ⟨f, sp, hs, hS, ht⟩ := h
  obtain ⟨k, fd, ps, F1, hr, hk, hb⟩ := F f sp hS
  refine (pe_callL (i := i) (f := f) (sp := sp) (dvs := []) (E := E) F1 hr hN hv hk hb .nil hx ha hdb hcd he hpl).run pins s σ H Q I ⟨hs, ?_⟩
  have e0 : (fun (vs : List V) (H1 : Hp) => sp (vs ++ []) H1 Q E) = fun vs H1 => sp vs H1 Q E := by
    funext vs H1
    rw [List.append_nil]
  show t σ H (fun vs H1 => sp (vs ++ []) H1 Q E)
  rw [e0]
  exact ht
end
end L2
set_option Elab.async false
set_option linter.all false
set_option maxRecDepth 100000
set_option maxHeartbeats 4000000
/-! stars over reversed(a list) -/
namespace StR
open PySem PySem.Spec PyProof.Rows L2
theorem iter_lri : typeLookup (.type "list_reverseiterator") "__iter__" = pure (some (.builtin "list_reverseiterator.__iter__")) := by rw [typeLookup_type, builtinLookup_eq_fast]; kernel_rfl
section
variable {X : Cx}
def tStarRev (K : PySem.W.Frag) (te : TE) (t : TA) : TA := fun σ H Q => te σ H fun v H1 => ∃ (a : Addr) (xs : List V), v = .ref a ∧ SqL K H1 a xs ∧ t σ H1 fun ys H2 => Q (xs.reverse ++ ys) H2
theorem pa_starRev {e : Expr} {es : List Expr} {te : TE} {t : TA} {p p2 pos2 : Pos} (hc : X.calm = true) (hg2 : Gl X "reversed") (hm2 : X.mg "reversed" = none) (he : PE X e te) (hr : PA X es t)
    (hs : starEach [e] X.env = (false, eval e X.env) :: starEach [] X.env := by rfl)
    (hs2 : starEach (.Starred (.Call (.Name "reversed" p2) [e] [] pos2) p :: es) X.env = (true, eval (.Call (.Name "reversed" p2) [e] [] pos2) X.env) :: starEach es X.env := by rfl) :
    PA X (.Starred (.Call (.Name "reversed" p2) [e] [] pos2) p :: es) (tStarRev X.K te t) := by
  refine ⟨fun pos pins s σ H Q I h => ?_⟩
  refine PySem.W.items_star (Call_ (ld_blt I hg2 hm2 PyProof.Rows.boot_reversed (PyProof.Rows.callWith_type1 (args_cons (thn (he.run pins s σ H _ I h) fun u s1 ⟨v, H1, I1, r1, q1⟩ => args_nil ?_) hs) hs rfl))) hs2
  obtain ⟨a, xs, ev, hq, q⟩ := q1
  subst ev
  obtain rfl : u = Value.ref a := r1
  obtain ⟨its, rv, p', hz⟩ := I1.list hq
  refine call_reversed_list p'.isList ?_
  have k0 : ∀ b o, s1.heap.get? b = some o → (s1.heap.push (revObj a ((its.toArray.size : Int) - 1))).get? b = some o := fun b o e => Heap.get?_push_of_some _ e
  have I2 : Inv X pins σ H1 { s1 with heap := s1.heap.push (revObj a ((its.toArray.size : Int) - 1)) } := I1.kept (t' := s1.toks) k0
  obtain ⟨f0, f1, f2, f3, f4, f5⟩ := I1.fpOk (H' := H1) (b := s1.heap.objs.size) (Nat.le_refl _) (I1.hok.fresh (Nat.le_refl _))
  have hl := p'.isList
  obtain ⟨ol, hol, _⟩ := id hl
  have hne : a ≠ s1.heap.objs.size := Nat.ne_of_lt (Heap.lt_size hol)
  have hn : its.toArray.size ≤ sizeLine := by rw [List.size_toArray, ← rv.length]; exact hz
  have hit : ({ s1 with heap := s1.heap.push (revObj a ((its.toArray.size : Int) - 1)) } : Shared).heap.IsRevIter s1.heap.objs.size a ((its.toArray.size : Int) - 1) := ⟨_, Heap.get?_push_size _ rfl, rfl, rfl⟩
  have hT : ({ s1 with heap := s1.heap.push (revObj a ((its.toArray.size : Int) - 1)) } : Shared).TypeIs (.ref s1.heap.objs.size) "list_reverseiterator" := hit.typeIs
  unfold PySem.W.StarOf notIterableAtAll
  refine wpAny_bind (wpAny_specialOf hT iter_lri (wpAny_pure ⟨rfl, ?_⟩))
  refine RT.collect_rev (I1.ok.hd hc) hit (hl.push _) hne hn fun h' tk acc hk hi => ?_
  have I3 : Inv X pins σ H1 { s1 with heap := h', toks := tk } := I2.turned (t' := tk) (fun b o hb e => hk b o hb e) f0 f1 f3 f4 f5
  exact thn (hr.run pos pins _ σ H1 _ I3 q) fun ws s3 ⟨vs, H3, I4, r3, q3⟩ => ⟨xs.reverse ++ vs, H3, I4, (RT.vals_rev rv hi).append r3, q3⟩
end
end StR
set_option Elab.async false
set_option linter.all false
set_option maxRecDepth 100000
set_option maxHeartbeats 4000000
/-! values without addresses, and how they lie in the abstract heap -/
namespace TI
open PySem PySem.Spec PyProof.Rows L2

inductive D where
  | non | bl (b : Bool) | int (i : Int) | str (x : Str) | ty (n : String)
  | tup (xs : List D) | rol (xs : List D) | lst (xs : List D) | lck (xs : List D)
  /-- a def as a value; a dict that one slot owns -/
  | fnv (x : Str) | dct (ks : List Key) (xs : List D)

def D.pu : D → Bool
  | .lst _ => false
  | .lck _ => false
  | .dct _ _ => false
  | _ => true
def D.pus : List D → Bool
  | [] => true
  | d :: ds => d.pu && D.pus ds

abbrev Fp := Addr → Prop
abbrev F0 : Fp := fun _ => False
/-- a list that nobody writes -/
def SqF (K : PySem.W.Frag) (H : Hp) (a : Addr) (xs : List V) : Prop :=
  (∃ o, H a = some (.frz o (.lst xs))) ∨ ∃ (o : Obj) (its : Array Value) (n : Nat), K.lookup a = some o ∧ o.cls = .type "list" ∧ o.dict = none ∧ o.data = .seq its n ∧ its.size ≤ sizeLine ∧ Vals xs its.toList
theorem SqF.sq {K : PySem.W.Frag} {H : Hp} {a : Addr} {xs : List V} (h : SqF K H a xs) : SqL K H a xs := by
  rcases h with ⟨o, h⟩ | h
  · exact .inl (.inr ⟨o, h⟩)
  · exact .inr h

section
variable (K : PySem.W.Frag) (H : Hp)
mutual
def Rp : D → V → Fp → Prop
  | .non, v, _ => v = .non
  | .bl b, v, _ => v = .bl b
  | .int i, v, _ => v = .int i
  | .str x, v, _ => v = .str x
  | .ty n, v, _ => v = .ty n
  | .tup ds, v, F => ∃ a vs, v = .ref a ∧ SqT K H a vs ∧ D.pus ds = true ∧ Rps ds vs F
  | .rol ds, v, F => ∃ a vs, v = .ref a ∧ SqF K H a vs ∧ D.pus ds = true ∧ Rps ds vs F
  | .lst ds, v, F => ∃ a vs, v = .ref a ∧ H a = some (.lst vs) ∧ F a ∧ Rps ds vs (fun b => F b ∧ b ≠ a)
  | .lck ds, v, F => ∃ a vs, v = .ref a ∧ SqF K H a vs ∧ D.pus ds = true ∧ Rps ds vs F
  | .fnv x, v, F => ∃ a, v = .ref a ∧ PySem.W.nsIn K mainGlobals x = some (some (.ref a))
  | .dct ks ds, v, F => ∃ a vs, v = .ref a ∧ H a = some (.dK (ks.zip vs)) ∧ ks.length = ds.length ∧ F a ∧ Rps ds vs (fun b => F b ∧ b ≠ a)
def Rps : List D → List V → Fp → Prop
  | [], vs, _ => vs = []
  | d :: ds, vs, F => ∃ v ws G1 G2, vs = v :: ws ∧ Rp d v G1 ∧ Rps ds ws G2 ∧ (∀ a, G1 a → F a) ∧ (∀ a, G2 a → F a) ∧ (∀ a, G1 a → G2 a → False)
end
end

def Imm : HO → Prop
  | .tup _ => True
  | .frz _ _ => True
  | _ => False
/-- from H to H' all is kept but what stands in F -/
structure Keep (F : Fp) (H H' : Hp) : Prop where
  k : ∀ a o, H a = some o → (¬ F a ∨ Imm o) → H' a = some o
  g : ∀ a, H' a = none → H a = none
/-- what is new or was in F -/
def Fr (F : Fp) (H : Hp) (F' : Fp) : Prop := ∀ a, F' a → F a ∨ H a = none
def Dis (F G : Fp) : Prop := ∀ a, F a → G a → False

theorem Keep.refl (F : Fp) (H : Hp) : Keep F H H := ⟨fun _ _ h _ => h, fun _ h => h⟩
theorem Keep.trans {F F1 : Fp} {H H1 H2 : Hp} (a : Keep F H H1) (b : Keep F1 H1 H2) (s : Fr F H F1) : Keep F H H2 :=
  ⟨fun x o h hn => by
    have h1 := a.k x o h hn
    refine b.k x o h1 ?_
    rcases hn with hn | hn
    · refine .inl fun q => ?_
      rcases s x q with r | r
      · exact hn r
      · rw [h] at r; cases r
    · exact .inr hn, fun x h => a.g x (b.g x h)⟩
theorem Keep.mono {F G : Fp} {H H' : Hp} (a : Keep F H H') (h : ∀ x, F x → G x) : Keep G H H' :=
  ⟨fun x o e hn => a.k x o e (hn.elim (fun n => .inl fun q => n (h x q)) .inr), a.g⟩
/-- a fresh object -/
theorem Keep.new {F : Fp} {H : Hp} {p : Addr} {o : HO} (h : H p = none) : Keep F H (upd H p o) :=
  ⟨fun a u e _ => by rw [upd_ne (ne_of_none e h)]; exact e, fun a e => by
    by_cases q : a = p
    · subst q; exact h
    · rw [upd_ne q] at e; exact e⟩
/-- an object in F changes -/
theorem Keep.set {F : Fp} {H : Hp} {p : Addr} {o u : HO} (h : H p = some u) (hF : F p) (hu : ¬ Imm u) : Keep F H (upd H p o) :=
  ⟨fun a w e hn => by
    by_cases q : a = p
    · subst q
      rw [h] at e; cases e
      rcases hn with n | n
      · exact absurd hF n
      · exact absurd n hu
    · rw [upd_ne q]; exact e, fun a e => by
    by_cases q : a = p
    · subst q; rw [upd_same] at e; cases e
    · rw [upd_ne q] at e; exact e⟩
theorem Fr.trans {F F1 F2 : Fp} {H H1 : Hp} (a : Fr F H F1) (k : Keep F H H1) (b : Fr F1 H1 F2) : Fr F H F2 := fun x h => by
  rcases b x h with r | r
  · exact a x r
  · exact .inr (k.g x r)
theorem Fr.refl (F : Fp) (H : Hp) : Fr F H F := fun _ h => .inl h
theorem Fr.sub {F F' F2 : Fp} {H : Hp} (a : Fr F H F') (h : ∀ x, F2 x → F' x) : Fr F H F2 := fun x q => a x (h x q)

section
variable {K : PySem.W.Frag} {H H' : Hp}
theorem sqt_keep {F : Fp} {a : Addr} {vs : List V} (k : Keep F H H') (h : SqT K H a vs) : SqT K H' a vs := by
  rcases h with (h | ⟨o, h⟩) | h
  · exact .inl (.inl (k.k _ _ h (.inr trivial)))
  · exact .inl (.inr ⟨o, k.k _ _ h (.inr trivial)⟩)
  · exact .inr h
theorem sqf_keep {F : Fp} {a : Addr} {vs : List V} (k : Keep F H H') (h : SqF K H a vs) : SqF K H' a vs := by
  rcases h with ⟨o, h⟩ | h
  · exact .inl ⟨o, k.k _ _ h (.inr trivial)⟩
  · exact .inr h
mutual
theorem Rp.mono : ∀ (d : D) (v : V) (F G : Fp), (∀ a, F a → G a) → Rp K H d v F → Rp K H d v G
  | .non, v, F, G, s, h => h
  | .bl b, v, F, G, s, h => h
  | .int i, v, F, G, s, h => h
  | .str x, v, F, G, s, h => h
  | .ty n, v, F, G, s, h => h
  | .tup ds, v, F, G, s, h => by
    obtain ⟨a, vs, e, q, p, r⟩ := h
    exact ⟨a, vs, e, q, p, Rps.mono ds vs F G s r⟩
  | .rol ds, v, F, G, s, h => by
    obtain ⟨a, vs, e, q, p, r⟩ := h
    exact ⟨a, vs, e, q, p, Rps.mono ds vs F G s r⟩
  | .lst ds, v, F, G, s, h => by
    obtain ⟨a, vs, e, q, hf, r⟩ := h
    exact ⟨a, vs, e, q, s a hf, Rps.mono ds vs _ _ (fun b hb => ⟨s b hb.1, hb.2⟩) r⟩
  | .lck ds, v, F, G, s, h => by
    obtain ⟨a, vs, e, q, p, r⟩ := h
    exact ⟨a, vs, e, q, p, Rps.mono ds vs F G s r⟩
  | .fnv x, v, F, G, s, h => h
  | .dct ks ds, v, F, G, s, h => by
    obtain ⟨a, vs, e, q, hl, hf, r⟩ := h
    exact ⟨a, vs, e, q, hl, s a hf, Rps.mono ds vs _ _ (fun b hb => ⟨s b hb.1, hb.2⟩) r⟩
theorem Rps.mono : ∀ (ds : List D) (vs : List V) (F G : Fp), (∀ a, F a → G a) → Rps K H ds vs F → Rps K H ds vs G
  | [], vs, F, G, s, h => h
  | d :: ds, vs, F, G, s, h => by
    obtain ⟨v, ws, G1, G2, e, h1, h2, s1, s2, dj⟩ := h
    exact ⟨v, ws, G1, G2, e, h1, h2, fun a q => s a (s1 a q), fun a q => s a (s2 a q), dj⟩
end
mutual
theorem Rp.stay {B : Fp} (k : Keep B H H') : ∀ (d : D) (v : V) (F : Fp), (∀ a, F a → B a → False) → Rp K H d v F → Rp K H' d v F
  | .non, v, F, s, h => h
  | .bl b, v, F, s, h => h
  | .int i, v, F, s, h => h
  | .str x, v, F, s, h => h
  | .ty n, v, F, s, h => h
  | .tup ds, v, F, s, h => by
    obtain ⟨a, vs, e, q, p, r⟩ := h
    exact ⟨a, vs, e, sqt_keep k q, p, Rps.stay k ds vs F s r⟩
  | .rol ds, v, F, s, h => by
    obtain ⟨a, vs, e, q, p, r⟩ := h
    exact ⟨a, vs, e, sqf_keep k q, p, Rps.stay k ds vs F s r⟩
  | .lst ds, v, F, s, h => by
    obtain ⟨a, vs, e, q, hf, r⟩ := h
    exact ⟨a, vs, e, k.k _ _ q (.inl (s a hf)), hf, Rps.stay k ds vs _ (fun b hb => s b hb.1) r⟩
  | .lck ds, v, F, s, h => by
    obtain ⟨a, vs, e, q, p, r⟩ := h
    exact ⟨a, vs, e, sqf_keep k q, p, Rps.stay k ds vs F s r⟩
  | .fnv x, v, F, s, h => h
  | .dct ks ds, v, F, s, h => by
    obtain ⟨a, vs, e, q, hl, hf, r⟩ := h
    exact ⟨a, vs, e, k.k _ _ q (.inl (s a hf)), hl, hf, Rps.stay k ds vs _ (fun b hb => s b hb.1) r⟩
theorem Rps.stay {B : Fp} (k : Keep B H H') : ∀ (ds : List D) (vs : List V) (F : Fp), (∀ a, F a → B a → False) → Rps K H ds vs F → Rps K H' ds vs F
  | [], vs, F, s, h => h
  | d :: ds, vs, F, s, h => by
    obtain ⟨v, ws, G1, G2, e, h1, h2, s1, s2, dj⟩ := h
    exact ⟨v, ws, G1, G2, e, Rp.stay k d v G1 (fun a q => s a (s1 a q)) h1, Rps.stay k ds ws G2 (fun a q => s a (s2 a q)) h2, s1, s2, dj⟩
end
mutual
theorem Rp.pure : ∀ (d : D) (v : V) (F : Fp), d.pu = true → Rp K H d v F → Rp K H d v F0
  | .non, v, F, s, h => h
  | .bl b, v, F, s, h => h
  | .int i, v, F, s, h => h
  | .str x, v, F, s, h => h
  | .ty n, v, F, s, h => h
  | .tup ds, v, F, s, h => by
    obtain ⟨a, vs, e, q, p, r⟩ := h
    exact ⟨a, vs, e, q, p, Rps.pure ds vs F p r⟩
  | .rol ds, v, F, s, h => by
    obtain ⟨a, vs, e, q, p, r⟩ := h
    exact ⟨a, vs, e, q, p, Rps.pure ds vs F p r⟩
  | .lst ds, v, F, s, h => by rw [D.pu] at s; cases s
  | .lck ds, v, F, s, h => by rw [D.pu] at s; cases s
  | .fnv x, v, F, s, h => h
  | .dct ks ds, v, F, s, h => by rw [D.pu] at s; cases s
theorem Rps.pure : ∀ (ds : List D) (vs : List V) (F : Fp), D.pus ds = true → Rps K H ds vs F → Rps K H ds vs F0
  | [], vs, F, s, h => h
  | d :: ds, vs, F, s, h => by
    obtain ⟨v, ws, G1, G2, e, h1, h2, s1, s2, dj⟩ := h
    rw [D.pus, Bool.and_eq_true] at s
    exact ⟨v, ws, F0, F0, e, Rp.pure d v G1 s.1 h1, Rps.pure ds ws G2 s.2 h2, fun _ q => q, fun _ q => q, fun _ q => q.elim⟩
end
mutual
theorem Rp.trim : ∀ (d : D) (v : V) (F : Fp), Rp K H d v F → Rp K H d v (fun a => F a ∧ H a ≠ none)
  | .non, v, F, h => h
  | .bl b, v, F, h => h
  | .int i, v, F, h => h
  | .str x, v, F, h => h
  | .ty n, v, F, h => h
  | .tup ds, v, F, h => by
    obtain ⟨a, vs, e, q, p, r⟩ := h
    exact ⟨a, vs, e, q, p, Rps.trim ds vs F r⟩
  | .rol ds, v, F, h => by
    obtain ⟨a, vs, e, q, p, r⟩ := h
    exact ⟨a, vs, e, q, p, Rps.trim ds vs F r⟩
  | .lst ds, v, F, h => by
    obtain ⟨a, vs, e, q, hf, r⟩ := h
    exact ⟨a, vs, e, q, ⟨hf, by rw [q]; exact fun z => nomatch z⟩, Rps.mono ds vs _ _ (fun b hb => ⟨⟨hb.1.1, hb.2⟩, hb.1.2⟩) (Rps.trim ds vs _ r)⟩
  | .lck ds, v, F, h => by
    obtain ⟨a, vs, e, q, p, r⟩ := h
    exact ⟨a, vs, e, q, p, Rps.trim ds vs F r⟩
  | .fnv x, v, F, h => h
  | .dct ks ds, v, F, h => by
    obtain ⟨a, vs, e, q, hl, hf, r⟩ := h
    exact ⟨a, vs, e, q, hl, ⟨hf, by rw [q]; exact fun z => nomatch z⟩, Rps.mono ds vs _ _ (fun b hb => ⟨⟨hb.1.1, hb.2⟩, hb.1.2⟩) (Rps.trim ds vs _ r)⟩
theorem Rps.trim : ∀ (ds : List D) (vs : List V) (F : Fp), Rps K H ds vs F → Rps K H ds vs (fun a => F a ∧ H a ≠ none)
  | [], vs, F, h => h
  | d :: ds, vs, F, h => by
    obtain ⟨v, ws, G1, G2, e, h1, h2, s1, s2, dj⟩ := h
    exact ⟨v, ws, _, _, e, Rp.trim d v G1 h1, Rps.trim ds ws G2 h2, fun a q => ⟨s1 a q.1, q.2⟩, fun a q => ⟨s2 a q.1, q.2⟩, fun a q r => dj a q.1 r.1⟩
end
theorem Rps.length : ∀ (ds : List D) (vs : List V) (F : Fp), Rps K H ds vs F → vs.length = ds.length
  | [], vs, F, h => by rw [show vs = [] from h]; rfl
  | d :: ds, vs, F, h => by
    obtain ⟨v, ws, G1, G2, e, h1, h2, _⟩ := h
    rw [e, List.length_cons, List.length_cons, Rps.length ds ws G2 h2]
theorem Rps.get : ∀ (ds : List D) (vs : List V) (F : Fp) (i : Nat) (d : D), Rps K H ds vs F → ds[i]? = some d → ∃ v, vs[i]? = some v ∧ Rp K H d v F
  | [], vs, F, i, d, h, e => by simp at e
  | x :: ds, vs, F, 0, d, h, e => by
    obtain ⟨v, ws, G1, G2, ev, h1, h2, s1, _⟩ := h
    simp at e; subst e
    exact ⟨v, by rw [ev]; rfl, Rp.mono _ _ _ _ s1 h1⟩
  | x :: ds, vs, F, i + 1, d, h, e => by
    obtain ⟨v, ws, G1, G2, ev, h1, h2, s1, s2, _⟩ := h
    obtain ⟨u, hu, ru⟩ := Rps.get ds ws G2 i d h2 (by simpa using e)
    exact ⟨u, by rw [ev]; simpa using hu, Rp.mono _ _ _ _ s2 ru⟩
/-- a fresh value put behind -/
theorem Rps.snoc : ∀ (ds : List D) (vs : List V) (F G : Fp) (d : D) (v : V), Rps K H ds vs F → Rp K H d v G → Dis F G → Rps K H (ds ++ [d]) (vs ++ [v]) (fun a => F a ∨ G a)
  | [], vs, F, G, d, v, h, hd, dj => by
    rw [show vs = [] from h]
    exact ⟨v, [], G, F0, rfl, hd, rfl, fun a q => .inr q, fun _ q => q.elim, fun _ _ q => q⟩
  | x :: ds, vs, F, G, d, v, h, hd, dj => by
    obtain ⟨u, ws, G1, G2, ev, h1, h2, s1, s2, d2⟩ := h
    subst ev
    exact ⟨u, ws ++ [v], G1, fun a => G2 a ∨ G a, rfl, h1, Rps.snoc ds ws G2 G d v h2 hd (fun a p q => dj a (s2 a p) q), fun a q => .inl (s1 a q), fun a q => q.elim (fun r => .inl (s2 a r)) .inr,
      fun a q r => r.elim (fun z => d2 a q z) fun z => dj a (s1 a q) z⟩
theorem Rps.append : ∀ (ds : List D) (vs : List V) (F G : Fp) (es : List D) (ws : List V), Rps K H ds vs F → Rps K H es ws G → Dis F G → Rps K H (ds ++ es) (vs ++ ws) (fun a => F a ∨ G a)
  | [], vs, F, G, es, ws, h, he, dj => by
    rw [show vs = [] from h]
    exact Rps.mono _ _ _ _ (fun a q => .inr q) he
  | x :: ds, vs, F, G, es, ws, h, he, dj => by
    obtain ⟨u, us, G1, G2, ev, h1, h2, s1, s2, d2⟩ := h
    subst ev
    exact ⟨u, us ++ ws, G1, fun a => G2 a ∨ G a, rfl, h1, Rps.append ds us G2 G es ws h2 he (fun a p q => dj a (s2 a p) q), fun a q => .inl (s1 a q), fun a q => q.elim (fun r => .inl (s2 a r)) .inr,
      fun a q r => r.elim (fun z => d2 a q z) fun z => dj a (s1 a q) z⟩
theorem Rps.set : ∀ (ds : List D) (vs : List V) (F G : Fp) (i : Nat) (d : D) (v : V), Rps K H ds vs F → Rp K H d v G → Dis F G → Rps K H (ds.set i d) (vs.set i v) (fun a => F a ∨ G a)
  | [], vs, F, G, i, d, v, h, hd, dj => by
    rw [show vs = [] from h]
    rfl
  | x :: ds, vs, F, G, 0, d, v, h, hd, dj => by
    obtain ⟨u, ws, G1, G2, ev, h1, h2, s1, s2, d2⟩ := h
    subst ev
    exact ⟨v, ws, G, G2, rfl, hd, h2, fun a q => .inr q, fun a q => .inl (s2 a q), fun a q r => dj a (s2 a r) q⟩
  | x :: ds, vs, F, G, i + 1, d, v, h, hd, dj => by
    obtain ⟨u, ws, G1, G2, ev, h1, h2, s1, s2, d2⟩ := h
    subst ev
    exact ⟨u, ws.set i v, G1, fun a => G2 a ∨ G a, rfl, h1, Rps.set ds ws G2 G i d v h2 hd (fun a p q => dj a (s2 a p) q), fun a q => .inl (s1 a q), fun a q => q.elim (fun r => .inl (s2 a r)) .inr,
      fun a q r => r.elim (fun z => d2 a q z) fun z => dj a (s1 a q) z⟩
theorem Rps.take : ∀ (ds : List D) (vs : List V) (F : Fp) (n : Nat), Rps K H ds vs F → Rps K H (ds.take n) (vs.take n) F
  | ds, vs, F, 0, h => by rw [List.take_zero, List.take_zero]; rfl
  | [], vs, F, n + 1, h => by rw [show vs = [] from h]; rfl
  | x :: ds, vs, F, n + 1, h => by
    obtain ⟨u, ws, G1, G2, ev, h1, h2, s1, s2, d2⟩ := h
    subst ev
    exact ⟨u, ws.take n, G1, G2, rfl, h1, Rps.take ds ws G2 n h2, s1, s2, d2⟩
theorem Rps.drop : ∀ (ds : List D) (vs : List V) (F : Fp) (n : Nat), Rps K H ds vs F → Rps K H (ds.drop n) (vs.drop n) F
  | ds, vs, F, 0, h => h
  | [], vs, F, n + 1, h => by rw [show vs = [] from h]; rfl
  | x :: ds, vs, F, n + 1, h => by
    obtain ⟨u, ws, G1, G2, ev, h1, h2, s1, s2, d2⟩ := h
    subst ev
    exact Rps.mono _ _ _ _ s2 (Rps.drop ds ws G2 n h2)
theorem Rps.reverse : ∀ (ds : List D) (vs : List V) (F : Fp), Rps K H ds vs F → Rps K H ds.reverse vs.reverse F
  | [], vs, F, h => by rw [show vs = [] from h]; rfl
  | x :: ds, vs, F, h => by
    obtain ⟨u, ws, G1, G2, ev, h1, h2, s1, s2, d2⟩ := h
    subst ev
    rw [List.reverse_cons, List.reverse_cons]
    exact Rps.mono _ _ _ _ (fun a q => q.elim (s2 a) (s1 a)) (Rps.snoc _ _ _ _ _ _ (Rps.reverse ds ws G2 h2) h1 fun a p q => d2 a q p)
end

/-! ### slots -/
abbrev Env := List (Option D)
section
variable (K : PySem.W.Frag) (H : Hp)
def Ens : Env → L2.St → Fp → Prop
  | [], σ, _ => σ = []
  | none :: ρ, σ, F => ∃ o τ, σ = o :: τ ∧ Ens ρ τ F
  | some d :: ρ, σ, F => ∃ v τ G1 G2, σ = some v :: τ ∧ Rp K H d v G1 ∧ Ens ρ τ G2 ∧ (∀ a, G1 a → F a) ∧ (∀ a, G2 a → F a) ∧ Dis G1 G2
end
section
variable {K : PySem.W.Frag} {H H' : Hp}
theorem Ens.mono : ∀ (ρ : Env) (σ : L2.St) (F G : Fp), (∀ a, F a → G a) → Ens K H ρ σ F → Ens K H ρ σ G
  | [], σ, F, G, s, h => h
  | none :: ρ, σ, F, G, s, h => by
    obtain ⟨o, τ, e, r⟩ := h
    exact ⟨o, τ, e, Ens.mono ρ τ F G s r⟩
  | some d :: ρ, σ, F, G, s, h => by
    obtain ⟨v, τ, G1, G2, e, h1, h2, s1, s2, dj⟩ := h
    exact ⟨v, τ, G1, G2, e, h1, h2, fun a q => s a (s1 a q), fun a q => s a (s2 a q), dj⟩
theorem Ens.stay {B : Fp} (k : Keep B H H') : ∀ (ρ : Env) (σ : L2.St) (F : Fp), (∀ a, F a → B a → False) → Ens K H ρ σ F → Ens K H' ρ σ F
  | [], σ, F, s, h => h
  | none :: ρ, σ, F, s, h => by
    obtain ⟨o, τ, e, r⟩ := h
    exact ⟨o, τ, e, Ens.stay k ρ τ F s r⟩
  | some d :: ρ, σ, F, s, h => by
    obtain ⟨v, τ, G1, G2, e, h1, h2, s1, s2, dj⟩ := h
    exact ⟨v, τ, G1, G2, e, Rp.stay k d v G1 (fun a q => s a (s1 a q)) h1, Ens.stay k ρ τ G2 (fun a q => s a (s2 a q)) h2, s1, s2, dj⟩
theorem Ens.trim : ∀ (ρ : Env) (σ : L2.St) (F : Fp), Ens K H ρ σ F → Ens K H ρ σ (fun a => F a ∧ H a ≠ none)
  | [], σ, F, h => h
  | none :: ρ, σ, F, h => by
    obtain ⟨o, τ, e, r⟩ := h
    exact ⟨o, τ, e, Ens.trim ρ τ F r⟩
  | some d :: ρ, σ, F, h => by
    obtain ⟨v, τ, G1, G2, e, h1, h2, s1, s2, dj⟩ := h
    exact ⟨v, τ, _, _, e, Rp.trim d v G1 h1, Ens.trim ρ τ G2 h2, fun a q => ⟨s1 a q.1, q.2⟩, fun a q => ⟨s2 a q.1, q.2⟩, fun a q r => dj a q.1 r.1⟩
theorem Ens.length : ∀ (ρ : Env) (σ : L2.St) (F : Fp), Ens K H ρ σ F → σ.length = ρ.length
  | [], σ, F, h => by rw [show σ = [] from h]; rfl
  | none :: ρ, σ, F, h => by
    obtain ⟨o, τ, e, r⟩ := h
    rw [e, List.length_cons, List.length_cons, Ens.length ρ τ F r]
  | some d :: ρ, σ, F, h => by
    obtain ⟨v, τ, G1, G2, e, h1, h2, _⟩ := h
    rw [e, List.length_cons, List.length_cons, Ens.length ρ τ G2 h2]
theorem Ens.get : ∀ (ρ : Env) (σ : L2.St) (F : Fp) (i : Nat) (d : D), Ens K H ρ σ F → ρ[i]? = some (some d) → ∃ v, σ[i]? = some (some v) ∧ Rp K H d v F
  | [], σ, F, i, d, h, e => by simp at e
  | none :: ρ, σ, F, 0, d, h, e => by simp at e
  | none :: ρ, σ, F, i + 1, d, h, e => by
    obtain ⟨o, τ, ev, r⟩ := h
    subst ev
    obtain ⟨v, hv, rv⟩ := Ens.get ρ τ F i d r (by simpa using e)
    exact ⟨v, by simpa using hv, rv⟩
  | some x :: ρ, σ, F, 0, d, h, e => by
    obtain ⟨v, τ, G1, G2, ev, h1, h2, s1, _⟩ := h
    simp at e; subst e; subst ev
    exact ⟨v, rfl, Rp.mono _ _ _ _ s1 h1⟩
  | some x :: ρ, σ, F, i + 1, d, h, e => by
    obtain ⟨v, τ, G1, G2, ev, h1, h2, s1, s2, _⟩ := h
    subst ev
    obtain ⟨u, hu, ru⟩ := Ens.get ρ τ G2 i d h2 (by simpa using e)
    exact ⟨u, by simpa using hu, Rp.mono _ _ _ _ s2 ru⟩
/-- a slot forgets -/
theorem Ens.forget : ∀ (ρ : Env) (σ : L2.St) (F : Fp) (i : Nat), Ens K H ρ σ F → Ens K H (ρ.set i none) σ F
  | [], σ, F, i, h => h
  | none :: ρ, σ, F, 0, h => h
  | none :: ρ, σ, F, i + 1, h => by
    obtain ⟨o, τ, ev, r⟩ := h
    exact ⟨o, τ, ev, Ens.forget ρ τ F i r⟩
  | some x :: ρ, σ, F, 0, h => by
    obtain ⟨v, τ, G1, G2, ev, h1, h2, s1, s2, _⟩ := h
    exact ⟨some v, τ, ev, Ens.mono _ _ _ _ s2 h2⟩
  | some x :: ρ, σ, F, i + 1, h => by
    obtain ⟨v, τ, G1, G2, ev, h1, h2, s1, s2, dj⟩ := h
    exact ⟨v, τ, G1, G2, ev, h1, Ens.forget ρ τ G2 i h2, s1, s2, dj⟩
/-- σ at a slot that the environment does not know may be anything -/
theorem Ens.other : ∀ (ρ : Env) (σ : L2.St) (F : Fp) (i : Nat) (o : Option V), Ens K H ρ σ F → ρ[i]? ≠ none → (∀ d, ρ[i]? ≠ some (some d)) → Ens K H ρ (σ.set i o) F
  | [], σ, F, i, o, h, e, e2 => by rw [show σ = [] from h]; rfl
  | none :: ρ, σ, F, 0, o, h, e, e2 => by
    obtain ⟨u, τ, ev, r⟩ := h
    exact ⟨o, τ, by rw [ev]; rfl, r⟩
  | none :: ρ, σ, F, i + 1, o, h, e, e2 => by
    obtain ⟨u, τ, ev, r⟩ := h
    exact ⟨u, τ.set i o, by rw [ev]; rfl, Ens.other ρ τ F i o r (by simpa using e) (by simpa using e2)⟩
  | some x :: ρ, σ, F, 0, o, h, e, e2 => absurd rfl (e2 x)
  | some x :: ρ, σ, F, i + 1, o, h, e, e2 => by
    obtain ⟨v, τ, G1, G2, ev, h1, h2, s1, s2, dj⟩ := h
    exact ⟨v, τ.set i o, G1, G2, by rw [ev]; rfl, h1, Ens.other ρ τ G2 i o h2 (by simpa using e) (by simpa using e2), s1, s2, dj⟩
/-- a value laid into a slot -/
theorem Ens.put : ∀ (ρ : Env) (σ : L2.St) (F G : Fp) (i : Nat) (d : D) (v : V), Ens K H ρ σ F → Rp K H d v G → Dis F G → Ens K H (ρ.set i (some d)) (σ.set i (some v)) (fun a => F a ∨ G a)
  | [], σ, F, G, i, d, v, h, hd, dj => by rw [show σ = [] from h]; rfl
  | none :: ρ, σ, F, G, 0, d, v, h, hd, dj => by
    obtain ⟨u, τ, ev, r⟩ := h
    exact ⟨v, τ, G, F, by rw [ev]; rfl, hd, r, fun a q => .inr q, fun a q => .inl q, fun a p q => dj a q p⟩
  | none :: ρ, σ, F, G, i + 1, d, v, h, hd, dj => by
    obtain ⟨u, τ, ev, r⟩ := h
    exact ⟨u, τ.set i (some v), by rw [ev]; rfl, Ens.put ρ τ F G i d v r hd dj⟩
  | some x :: ρ, σ, F, G, 0, d, v, h, hd, dj => by
    obtain ⟨u, τ, G1, G2, ev, h1, h2, s1, s2, d2⟩ := h
    exact ⟨v, τ, G, G2, by rw [ev]; rfl, hd, h2, fun a q => .inr q, fun a q => .inl (s2 a q), fun a p q => dj a (s2 a q) p⟩
  | some x :: ρ, σ, F, G, i + 1, d, v, h, hd, dj => by
    obtain ⟨u, τ, G1, G2, ev, h1, h2, s1, s2, d2⟩ := h
    exact ⟨u, τ.set i (some v), G1, fun a => G2 a ∨ G a, by rw [ev]; rfl, h1, Ens.put ρ τ G2 G i d v h2 hd (fun a p q => dj a (s2 a p) q), fun a q => .inl (s1 a q), fun a q => q.elim (fun r => .inl (s2 a r)) .inr,
      fun a p q => q.elim (fun z => d2 a p z) fun z => dj a (s1 a p) z⟩
/-- a slot's value taken out: what it has is apart from the rest -/
theorem Ens.take : ∀ (ρ : Env) (σ : L2.St) (F : Fp) (i : Nat) (d : D), Ens K H ρ σ F → ρ[i]? = some (some d) → ∃ v G1 G2, σ[i]? = some (some v) ∧ Rp K H d v G1 ∧ Ens K H (ρ.set i none) σ G2 ∧ (∀ a, G1 a → F a) ∧ (∀ a, G2 a → F a) ∧ Dis G1 G2
  | [], σ, F, i, d, h, e => by simp at e
  | none :: ρ, σ, F, 0, d, h, e => by simp at e
  | none :: ρ, σ, F, i + 1, d, h, e => by
    obtain ⟨o, τ, ev, r⟩ := h
    obtain ⟨v, G1, G2, hv, rv, re, s1, s2, dj⟩ := Ens.take ρ τ F i d r (by simpa using e)
    exact ⟨v, G1, G2, by rw [ev]; simpa using hv, rv, ⟨o, τ, ev, re⟩, s1, s2, dj⟩
  | some x :: ρ, σ, F, 0, d, h, e => by
    obtain ⟨v, τ, G1, G2, ev, h1, h2, s1, s2, dj⟩ := h
    simp at e; subst e
    exact ⟨v, G1, G2, by rw [ev]; rfl, h1, ⟨some v, τ, ev, h2⟩, s1, s2, dj⟩
  | some x :: ρ, σ, F, i + 1, d, h, e => by
    obtain ⟨u, τ, G1, G2, ev, h1, h2, s1, s2, dj⟩ := h
    obtain ⟨v, G3, G4, hv, rv, re, s3, s4, d4⟩ := Ens.take ρ τ G2 i d h2 (by simpa using e)
    refine ⟨v, G3, fun a => G1 a ∨ G4 a, by rw [ev]; simpa using hv, rv, ⟨u, τ, G1, G4, ev, h1, re, fun a q => .inl q, fun a q => .inr q, fun a p q => dj a p (s4 a q)⟩, fun a q => s2 a (s3 a q),
      fun a q => q.elim (s1 a) fun r => s2 a (s4 a r), fun a p q => q.elim (fun r => dj a r (s3 a p)) fun r => d4 a p r⟩
theorem set_same {α : Type} : ∀ (l : List α) (i : Nat) (x : α), l[i]? = some x → l.set i x = l
  | [], i, x, h => by simp at h
  | y :: l, 0, x, h => by simp at h; rw [h]; rfl
  | y :: l, i + 1, x, h => by
    show y :: l.set i x = y :: l
    rw [set_same l i x (by simpa using h)]
/-- laid back at the slot's own place -/
theorem Ens.back {ρ : Env} {σ : L2.St} {F G : Fp} {i : Nat} {d : D} {v : V} (h : Ens K H (ρ.set i none) σ F) (hv : σ[i]? = some (some v)) (hd : Rp K H d v G) (dj : Dis F G) : Ens K H (ρ.set i (some d)) σ (fun a => F a ∨ G a) := by
  have q := Ens.put _ _ F G i d v h hd dj
  rw [List.set_set, set_same σ i (some v) hv] at q
  exact q
end
end TI
set_option Elab.async false
set_option linter.all false
set_option maxRecDepth 100000
set_option maxHeartbeats 4000000
/-! a small evaluator over values without addresses -/
namespace TI
open PySem PySem.Spec PyProof.Rows L2

inductive Res where
  | ret (d : D) (fin : Env)
  | exc (c : Str) (fs : List (Str × D))
  | stuck
structure Nx where
  nx : Env → Res
  bk : Env → Res
  ct : Env → Res
  rt : D → Env → Res
/-- what a global name is -/
inductive Glo where
  | fn (n : Nat) | bi | con (d : D) | kd (kvs : List (Str × D)) | cls (ps : List Str) | mth (id : String) | no
structure Cd where
  N : List Str
  np : Nat
  glo : Str → Glo
  call : Str → List D → Res
  wf : Nat
  own : Str → Bool
  xc : Str → List (Str × D) → Env → Res
  /-- the most signs of a text that int() reads -/
  lim : Nat

inductive Arg where
  | nm (i : Nat) | own (d : D) | bor (d : D)

def ixOf : List Str → Str → Option Nat
  | [], _ => none
  | y :: l, x => if y = x then some 0 else (ixOf l x).map (· + 1)
def vis (sc : Scope) (x : Str) : Bool :=
  match sc.names.lookup x with
  | some .local => true
  | some .cell => true
  | some .free => true
  | _ => false
def locl (sc : Scope) (x : Str) : Bool :=
  match sc.names.lookup x with
  | some .local => true
  | some .cell => true
  | _ => false
def okName (x : Str) : Bool := !(x == ("__debug__" : Str)) && !(x == ("__classdict__" : Str)) && !(x == ("__name__" : Str))
def slotOf (C : Cd) (sc : Scope) (x : Str) : Option Nat := if vis sc x && okName x then ixOf C.N x else none
def globOf (C : Cd) (sc : Scope) (x : Str) : Glo := match sc.names.lookup x with
  | some .globalImplicit => if okName x then C.glo x else .no
  | _ => .no
def isBi (C : Cd) (sc : Scope) (x : Str) : Bool := match globOf C sc x with
  | .bi => true
  | _ => false
def isFn (C : Cd) (sc : Scope) (x : Str) : Option Nat := match globOf C sc x with
  | .fn n => some n
  | _ => none
def noStar : List Expr → Bool
  | [] => true
  | .Starred _ _ :: _ => false
  | _ :: r => noStar r

def oK {α : Type} (o : Option α) (k : α → Res) : Res := match o with
  | some a => k a
  | none => .stuck
def puK (d : D) (r : Res) : Res := match d.pu with
  | true => r
  | false => .stuck
def pusK (ds : List D) (r : Res) : Res := match D.pus ds with
  | true => r
  | false => .stuck
def ckK (b : Bool) (r : Res) : Res := match b with
  | true => r
  | false => .stuck
def getK (ρ : Env) (i : Nat) (k : D → Res) : Res := match ρ[i]? with
  | some (some d) => k d
  | _ => .stuck

def isPath0 : Expr → Bool
  | .Name _ _ => true
  | .Subscript _ (.Slice _ _ _ _) _ => false
  | .Subscript _ _ _ => true
  | .Attribute _ _ _ => true
  | .IfExp _ _ _ _ => true
  | .BoolOp _ _ _ => true
  | _ => false
def isPath : Expr → Bool
  | .IfExp _ a b _ => isPath0 a || isPath0 b
  | e => isPath0 e
def isCalm : Expr → Bool
  | .Name _ _ => true
  | .Constant _ _ _ => true
  | _ => false
/-- a value that is kept while e is evaluated -/
def holdK (e1 : Expr) (d1 : D) (e2 : Expr) (r : Res) : Res := if isPath e1 && !isCalm e2 then puK d1 r else r
def storK (e : Expr) (d : D) (r : Res) : Res := if isPath e then puK d r else r

def szLine : Nat := 16777216
/-! ### operators by values -/
def mulOk (i j : Int) : Bool := decide (i.natAbs < 18446744073709551616) || decide (j.natAbs < 18446744073709551616) || decide (i.natAbs.log2 + j.natAbs.log2 < 1000000)
def divOk (j : Int) : Bool := (decide (j ≠ 0) && decide (j.natAbs < 1073741824)) || (decide (0 < j) && decide (j.natAbs.log2 < 9000))
def dAdd (x y : D) (k : D → Res) : Res := match x, y with
  | .int i, .int j => k (.int (i + j))
  | .str a, .str b => ckK (decide (a.length + b.length ≤ szLine)) (k (.str (a ++ b)))
  | .tup xs, .tup ys => ckK (decide (xs.length + ys.length ≤ szLine)) (k (.tup (xs ++ ys)))
  | .lst xs, .lst ys => ckK (decide (xs.length + ys.length ≤ szLine)) (pusK xs (pusK ys (k (.lst (xs ++ ys)))))
  | _, _ => .stuck
def dSub (x y : D) (k : D → Res) : Res := match x, y with
  | .int i, .int j => k (.int (i - j))
  | _, _ => .stuck
def repS (x : Str) (n : Nat) : Str := ⟨(List.replicate n x.cps.toList).flatten.toArray⟩
def dMul (x y : D) (k : D → Res) : Res := match x, y with
  | .int i, .int j => ckK (mulOk i j) (k (.int (i * j)))
  | .str a, .int j => ckK (decide (j.natAbs ≤ 100000) && decide (a.length * j.toNat ≤ szLine)) (k (.str (repS a j.toNat)))
  | _, _ => .stuck
def dDiv (x y : D) (k : D → Res) : Res := match x, y with
  | .int i, .int j => ckK (divOk j) (k (.int (i.fdiv j)))
  | _, _ => .stuck
def dMod (x y : D) (k : D → Res) : Res := match x, y with
  | .int i, .int j => ckK (decide (j ≠ 0)) (k (.int (i.fmod j)))
  | _, _ => .stuck
def dPow (x y : D) (k : D → Res) : Res := match x, y with
  | .int i, .int j => ckK (decide (0 ≤ j) && decide (j ≤ 1000000) && decide (i.natAbs < 18446744073709551616)) (k (.int (i ^ j.toNat)))
  | _, _ => .stuck
def binD (op : Operator) (x y : D) (k : D → Res) : Res := match op with
  | .Add => dAdd x y k
  | .Sub => dSub x y k
  | .Mult => dMul x y k
  | .FloorDiv => dDiv x y k
  | .Mod => dMod x y k
  | .Pow => dPow x y k
  | _ => .stuck

mutual
def toPy : D → PyData
  | .non => .none
  | .bl b => .bool b
  | .int i => .int i
  | .str x => .str x
  | .tup ds => .tuple (toPys ds)
  | .rol ds => .list (toPys ds)
  | .lst ds => .list (toPys ds)
  | .lck ds => .list (toPys ds)
  | .ty _ => .none
  | .fnv _ => .none
  | .dct _ _ => .none
def toPys : List D → List PyData
  | [] => []
  | d :: ds => toPy d :: toPys ds
end
mutual
/-- data that may be compared at any depth -/
def pyOk : D → Bool
  | .ty _ => false
  | .fnv _ => false
  | .dct _ _ => false
  | .tup ds => pyOks ds
  | .rol ds => pyOks ds
  | .lst ds => pyOks ds
  | .lck ds => pyOks ds
  | _ => true
def pyOks : List D → Bool
  | [] => true
  | d :: ds => pyOk d && pyOks ds
end
def eqOk (d : D) : Bool := pyOk d && SeqAt.shaped (toPy d)
def dEqD (x y : D) (k : Bool → Res) : Res := ckK (eqOk x && eqOk y) (k (PyData.eqv (toPy x) (toPy y)))
def dEq (x y : D) (k : Bool → Res) : Res := match x, y with
  | .int i, .int j => k (decide (i = j))
  | .str a, .str b => k (decide (a = b))
  | .bl a, .bl b => k (decide (a = b))
  | .non, .int _ => k false
  | .int _, .non => k false
  | .non, .str _ => k false
  | .str _, .non => k false
  | .int _, .str _ => k false
  | .str _, .int _ => k false
  | .non, .non => k true
  | .ty _, _ => .stuck
  | _, .ty _ => .stuck
  | x, y => dEqD x y k
def dLt (x y : D) (k : Bool → Res) : Res := match x, y with
  | .int i, .int j => k (decide (i < j))
  | .str a, .str b => k (decide (a.cps.toList < b.cps.toList))
  | _, _ => .stuck
def dLe (x y : D) (k : Bool → Res) : Res := match x, y with
  | .int i, .int j => k (decide (i ≤ j))
  | _, _ => .stuck
def isN : D → Bool
  | .non => true
  | _ => false
def isB (b : Bool) : D → Bool
  | .bl c => decide (c = b)
  | _ => false
/-- x is y, y a written None, True or False -/
def dIs (x y : D) (k : Bool → Res) : Res := match y with
  | .non => k (isN x)
  | .bl b => k (isB b x)
  | .ty n => (match x with
    | .ty m => k (decide (m = n))
    | _ => .stuck)
  | _ => .stuck
/-- x in y: a sign in a text; a flat value among flat values -/
def flatD : D → Bool
  | .non => true
  | .bl _ => true
  | .int _ => true
  | .str _ => true
  | _ => false
def dIn (x y : D) (k : Bool → Res) : Res := match y with
  | .str z => (match x with
    | .str a => ckK (decide (a.length = 1)) (k (decide (a.cps.getD 0 0 ∈ z.cps.toList)))
    | _ => .stuck)
  | .tup ds => ckK (flatD x && ds.all flatD) (k (ds.any fun d => PyData.eqv (toPy d) (toPy x)))
  | .rol ds => ckK (flatD x && ds.all flatD) (k (ds.any fun d => PyData.eqv (toPy d) (toPy x)))
  | .lst ds => ckK (flatD x && ds.all flatD) (k (ds.any fun d => PyData.eqv (toPy d) (toPy x)))
  | .lck ds => ckK (flatD x && ds.all flatD) (k (ds.any fun d => PyData.eqv (toPy d) (toPy x)))
  | _ => .stuck
def cmpD (op : CmpOp) (x y : D) (k : Bool → Res) : Res := match op with
  | .Eq => dEq x y k
  | .NotEq => dEq x y fun b => k (!b)
  | .Lt => dLt x y k
  | .Gt => dLt y x k
  | .LtE => dLe x y k
  | .GtE => dLe y x k
  | .Is => dIs x y k
  | .IsNot => dIs x y fun b => k (!b)
  | .In => dIn x y k
  | .NotIn => dIn x y fun b => k (!b)

def atK (ds : List D) (i : Int) (k : D → Res) : Res := match atI ds i with
  | some d => k d
  | none => .stuck
/-- d[i] -/
def dIx (d i : D) (k : D → Res) : Res := match d, i with
  | .tup ds, .int j => atK ds j k
  | .rol ds, .int j => atK ds j k
  | .lst ds, .int j => atK ds j k
  | .lck ds, .int j => atK ds j k
  | .str x, .int j => ckK (decide (x.length ≤ szLine)) (match atI x.cps.toList j with
    | some c => k (.str ⟨#[c]⟩)
    | none => .stuck)
  | _, _ => .stuck
def cutL (ds : List D) (lo hi : Option Int) : List D := (ds.drop (HT.sIx ds.length 0 lo)).take (HT.sIx ds.length ds.length hi - HT.sIx ds.length 0 lo)
/-- d[lo:hi] -/
def dSl (d : D) (lo hi : Option Int) (k : D → Res) : Res := match d with
  | .tup ds => k (.tup (cutL ds lo hi))
  | .rol ds => k (.lst (cutL ds lo hi))
  | .lst ds => pusK ds (k (.lst (cutL ds lo hi)))
  | .lck ds => pusK ds (k (.lst (cutL ds lo hi)))
  | .str x => ckK (decide (x.length ≤ szLine)) (k (.str (cutS x lo hi)))
  | _ => .stuck
def dNeg (d : D) (k : D → Res) : Res := match d with
  | .int i => k (.int (-i))
  | _ => .stuck
/-- the truth of a value -/
def dTru (d : D) (k : Bool → Res) : Res := match d with
  | .non => k false
  | .bl b => k b
  | .int i => k (decide (i ≠ 0))
  | .str x => ckK (decide (x.length ≤ szLine)) (k (decide (x.length ≠ 0)))
  | .tup ds => k (!ds.isEmpty)
  | .rol ds => k (!ds.isEmpty)
  | .lst ds => k (!ds.isEmpty)
  | .lck ds => k (!ds.isEmpty)
  | _ => .stuck
def dLen (d : D) (k : D → Res) : Res := match d with
  | .str x => ckK (decide (x.length ≤ szLine)) (k (.int x.length))
  | .tup ds => k (.int ds.length)
  | .rol ds => k (.int ds.length)
  | .lst ds => k (.int ds.length)
  | .lck ds => k (.int ds.length)
  | _ => .stuck
def dInt (lim : Nat) (d : D) (k : D → Res) : Res := match d with
  | .int i => k (.int i)
  | .bl b => k (.int (if b then 1 else 0))
  | .str x => ckK (decide (x.length ≤ lim)) (match intText? x with
    | some n => k (.int n)
    | none => .stuck)
  | _ => .stuck
def dStr (d : D) (k : D → Res) : Res := match d with
  | .int i => ckK (decide (i.natAbs.log2 < 1920)) (k (.str (Str.ofString (toString i))))
  | _ => .stuck
def dTup (d : D) (k : D → Res) : Res := match d with
  | .tup ds => k (.tup ds)
  | .rol ds => k (.tup ds)
  | .lst ds => pusK ds (k (.tup ds))
  | .lck ds => pusK ds (k (.tup ds))
  | _ => .stuck
def dAbs (d : D) (k : D → Res) : Res := match d with
  | .int i => k (.int (if i < 0 then -i else i))
  | _ => .stuck
def dOrd (d : D) (k : D → Res) : Res := match d with
  | .str x => ckK (decide (x.length = 1)) (k (.int (x.cps.getD 0 0 : Nat)))
  | _ => .stuck
def blsD : List D → Option (List Bool)
  | [] => some []
  | .bl b :: ds => (blsD ds).map (b :: ·)
  | _ :: _ => none
def intsD : List D → Option (List Int)
  | [] => some []
  | .int b :: ds => (intsD ds).map (b :: ·)
  | _ :: _ => none
/-- of a list -/
def lstK (d : D) (k : List D → Res) : Res := match d with
  | .rol ds => k ds
  | .lst ds => k ds
  | .lck ds => k ds
  | _ => .stuck
def dAll (d : D) (k : D → Res) : Res := lstK d fun ds => oK (blsD ds) fun bs => k (.bl (bs.all id))
def dAny (d : D) (k : D → Res) : Res := lstK d fun ds => oK (blsD ds) fun bs => k (.bl (bs.any id))
def dSum (d : D) (k : D → Res) : Res := lstK d fun ds => oK (intsD ds) fun bs => k (.int bs.sum)
def maxI : Int → List Int → Int
  | m, [] => m
  | m, x :: l => maxI (if m < x then x else m) l
def minI : Int → List Int → Int
  | m, [] => m
  | m, x :: l => minI (if x < m then x else m) l
def dMax1 (d : D) (k : D → Res) : Res := lstK d fun ds => oK (intsD ds) fun bs => match bs with
  | [] => .stuck
  | x :: l => k (.int (maxI x l))
def dMin1 (d : D) (k : D → Res) : Res := lstK d fun ds => oK (intsD ds) fun bs => match bs with
  | [] => .stuck
  | x :: l => k (.int (minI x l))
def dMax2 (x y : D) (k : D → Res) : Res := match x, y with
  | .int i, .int j => k (.int (if j > i then j else i))
  | _, _ => .stuck
def dMin2 (x y : D) (k : D → Res) : Res := match x, y with
  | .int i, .int j => k (.int (if j < i then j else i))
  | _, _ => .stuck
def dvmOk (i j : Int) : Bool := decide (0 < j) && decide (i.natAbs.log2 < 9000)
def dDvm (x y : D) (k : D → Res) : Res := match x, y with
  | .int i, .int j => ckK (dvmOk i j) (k (.tup [.int (i / j), .int (i % j)]))
  | _, _ => .stuck
def tyD : D → Option String
  | .non => some "NoneType"
  | .bl _ => some "bool"
  | .int _ => some "int"
  | .str _ => some "str"
  | .tup _ => some "tuple"
  | .rol _ => some "list"
  | .lst _ => some "list"
  | .lck _ => some "list"
  | .ty _ => none
  | .fnv _ => none
  | .dct _ _ => none
def isiCls (c : Str) : Option String :=
  if c = "int" then some "int"
  else if c = "str" then some "str"
  else if c = "tuple" then some "tuple"
  else if c = "list" then some "list"
  else if c = "bool" then some "bool"
  else none
def dTyp (d : D) (k : D → Res) : Res := match d with
  | .int _ => k (.ty "int")
  | .str _ => k (.ty "str")
  | .lst _ => k (.ty "list")
  | .tup _ => k (.ty "tuple")
  | .bl _ => k (.ty "bool")
  | .non => k (.ty "NoneType")
  | _ => .stuck
def dIsi (d : D) (n : String) (k : D → Res) : Res := oK (tyD d) fun t => k (.bl (t == n || (n == "int" && t == "bool")))
def strsD : List D → Option (List Str)
  | [] => some []
  | .str x :: ds => (strsD ds).map (x :: ·)
  | _ :: _ => none
def joinLen (a : Str) (ys : List Str) : Nat := (Txt.join a ys).length
def dJoin (a : Str) (d : D) (k : D → Res) : Res :=
  let go (ds : List D) : Res := match strsD ds with
    | some ys => ckK (decide ((ys.map (·.length)).sum + ys.length * a.length ≤ szLine)) (k (.str (Txt.join a ys)))
    | none => .stuck
  match d with
  | .tup ds => go ds
  | .rol ds => go ds
  | .lst ds => go ds
  | .lck ds => go ds
  | _ => .stuck

/-! ### arguments -/
def resP : List Arg → Env → (List D → Res) → Res
  | [], _, k => k []
  | .nm i :: as, ρ, k => getK ρ i fun d => puK d (resP as ρ fun ds => k (d :: ds))
  | .own d :: as, ρ, k => resP as ρ fun ds => k (d :: ds)
  | .bor d :: as, ρ, k => puK d (resP as ρ fun ds => k (d :: ds))
def resB : List Arg → Env → (List D → Res) → Res
  | [], _, k => k []
  | .nm i :: as, ρ, k => getK ρ i fun d => resB as ρ fun ds => k (d :: ds)
  | .own d :: as, ρ, k => resB as ρ fun ds => k (d :: ds)
  | .bor d :: as, ρ, k => resB as ρ fun ds => k (d :: ds)
/-- what stays in a slot that lends its value; what comes back -/
def lend (d : D) : Option D := match d.pu with
  | true => some d
  | false => none
def unlend (d : D) (o : Option (Option D)) : Option D := match d.pu with
  | true => some d
  | false => match o with
    | some o' => o'
    | none => none
/-- the arguments of a call of one's own: what is written through a name is lent -/
def takeK : List Arg → Nat → Env → (List D → Env → List (Nat × Nat × D) → Res) → Res
  | [], _, ρ, k => k [] ρ []
  | .nm i :: as, p, ρ, k => getK ρ i fun d => takeK as (p + 1) (ρ.set i (lend d)) fun ds ρ1 l => k (d :: ds) ρ1 ((i, p, d) :: l)
  | .own d :: as, p, ρ, k => takeK as (p + 1) ρ fun ds ρ1 l => k (d :: ds) ρ1 l
  | .bor d :: as, p, ρ, k => puK d (takeK as (p + 1) ρ fun ds ρ1 l => k (d :: ds) ρ1 l)
def back : List (Nat × Nat × D) → Env → Env → Env
  | [], _, ρ => ρ
  | e :: l, fin, ρ => back l fin (ρ.set e.1 (unlend e.2.2 fin[e.2.1]?))
def callK (C : Cd) (f : Str) (as : List Arg) (ρ : Env) (k : D → Env → Res) : Res :=
  takeK as 0 ρ fun ds ρ1 l => match C.call f ds with
    | .ret d fin => k d (back l fin ρ1)
    | .exc c fs => C.xc c fs ρ1
    | .stuck => .stuck

/-- what of the parameters is handed back: their objects -/
def fin1 (o : Option D) : Option D := match o with
  | some d => (match d.pu with
    | true => none
    | false => some d)
  | none => none
def finOf : Nat → Env → Env
  | 0, _ => []
  | n + 1, [] => none :: finOf n []
  | n + 1, o :: ρ => fin1 o :: finOf n ρ

/-! ### the evaluator's parts -/
structure Fns where
  E : Cd → Scope → Expr → Env → (D → Env → Res) → Res
  T : Cd → Scope → Expr → Env → (Bool → Env → Res) → Res
  A : Cd → Scope → List Expr → Env → (List Arg → Env → Res) → Res
  P : Cd → Scope → Expr → Env → (D → Env → Res) → Res
  G : Cd → Scope → Expr → D → Env → (Env → Res) → Res
  S : Cd → Scope → List Stmt → Env → Nx → Res
def dead : Fns := ⟨fun _ _ _ _ _ => .stuck, fun _ _ _ _ _ => .stuck, fun _ _ _ _ _ => .stuck, fun _ _ _ _ _ => .stuck, fun _ _ _ _ _ _ => .stuck, fun _ _ _ _ _ => .stuck⟩

def nameE (C : Cd) (sc : Scope) (x : Str) (ρ : Env) (k : D → Env → Res) : Res :=
  match slotOf C sc x with
  | some i => getK ρ i fun d => k d ρ
  | none => match globOf C sc x with
    | .con d => k d ρ
    | .bi => (match isiCls x with
      | some n => k (.ty n) ρ
      | none => .stuck)
    | .fn _ => k (.fnv x) ρ
    | _ => .stuck
def constE (c : Const) (k : D → Res) : Res := match c with
  | .int i => k (.int i)
  | .bool b => k (.bl b)
  | .none => k .non
  | .str x => k (.str x)
  | _ => .stuck
/-- a slot's new value: an own parameter's object is never lost -/
def setK (C : Cd) (i : Nat) (d : D) (ρ : Env) (k : Env → Res) : Res :=
  if i < C.np then puK d (match ρ[i]? with
    | some (some o) => puK o (k (ρ.set i (some d)))
    | _ => .stuck)
  else k (ρ.set i (some d))
/-- parts of a slice -/
def optE (R : Fns) (C : Cd) (sc : Scope) (o : Option Expr) (ρ : Env) (k : Option Int → Env → Res) : Res := match o with
  | none => k none ρ
  | some e => R.E C sc e ρ fun d ρ1 => match d with
    | .int i => k (some i) ρ1
    | _ => .stuck
def kdGet (kvs : List (Str × D)) (x : Str) : Option D := kvs.lookup x

def callE (R : Fns) (C : Cd) (sc : Scope) (f : Str) (n : Nat) (args : List Expr) (ρ : Env) (k : D → Env → Res) : Res := match args with
  | [] => ckK (decide (0 = n)) (callK C f [] ρ k)
  | a :: r => R.A C sc (a :: r) ρ fun as ρ1 => ckK (decide (as.length = n)) (callK C f as ρ1 k)
/-- a def's name as a value is called by its name -/
def mthOf (C : Cd) (sc : Scope) (x : Str) : Option String := match globOf C sc x with
  | .mth id => some id
  | _ => none
def as1 : List D → Option D
  | [d] => some d
  | _ => none
/-- sorted of a list: ints, or tuples whose first items are unlike ints -/
def hdI : D → Option Int
  | .tup (.int i :: _) => some i
  | _ => none
def hdsD : List D → Option (List Int)
  | [] => some []
  | d :: ds => match hdI d with
    | some i => (hdsD ds).map (i :: ·)
    | none => none
def insK {α : Type} (k : α → Int) (x : α) : List α → List α
  | [] => [x]
  | y :: l => if k x ≤ k y then x :: y :: l else y :: insK k x l
def srtK {α : Type} (k : α → Int) : List α → List α
  | [] => []
  | x :: l => insK k x (srtK k l)
def dSorted (d : D) (k : D → Res) : Res := lstK d fun ds => match intsD ds with
  | some ns => k (.lst ((srtK id ns).map D.int))
  | none => pusK ds (oK (hdsD ds) fun is => ckK (decide is.Nodup) (k (.lst ((srtK (·.2) (ds.zip is)).map (·.1)))))
/-- a module's mathematics -/
def i2K (ds : List D) (r : Int → Int → Res) : Res := match ds with
  | [.int a, .int b] => r a b
  | _ => .stuck
def mthB (id : String) : Bool := id == "math.gcd" || id == "math.lcm"
def dGcd (a b : Int) (k : D → Res) : Res := k (.int (Nat.gcd a.natAbs b.natAbs : Nat))
def dLcm (a b : Int) (k : D → Res) : Res := ckK (decide (a.natAbs < 18446744073709551616) && decide (b.natAbs < 18446744073709551616)) (k (.int (Nat.lcm a.natAbs b.natAbs : Nat)))
def mthR (id : String) (a b : Int) (k : D → Res) : Res := if id = "math.gcd" then dGcd a b k else dLcm a b k
def mthE (id : String) (as : List Arg) (ρ : Env) (k : D → Env → Res) : Res := resB as ρ fun ds => i2K ds fun a b => mthR id a b fun d => k d ρ
/-- a built-in called by its name -/
def tab1 (lim : Nat) : List (Str × (D → (D → Res) → Res)) := [("len", dLen), ("int", dInt lim), ("str", dStr), ("tuple", dTup), ("abs", dAbs), ("ord", dOrd), ("all", dAll), ("any", dAny), ("sum", dSum), ("max", dMax1), ("min", dMin1), ("type", dTyp), ("sorted", dSorted)]
def tab2 : List (Str × (D → D → (D → Res) → Res)) := [("max", dMax2), ("min", dMin2), ("divmod", dDvm)]
def fn1 (lim : Nat) (f : Str) : Option (D → (D → Res) → Res) := (tab1 lim).lookup f
def fn2 (f : Str) : Option (D → D → (D → Res) → Res) := tab2.lookup f
def isB1 (f : Str) : Bool := (fn1 0 f).isSome || (fn2 f).isSome
def biE (C : Cd) (f : Str) (as : List Arg) (ρ : Env) (k : D → Env → Res) : Res :=
  resB as ρ fun ds => match ds with
    | [d] => oK (fn1 C.lim f) fun g => g d fun r => k r ρ
    | [d, e] => oK (fn2 f) fun g => g d e fun r => k r ρ
    | _ => .stuck
def isiE (R : Fns) (C : Cd) (sc : Scope) (args : List Expr) (ρ : Env) (k : D → Env → Res) : Res := match args with
  | [a, .Name c _] => ckK (isBi C sc c) (oK (isiCls c) fun n => R.E C sc a ρ fun d ρ1 => dIsi d n fun r => k r ρ1)
  | _ => .stuck

/-- a written dict -/
def dcK : List (Option Expr) → Option (List Str)
  | [] => some []
  | some (.Constant (.str x) _ _) :: r => (dcK r).map (x :: ·)
  | _ :: _ => none
def dcV : List Expr → Option (List D)
  | [] => some []
  | .Constant (.int i) _ _ :: r => (dcV r).map (.int i :: ·)
  | .Constant (.bool i) _ _ :: r => (dcV r).map (.bl i :: ·)
  | .Constant .none _ _ :: r => (dcV r).map (.non :: ·)
  | .Constant (.str i) _ _ :: r => (dcV r).map (.str i :: ·)
  | _ :: _ => none
def dupS : List Str → Bool
  | [] => false
  | x :: l => l.contains x || dupS l
def dctE (ks : List (Option Expr)) (vs : List Expr) (k : D → Res) : Res := oK (dcK ks) fun xs => oK (dcV vs) fun ds => ckK (decide (xs.length = ds.length) && !dupS xs && decide (0 < xs.length) && decide (xs.length ≤ 15)) (k (.dct (xs.map .inr) ds))
def keyD : D → Option Key
  | .int i => some (.inl i)
  | .str x => some (.inr x)
  | _ => none
def dctGet : List Key → List D → Key → Option D
  | k :: ks, d :: ds, y => if decide (k = y) then some d else dctGet ks ds y
  | _, _, _ => none
/-- {..}.get(e, f) -/
def get2E (R : Fns) (C : Cd) (sc : Scope) (b a e : Expr) (ρ : Env) (k : D → Env → Res) : Res :=
  R.E C sc b ρ fun d ρ1 => match d with
    | .dct ks ds => ckK (!isPath b) (pusK ds (R.E C sc a ρ1 fun y ρ2 => R.E C sc e ρ2 fun z ρ3 => oK (keyD y) fun key => puK z (k ((dctGet ks ds key).getD z) ρ3)))
    | _ => .stuck
def getArgs (o : Expr) (m : Str) (args : List Expr) : Option (Expr × Expr) := match o, args with
  | .Dict _ _ _, [a, e] => if m = "get" then some (a, e) else none
  | _, _ => none
def raiseOf : Option Expr → Option Expr → Option (Str × Expr × List Expr)
  | some (.Call (.Name c _) (a :: r) [] _), none => some (c, a, r)
  | _, _ => none
def isDct : Expr → Bool
  | .Dict _ _ _ => true
  | _ => false
def nmOf : Expr → Option Str
  | .Name x _ => some x
  | _ => none
def opG : Expr → Bool
  | .Call (.Name _ _) [] [] _ => false
  | _ => true
def asS : List D → Option Str
  | [.str y] => some y
  | _ => none
def asSII : List D → Option (Str × Int × Int)
  | [.str y, .int i, .int j] => some (y, i, j)
  | _ => none
/-- a method of a text -/
def strM (m : Str) (x : Str) (ds : List D) (k : D → Res) : Res :=
  if m = "join" then (match ds with
    | [d] => dJoin x d k
    | _ => .stuck)
  else if m = "find" then oK (asSII ds) fun t => k (.int (Txt.findIn x t.1 t.2.1 t.2.2))
  else if m = "lstrip" then oK (asS ds) fun y => ckK (decide (x.length ≤ szLine)) (k (.str (Txt.lstripChars x y)))
  else if m = "split" then oK (asS ds) fun y => ckK (!(y.length == 0) && decide (x.length + 2 ≤ szLine)) (k (.lst ((Txt.split x y).map D.str)))
  else if m = "removeprefix" then oK (asS ds) fun y => ckK (decide (x.length ≤ szLine)) (k (.str (Txt.removeprefix x y)))
  else if m = "startswith" then oK (asS ds) fun y => k (.bl (Txt.startswith x y))
  else if m = "endswith" then oK (asS ds) fun y => k (.bl (Txt.endswith x y))
  else if m = "partition" then oK (asS ds) fun y => ckK (!(y.length == 0) && decide (x.length ≤ szLine)) (k (.tup [.str (Txt.partition x y).1, .str (Txt.partition x y).2.1, .str (Txt.partition x y).2.2]))
  else .stuck
/-- a method of a text without arguments -/
def strM0 (m : Str) (x : Str) (k : D → Res) : Res :=
  if m = "isdigit" then k (.bl (Txt.isdigit x))
  else .stuck

/-- a name's item -/
def ixN1 (R : Fns) (C : Cd) (sc : Scope) (x : Str) (i : Expr) (ρ : Env) (k : D → Env → Res) : Res := match slotOf C sc x with
  | some j => getK ρ j fun _ => R.E C sc i ρ fun y ρ1 => getK ρ1 j fun d => dIx d y fun z => k z ρ1
  | none => (match globOf C sc x with
    | .kd kvs => R.E C sc i ρ fun y ρ1 => oK (asS [y]) fun s => oK (kdGet kvs s) fun d => k d ρ1
    | .con d => R.E C sc i ρ fun y ρ1 => dIx d y fun z => k z ρ1
    | _ => .stuck)
/-- arguments, one at least -/
def argE (R : Fns) (C : Cd) (sc : Scope) (args : List Expr) (ρ : Env) (k : List Arg → Env → Res) : Res := match args with
  | [] => .stuck
  | a :: r => R.A C sc (a :: r) ρ k
/-- a method called -/
def appE (R : Fns) (C : Cd) (sc : Scope) (m : Str) (i : Nat) (args : List Expr) (ρ : Env) (k : D → Env → Res) : Res :=
  if m = "append" then R.A C sc args ρ fun as ρ1 => resP as ρ1 fun ys => oK (as1 ys) fun y => getK ρ1 i fun d1 => (match d1 with
    | .lst zs => ckK (decide (zs.length < szLine)) (k .non (ρ1.set i (some (.lst (zs ++ [y])))))
    | _ => .stuck)
  else if m = "extend" then R.A C sc args ρ fun as ρ1 => resP as ρ1 fun ys => oK (as1 ys) fun y => (match y with
    | .lst es => pusK es (getK ρ1 i fun d1 => (match d1 with
      | .lst zs => ckK (decide (zs.length + es.length ≤ szLine)) (k .non (ρ1.set i (some (.lst (zs ++ es)))))
      | _ => .stuck))
    | _ => .stuck)
  else .stuck
def isStrM (m : Str) : Bool := m == "join" || m == "find" || m == "lstrip" || m == "split" || m == "removeprefix" || m == "startswith" || m == "endswith" || m == "partition"
def str0E (R : Fns) (C : Cd) (sc : Scope) (o : Expr) (m : Str) (ρ : Env) (k : D → Env → Res) : Res :=
  ckK (m == "isdigit") (R.E C sc o ρ fun d ρ1 => oK (asS [d]) fun x => strM0 m x fun z => k z ρ1)
def strE (R : Fns) (C : Cd) (sc : Scope) (o : Expr) (m : Str) (args : List Expr) (ρ : Env) (k : D → Env → Res) : Res :=
  ckK (isStrM m) (R.E C sc o ρ fun d ρ1 => oK (asS [d]) fun x => R.A C sc args ρ1 fun as ρ2 => resB as ρ2 fun ds => strM m x ds fun z => k z ρ2)
def methE (R : Fns) (C : Cd) (sc : Scope) (o : Expr) (m : Str) (args : List Expr) (ρ : Env) (k : D → Env → Res) : Res :=
  if m = "append" ∨ m = "extend" then (match o with
    | .Name x _ => (match slotOf C sc x with
      | some i => getK ρ i fun d => (match d with
        | .lst _ => appE R C sc m i args ρ k
        | _ => .stuck)
      | none => .stuck)
    | _ => .stuck)
  else strE R C sc o m args ρ k
/-- [elt for tg in ds if ..] -/
def lcC (step : D → Env → (Option D → Env → Res) → Res) : List D → List D → Env → (List D → Env → Res) → Res
  | [], acc, ρ, k => k acc ρ
  | d :: ds, acc, ρ, k => step d ρ fun o ρ1 => match o with
    | some y => ckK (decide (acc.length < szLine)) (lcC step ds (acc ++ [y]) ρ1 k)
    | none => lcC step ds acc ρ1 k
def forC (step : D → Env → Nx → Res) : List D → Env → Nx → Res
  | [], ρ, E => E.nx ρ
  | d :: ds, ρ, E => step d ρ { nx := fun ρ1 => forC step ds ρ1 E, bk := E.nx, ct := fun ρ1 => forC step ds ρ1 E, rt := E.rt }
def whileC (test : Env → (Bool → Env → Res) → Res) (body : Env → Nx → Res) : Nat → Env → Nx → Res
  | 0, _, _ => .stuck
  | n + 1, ρ, E => test ρ fun b ρ1 => match b with
    | true => body ρ1 { nx := fun ρ2 => whileC test body n ρ2 E, bk := E.nx, ct := fun ρ2 => whileC test body n ρ2 E, rt := E.rt }
    | false => E.nx ρ1
def rngL (lo : Int) (n : Nat) : List D := (List.range n).map fun (i : Nat) => .int (lo + (i : Int))
def smallI (i : Int) : Bool := decide (i.natAbs < 4611686018427387904)
/-- what a for, a comprehension walks: its items -/
def seqK (e : Expr) (d : D) (k : List D → Res) : Res := match d with
  | .tup ds => k ds
  | .rol ds => k ds
  | .lck ds => k ds
  | .lst ds => ckK (!isPath e) (pusK ds (k ds))
  | _ => .stuck
/-- a list that a name holds is read alone from here on -/
def lockO (o : Option D) (k : Option D → Res) : Res := match o with
  | some (.lst ds) => pusK ds (k (some (.lck ds)))
  | _ => k o
def nmSlot (C : Cd) (sc : Scope) : Expr → Option Nat
  | .Name x _ => slotOf C sc x
  | _ => none
def lockE (C : Cd) (sc : Scope) (e : Expr) (ρ : Env) (k : Env → Res) : Res := match nmSlot C sc e with
  | some j => (match ρ[j]? with
    | some o => lockO o fun o' => k (ρ.set j o')
    | none => .stuck)
  | none => k ρ
def rngE (R : Fns) (C : Cd) (sc : Scope) (args : List Expr) (ρ : Env) (k : List D → Env → Res) : Res := match args with
  | [a] => R.A C sc [a] ρ fun as ρ1 => resB as ρ1 fun ds => (match ds with
    | [.int hi] => ckK (smallI hi) (k (rngL 0 hi.toNat) ρ1)
    | _ => .stuck)
  | [a, b] => R.A C sc [a, b] ρ fun as ρ1 => resB as ρ1 fun ds => (match ds with
    | [.int lo, .int hi] => ckK (smallI lo && smallI hi) (k (rngL lo (hi - lo).toNat) ρ1)
    | _ => .stuck)
  | _ => .stuck
def rngF : Expr → Option (Str × List Expr)
  | .Call (.Name f _) args [] _ => some (f, args)
  | _ => none
def isSet : Expr → Bool
  | .Set _ _ _ => true
  | _ => false
def iterE (R : Fns) (C : Cd) (sc : Scope) (e : Expr) (ρ : Env) (k : List D → Env → Res) : Res :=
  ckK (!isSet e) (lockE C sc e ρ fun ρ => match rngF e with
  | some (f, args) => if f = "range" then ckK (isBi C sc f && noStar args) (rngE R C sc args ρ k) else R.E C sc e ρ fun d ρ1 => seqK e d fun ds => k ds ρ1
  | none => R.E C sc e ρ fun d ρ1 => seqK e d fun ds => k ds ρ1)
/-- enumerate(a, start=c) -/
def enF : Expr → Option (Expr × Int)
  | .Call (.Name f _) [a] [⟨some n, .Constant (.int c) _ _, _⟩] _ => if f = "enumerate" ∧ n = "start" then some (a, c) else none
  | _ => none
def enD : Int → List D → List D
  | _, [] => []
  | c, d :: ds => .tup [.int c, d] :: enD (c + 1) ds
def isTupE : Expr → Bool
  | .Tuple _ _ _ => true
  | _ => false
/-- enumerate(a, start=e), e no written number -/
def enF2 : Expr → Option (Expr × Expr)
  | .Call (.Name f _) [a] [⟨some n, e, _⟩] _ => if f = "enumerate" ∧ n = "start" then some (a, e) else none
  | _ => none
def zipF : Expr → Option (Expr × Expr)
  | .Call (.Name f _) [a, b] [] _ => if f = "zip" then some (a, b) else none
  | _ => none
def zipD : List D → List D → List D
  | x :: xs, y :: ys => .tup [x, y] :: zipD xs ys
  | _, _ => []
def iterF (R : Fns) (C : Cd) (sc : Scope) (tg e : Expr) (ρ : Env) (k : List D → Env → Res) : Res := match enF e with
  | some t => ckK (isTupE tg && (isBi C sc "enumerate" && (noStar [t.1] && Builtin.SmallTypes.fitsIndex t.2))) (lockE C sc t.1 ρ fun ρ => R.E C sc t.1 ρ fun d ρ1 => (match d with
    | .rol ds => k (enD t.2 ds) ρ1
    | .lck ds => k (enD t.2 ds) ρ1
    | .lst ds => ckK (!isPath t.1) (pusK ds (k (enD t.2 ds) ρ1))
    | _ => .stuck))
  | none => (match enF2 e with
    | some t => (match zipF t.1 with
      | some u => ckK (isTupE tg && (isBi C sc "enumerate" && (isBi C sc "zip" && (noStar [t.1] && noStar [u.1, u.2])))) (R.A C sc [u.1, u.2] ρ fun as ρ1 => resB as ρ1 fun ds => (match ds with
        | [.tup xs, .tup ys] => R.E C sc t.2 ρ1 fun z ρ2 => (match z with
          | .int c => ckK (Builtin.SmallTypes.fitsIndex c) (k (enD c (zipD xs ys)) ρ2)
          | _ => .stuck)
        | _ => .stuck))
      | none => ckK (isTupE tg && (isBi C sc "enumerate" && noStar [t.1])) (R.E C sc t.1 ρ fun d ρ1 => (match d with
      | .tup ds => R.E C sc t.2 ρ1 fun z ρ2 => (match z with
        | .int c => ckK (Builtin.SmallTypes.fitsIndex c) (k (enD c ds) ρ2)
        | _ => .stuck)
      | _ => .stuck)))
    | none => (match zipF e with
      | some t => ckK (isTupE tg && (isBi C sc "zip" && noStar [t.1, t.2])) (R.A C sc [t.1, t.2] ρ fun as ρ1 => resB as ρ1 fun ds => (match ds with
        | [.tup xs, .tup ys] => k (zipD xs ys) ρ1
        | _ => .stuck))
      | none => iterE R C sc e ρ k))
def ownOf (N : List Str) (scope : Scope) : List (Str × Nat) := scope.names.filterMap fun y => match y.2 with
  | .local => (ixOf N y.1).map fun i => (y.1, i)
  | .cell => (ixOf N y.1).map fun i => (y.1, i)
  | _ => none
def wipeE (ρ : Env) : List Nat → Env
  | [] => ρ
  | v :: vs => (wipeE ρ vs).set v none
def wipeB (ρ ρ0 : Env) : List Nat → Env
  | [] => ρ
  | v :: vs => wipeB (ρ.set v (ρ0[v]?.getD none)) ρ0 vs
/-- the slots that a comprehension's names hide hold nothing that is written -/
def hidOk (ρ : Env) : List Nat → Bool
  | [] => true
  | v :: vs => (match ρ[v]? with
    | some (some d) => d.pu
    | some none => true
    | none => false) && hidOk ρ vs
def ifsE (R : Fns) (C : Cd) (sc : Scope) (ifs : List Expr) (ρ : Env) (k : Bool → Env → Res) : Res := match ifs with
  | [] => k true ρ
  | [c] => R.T C sc c ρ k
  | _ => .stuck
def few {α : Type} : List α → Bool
  | [] => true
  | [_] => true
  | _ => false
/-- within a comprehension's block -/
def noCls : Glo → Glo
  | .cls _ => .no
  | g => g
def lcCd (C : Cd) (scope : Scope) : Cd := { C with own := fun x => locl scope x, xc := fun _ _ _ => .stuck, glo := fun x => noCls (C.glo x) }
def lcStep (R : Fns) (C : Cd) (sc : Scope) (elt tg : Expr) (ifs : List Expr) (scope : Scope) (d : D) (ρ2 : Env) (k2 : Option D → Env → Res) : Res :=
  R.G (lcCd C scope) (relS scope sc) tg d (wipeE ρ2 ((ownOf C.N scope).map (·.2))) fun ρ3 => ifsE R (lcCd C scope) (relS scope sc) ifs ρ3 fun b ρ4 => match b with
      | true => R.E (lcCd C scope) (relS scope sc) elt ρ4 fun y ρ5 => storK elt y (k2 (some y) ρ5)
      | false => k2 none ρ4
def lcE (R : Fns) (C : Cd) (sc : Scope) (elt tg it : Expr) (ifs : List Expr) (scope : Scope) (ρ : Env) (k : D → Env → Res) : Res :=
  ckK (blkC C.N sc scope (ownOf C.N scope) && few ifs && !isSet it) <|
  iterF R C sc tg it ρ fun ds ρ1 =>
    ckK (hidOk ρ1 ((ownOf C.N scope).map (·.2))) <|
    lcC (lcStep R C sc elt tg ifs scope) ds [] (wipeE ρ1 ((ownOf C.N scope).map (·.2))) fun acc ρ6 => k (.lst acc) (wipeB ρ6 ρ1 ((ownOf C.N scope).map (·.2)))

/-- membership: in a written dict -/
def kdOf (C : Cd) (sc : Scope) (b : Expr) : Option (List (Str × D)) := match b with
  | .Name y _ => (match slotOf C sc y with
    | none => (match globOf C sc y with
      | .kd kvs => some kvs
      | _ => none)
    | _ => none)
  | _ => none
def nIn : CmpOp → Bool
  | .In => false
  | .NotIn => false
  | _ => true
def isLstE : Expr → Bool
  | .List _ _ => true
  | _ => false
/-- x op [..]: the name is looked up again -/
def cmpJ (C : Cd) (sc : Scope) (a b : Expr) : Option Nat := match a with
  | .Name x _ => if isLstE b then slotOf C sc x else none
  | _ => none
def cmpE (R : Fns) (C : Cd) (sc : Scope) (a : Expr) (op : CmpOp) (b : Expr) (ρ : Env) (k : Bool → Env → Res) : Res :=
  match op, kdOf C sc b with
  | .In, some kvs => R.E C sc a ρ fun x ρ1 => oK (asS [x]) fun s => k (kdGet kvs s).isSome ρ1
  | .NotIn, some kvs => R.E C sc a ρ fun x ρ1 => oK (asS [x]) fun s => k (!(kdGet kvs s).isSome) ρ1
  | op, _ => ckK (!behindInMarks op b) (match cmpJ C sc a b with
    | some j => getK ρ j fun _ => R.E C sc b ρ fun y ρ2 => getK ρ2 j fun x => cmpD op x y fun c => k c ρ2
    | none => R.E C sc a ρ fun x ρ1 => holdK a x b (R.E C sc b ρ1 fun y ρ2 => cmpD op x y fun c => k c ρ2))

/-- a part of an f-string -/
def fmtD : D → Option Str
  | .str y => if y.length ≤ szLine then some y else none
  | .int i => if i.natAbs.log2 < 1920 then some (Str.ofString (toString i)) else none
  | _ => none
def fmtI (sp : Str) : D → Option Str
  | .int i => if 0 ≤ i ∧ i < 10 ^ 10 then some (intSpecTextOf sp i) else none
  | _ => none
def fvE (R : Fns) (C : Cd) (sc : Scope) (e : Expr) (ρ : Env) (k : Str → Env → Res) : Res := match e with
  | .Constant (.str x) _ _ => k x ρ
  | .FormattedValue e (.negSucc 0) none _ => R.E C sc e ρ fun d ρ1 => oK (fmtD d) fun y => k y ρ1
  | .FormattedValue e (.negSucc 0) (some (.JoinedStr [.Constant (.str sp) _ _] _)) _ => ckK (decide (640 < C.lim) && (intSpecOk sp && decide (sp.length ≤ szLine))) (R.E C sc e ρ fun d ρ1 => oK (fmtI sp d) fun y => k y ρ1)
  | _ => .stuck
def fsE (R : Fns) (C : Cd) (sc : Scope) : List Expr → Str → Env → (Str → Env → Res) → Res
  | [], acc, ρ, k => k acc ρ
  | e :: r, acc, ρ, k => fvE R C sc e ρ fun y ρ1 => ckK (decide (acc.length + y.length ≤ szLine)) (fsE R C sc r (acc ++ y) ρ1 k)
/-- x op b, b a calculation: the name is looked up again -/
def addN (R : Fns) (C : Cd) (sc : Scope) (x : Str) (q : Pos) (op : Operator) (b : Expr) (ρ : Env) (k : D → Env → Res) : Res := match isCalm b with
  | true => R.E C sc (.Name x q) ρ fun d ρ1 => holdK (.Name x q) d b (R.E C sc b ρ1 fun y ρ2 => binD op d y fun z => k z ρ2)
  | false => (match slotOf C sc x with
    | some j => getK ρ j fun _ => R.E C sc b ρ fun y ρ1 => getK ρ1 j fun d => binD op d y fun z => k z ρ1
    | none => R.E C sc (.Name x q) ρ fun d ρ1 => holdK (.Name x q) d b (R.E C sc b ρ1 fun y ρ2 => binD op d y fun z => k z ρ2))
/-- x[lo:hi]: the name is looked up again -/
def slN (R : Fns) (C : Cd) (sc : Scope) (x : Str) (q : Pos) (lo hi : Option Expr) (ρ : Env) (k : D → Env → Res) : Res := match slotOf C sc x with
  | some j => getK ρ j fun _ => optE R C sc lo ρ fun l ρ2 => optE R C sc hi ρ2 fun h ρ3 => getK ρ3 j fun d => dSl d l h fun z => k z ρ3
  | none => R.E C sc (.Name x q) ρ fun d ρ1 => puK d (optE R C sc lo ρ1 fun l ρ2 => optE R C sc hi ρ2 fun h ρ3 => dSl d l h fun z => k z ρ3)
/-- sorted(set(a)), ints -/
def insU (x : Int) : List Int → List Int
  | [] => [x]
  | y :: l => if x < y then x :: y :: l else if x = y then y :: l else y :: insU x l
def sortU : List Int → List Int
  | [] => []
  | x :: l => insU x (sortU l)
def srtD (d : D) (k : D → Res) : Res := match d with
  | .lst ds => oK (intsD ds) fun ns => ckK (decide (ns.length < 64)) (k (.lst ((sortU ns).map D.int)))
  | _ => .stuck
def srtF (f : Str) : List Expr → Option Expr
  | [.Call (.Name g _) [a] [] _] => if f = "sorted" ∧ g = "set" then some a else none
  | _ => none
def srtE (R : Fns) (C : Cd) (sc : Scope) (a : Expr) (ρ : Env) (k : D → Env → Res) : Res := R.E C sc a ρ fun d ρ1 => srtD d fun z => k z ρ1
/-- a list display with stars -/
def listF : Expr → Bool
  | .List _ _ => true
  | .Starred _ _ => true
  | .Call (.Name f _) _ _ _ => f == "list"
  | _ => false
def anyStar (es : List Expr) : Bool := es.any listF
/-- a new list in a display is read alone -/
def frzK (p : Bool) (d : D) (k : D → Res) : Res := match d with
  | .lst ds => ckK (!p) (pusK ds (k (.rol ds)))
  | d => puK d (k d)
def revF : Expr → Option Expr
  | .Call (.Name f _) [a] [] _ => if f = "reversed" then some a else none
  | _ => none
/-- the items of a value that is not written -/
def itsK (d : D) (k : List D → Res) : Res := match d with
  | .tup ds => k ds
  | .rol ds => k ds
  | .lck ds => k ds
  | .lst ds => pusK ds (k ds)
  | _ => .stuck
def lstP' (d : D) (k : List D → Res) : Res := lstK d fun ds => pusK ds (k ds)
def lsE (R : Fns) (C : Cd) (sc : Scope) : List Expr → Env → (List D → Env → Res) → Res
  | [], ρ, k => k [] ρ
  | .Starred e _ :: r, ρ, k => (match revF e with
    | some a => ckK (isBi C sc "reversed" && noStar [a]) (R.E C sc a ρ fun d ρ1 => lstP' d fun ds => lsE R C sc r ρ1 fun es ρ2 => k (ds.reverse ++ es) ρ2)
    | none => R.E C sc e ρ fun d ρ1 => itsK d fun ds => lsE R C sc r ρ1 fun es ρ2 => k (ds ++ es) ρ2)
  | e :: r, ρ, k => R.E C sc e ρ fun d ρ1 => frzK (isPath e) d fun d' => lsE R C sc r ρ1 fun es ρ2 => k (d' :: es) ρ2
def stepE (R : Fns) (C : Cd) (sc : Scope) (e : Expr) (ρ : Env) (k : D → Env → Res) : Res :=
  match e with
  | .Name x _ => nameE C sc x ρ k
  | .Constant c _ _ => constE c fun d => k d ρ
  | .Tuple es _ _ => (match anyStar es with
    | true => lsE R C sc es ρ fun ds ρ1 => ckK (decide (ds.length ≤ szLine)) (k (.tup ds) ρ1)
    | false => R.A C sc es ρ fun as ρ1 => ckK (decide (as.length ≤ 1000)) (resP as ρ1 fun ds => pusK ds (k (.tup ds) ρ1)))
  | .List es _ => (match anyStar es with
    | true => lsE R C sc es ρ fun ds ρ1 => ckK (decide (ds.length ≤ szLine)) (k (.lst ds) ρ1)
    | false => R.A C sc es ρ fun as ρ1 => ckK (decide (as.length ≤ 1000)) (resP as ρ1 fun ds => k (.lst ds) ρ1))
  | .BinOp (.Constant (.str x) _ _) .Add b _ => R.P C sc b ρ fun y ρ2 => binD .Add (.str x) y fun z => k z ρ2
  | .BinOp (.Name x q) op b _ => addN R C sc x q op b ρ k
  | .BinOp a op b _ => R.E C sc a ρ fun x ρ1 => holdK a x b (R.E C sc b ρ1 fun y ρ2 => binD op x y fun z => k z ρ2)
  | .UnaryOp .USub a _ => R.E C sc a ρ fun x ρ1 => dNeg x fun z => k z ρ1
  | .IfExp t a b _ => R.T C sc t ρ fun c ρ1 => match c with
    | true => R.E C sc a ρ1 k
    | false => R.E C sc b ρ1 k
  | .Dict ks vs _ => dctE ks vs fun d => k d ρ
  | .Compare a [op, op'] [b, c] _ => ckK (nIn op' && nIn op) <| R.E C sc a ρ fun x ρ1 => puK x (R.E C sc b ρ1 fun y ρ2 => puK y (cmpD op x y fun t => match t with
    | true => R.E C sc c ρ2 fun z ρ3 => cmpD op' y z fun u => k (.bl u) ρ3
    | false => k (.bl false) ρ2))
  | .Compare a [op] [b] _ => cmpE R C sc a op b ρ fun c ρ1 => k (.bl c) ρ1
  | .UnaryOp .Not a _ => R.E C sc a ρ fun x ρ1 => dTru x fun c => k (.bl (!c)) ρ1
  | .BoolOp .And [a] _ => R.E C sc a ρ k
  | .BoolOp .Or [a] _ => R.E C sc a ρ k
  | .BoolOp .And (a :: b :: r) p => R.E C sc a ρ fun x ρ1 => dTru x fun c => match c with
    | true => R.E C sc (.BoolOp .And (b :: r) p) ρ1 k
    | false => k x ρ1
  | .BoolOp .Or (a :: b :: r) p => R.E C sc a ρ fun x ρ1 => dTru x fun c => match c with
    | true => k x ρ1
    | false => R.E C sc (.BoolOp .Or (b :: r) p) ρ1 k
  | .Subscript (.Name x q) (.Slice lo hi none _) _ => slN R C sc x q lo hi ρ k
  | .Subscript b (.Slice lo hi none _) _ => R.E C sc b ρ fun d ρ1 => puK d (optE R C sc lo ρ1 fun l ρ2 => optE R C sc hi ρ2 fun h ρ3 => dSl d l h fun z => k z ρ3)
  | .Subscript _ (.Slice _ _ (some _) _) _ => .stuck
  | .Subscript (.Name x _) i _ => ixN1 R C sc x i ρ k
  | .Subscript (.Dict ks vs q) i _ => R.E C sc (.Dict ks vs q) ρ fun d ρ1 => (match d with
    | .dct ks ds => pusK ds (R.E C sc i ρ1 fun y ρ2 => oK (keyD y) fun key => oK (dctGet ks ds key) fun z => k z ρ2)
    | _ => .stuck)
  | .Subscript b i _ => R.E C sc b ρ fun d ρ1 => holdK b d i (R.E C sc i ρ1 fun y ρ2 => dIx d y fun z => k z ρ2)
  | .Call (.Name f _) args [] _ => ckK (noStar args) (match isFn C sc f with
    | some n => callE R C sc f n args ρ k
    | none => (match slotOf C sc f with
      | some i => getK ρ i fun d => (match d with
        | .fnv g => (match C.glo g with
          | .fn n => ckK (!args.isEmpty) (callE R C sc g n args ρ k)
          | _ => .stuck)
        | _ => .stuck)
      | none => (match mthOf C sc f with
        | some id => ckK (mthB id) (argE R C sc args ρ fun as ρ1 => mthE id as ρ1 k)
        | none => ckK (isBi C sc f) (match srtF f args with
          | some a => ckK (isBi C sc "set" && noStar [a]) (srtE R C sc a ρ k)
          | none => if f = "isinstance" then isiE R C sc args ρ k
          else ckK (isB1 f) (argE R C sc args ρ fun as ρ1 => biE C f as ρ1 k)))))
  | .Call (.Attribute o m ap) args [] p => (match getArgs o m args with
    | some ae => ckK ((ap.endLine == p.line) && noStar [ae.1, ae.2]) (get2E R C sc o ae.1 ae.2 ρ k)
    | none => (match args with
      | [] => ckK (opG o && (ap.endLine == p.line)) (str0E R C sc o m ρ k)
      | args => ckK (opG o && (ap.endLine == p.line) && noStar args && !args.isEmpty && decide (args.length < 20)) (methE R C sc o m args ρ k)))
  | .ListComp elt [⟨tg, it, ifs, 0⟩] scope _ => lcE R C sc elt tg it ifs scope ρ k
  | .JoinedStr (a :: r) _ => fsE R C sc (a :: r) Str.empty ρ fun y ρ1 => k (.str y) ρ1
  | _ => .stuck

def stepT (R : Fns) (C : Cd) (sc : Scope) (e : Expr) (ρ : Env) (k : Bool → Env → Res) : Res :=
  match e with
  | .UnaryOp .Not a _ => R.T C sc a ρ fun b ρ1 => k (!b) ρ1
  | .BoolOp .And [a] _ => R.T C sc a ρ k
  | .BoolOp .Or [a] _ => R.T C sc a ρ k
  | .BoolOp .And (a :: b :: r) p => R.T C sc a ρ fun c ρ1 => match c with
    | true => R.T C sc (.BoolOp .And (b :: r) p) ρ1 k
    | false => k false ρ1
  | .BoolOp .Or (a :: b :: r) p => R.T C sc a ρ fun c ρ1 => match c with
    | true => k true ρ1
    | false => R.T C sc (.BoolOp .Or (b :: r) p) ρ1 k
  | .Compare a [op] [b] _ => cmpE R C sc a op b ρ k
  | .Compare a [op, op'] [b, c] _ => ckK (nIn op' && nIn op) <| R.E C sc a ρ fun x ρ1 => puK x (R.E C sc b ρ1 fun y ρ2 => puK y (cmpD op x y fun t => match t with
    | true => R.E C sc c ρ2 fun z ρ3 => cmpD op' y z fun u => k u ρ3
    | false => k false ρ2))
  | .Compare _ _ _ _ => .stuck
  | .IfExp _ _ _ _ => .stuck
  | .BoolOp _ _ _ => .stuck
  | e => R.E C sc e ρ fun d ρ1 => dTru d fun b => k b ρ1

def argRest (R : Fns) (C : Cd) (sc : Scope) (e : Expr) (r : List Expr) (k : List Arg → Env → Res) (d : D) (ρ1 : Env) : Res :=
  if isPath e then (match r with
    | [] => k [.bor d] ρ1
    | _ :: _ => puK d (R.A C sc r ρ1 fun as ρ2 => k (.own d :: as) ρ2))
  else R.A C sc r ρ1 fun as ρ2 => k (.own d :: as) ρ2
def stepA (R : Fns) (C : Cd) (sc : Scope) (es : List Expr) (ρ : Env) (k : List Arg → Env → Res) : Res :=
  match es with
  | [] => k [] ρ
  | .Starred _ _ :: _ => .stuck
  | .Name x p :: r => (match slotOf C sc x with
    | some i => getK ρ i fun _ => R.A C sc r ρ fun as ρ1 => k (.nm i :: as) ρ1
    | none => R.E C sc (.Name x p) ρ fun d ρ1 => puK d (R.A C sc r ρ1 fun as ρ2 => k (.own d :: as) ρ2))
  | e :: r => R.E C sc e ρ fun d ρ1 => argRest R C sc e r k d ρ1

/-- an expression behind a written text: there replace(lit, lit) may stand -/
def stepP (R : Fns) (C : Cd) (sc : Scope) (e : Expr) (ρ : Env) (k : D → Env → Res) : Res :=
  match e with
  | .Call (.Attribute o m ap) [.Constant (.str y) _ _, .Constant (.str z) _ _] [] p =>
    if m = "replace" then ckK (opG o && (ap.endLine == p.line) && !(y == z)) (R.P C sc o ρ fun d ρ1 => oK (asS [d]) fun x => ckK (decide (x.length + (x.length + 1) * z.length ≤ szLine)) (k (.str (Txt.replace x y z)) ρ1))
    else R.E C sc e ρ k
  | e => R.E C sc e ρ k

def consK (l : List D) (k : D → List D → Res) : Res := match l with
  | a :: r => k a r
  | _ => .stuck
def nilK (l : List D) (r : Res) : Res := match l with
  | [] => r
  | _ => .stuck
def tgsE (R : Fns) (C : Cd) (sc : Scope) : List Expr → List D → Env → (Env → Res) → Res
  | [], ds, ρ, k => nilK ds (k ρ)
  | e :: es, ds, ρ, k => consK ds fun d r => R.G C sc e d ρ fun ρ1 => tgsE R C sc es r ρ1 k
/-- a target takes a value -/
def stepG (R : Fns) (C : Cd) (sc : Scope) (tg : Expr) (d : D) (ρ : Env) (k : Env → Res) : Res :=
  match tg with
  | .Name x _ => (match slotOf C sc x with
    | some i => ckK (C.own x && locl sc x) (setK C i d ρ k)
    | none => .stuck)
  | .Tuple es _ _ => ckK (noStar es) (match d with
    | .tup ds => ckK (decide (ds.length = es.length)) (tgsE R C sc es ds ρ k)
    | .lst ds => ckK (decide (ds.length = es.length)) (pusK ds (tgsE R C sc es ds ρ k))
    | _ => .stuck)
  | _ => .stuck

def isLc : Expr → Bool
  | .ListComp _ _ _ _ => true
  | .SetComp _ _ _ _ => true
  | .DictComp _ _ _ _ _ => true
  | _ => false
def isSl : Expr → Bool
  | .Slice _ _ _ _ => true
  | _ => false
def asI : D → Option Int
  | .int i => some i
  | _ => none
def isAS : Operator → Bool
  | .Add => true
  | .Sub => true
  | _ => false
/-- d op= y, ints and texts -/
def augD (op : Operator) (d y : D) (k : D → Res) : Res := match op, d, y with
  | .Add, .int a, .int b => k (.int (a + b))
  | .Add, .str a, .str b => ckK (decide (a.length + b.length ≤ szLine)) (k (.str (a ++ b)))
  | .Sub, .int a, .int b => k (.int (a - b))
  | _, _, _ => .stuck
def isTup : Expr → Bool
  | .Tuple _ _ _ => true
  | _ => false
def lcOf : Expr → Option (Expr × Expr × Expr × List Expr × Scope)
  | .ListComp elt [⟨tg, it, ifs, 0⟩] scope _ => some (elt, tg, it, ifs, scope)
  | _ => none
/-- a, b = x, y at plain names -/
def parOf (es : List Expr) (e : Expr) : Option ((Str × Pos) × (Str × Pos) × Expr × Expr) := match es, e with
  | [.Name x px, .Name y py], .Tuple [a, b] _ _ => some ((x, px), (y, py), a, b)
  | _, _ => none
def isLoc (sc : Scope) (x : Str) : Bool := match sc.names.lookup x with
  | some .local => true
  | _ => false
def parOk (sc : Scope) (x y : Str × Pos) (a b : Expr) : Bool :=
  !((if sc.kind.isAnnotationScope then ScopeKind.function else sc.kind) != .function) && (isLoc sc x.1 && (isLoc sc y.1 && ((y.2.line == x.2.line) && (!(decide (x.1 = y.1)) && (noStar [a, b] && (!([a, b].all (foldedForSure 8)) && !([a, b].all (constantsAlone 8))))))))
def parS (R : Fns) (C : Cd) (sc : Scope) (x y : Str × Pos) (a b : Expr) (ρ : Env) (E : Nx) : Res :=
  ckK (parOk sc x y a b) (match slotOf C sc x.1 with
    | some i => (match slotOf C sc y.1 with
      | some j => R.A C sc [a, b] ρ fun as ρ1 => resP as ρ1 fun ds => (match ds with
        | [d1, d2] => setK C i d1 ρ1 fun ρ2 => setK C j d2 ρ2 E.nx
        | _ => .stuck)
      | none => .stuck)
    | none => .stuck)
/-- what is handed back -/
def retE (R : Fns) (C : Cd) (sc : Scope) (e : Expr) (ρ : Env) (E : Nx) : Res := match e with
  | .Name x _ => (match slotOf C sc x with
    | some i => getK ρ i fun d => (match d.pu with
      | true => E.rt d ρ
      | false => ckK (decide (C.np ≤ i)) (E.rt d (ρ.set i none)))
    | none => R.E C sc e ρ fun d ρ1 => puK d (E.rt d ρ1))
  | e => R.E C sc e ρ fun d ρ1 => storK e d (E.rt d ρ1)
def stepS1 (R : Fns) (C : Cd) (sc : Scope) (st : Stmt) (ρ : Env) (E : Nx) : Res :=
  match st with
  | .Pass _ => E.nx ρ
  | .Break _ => E.bk ρ
  | .Continue _ => E.ct ρ
  | .Expr e _ => ckK (!isLc e) (R.E C sc e ρ fun _ ρ1 => E.nx ρ1)
  | .Return none _ => E.rt .non ρ
  | .Return (some e) _ => (match e with
    | .Name x _ => (match slotOf C sc x with
      | some i => getK ρ i fun d => (match d.pu with
        | true => E.rt d ρ
        | false => ckK (decide (C.np ≤ i)) (E.rt d (ρ.set i none)))
      | none => R.E C sc e ρ fun d ρ1 => puK d (E.rt d ρ1))
    | .IfExp t a b _ => R.T C sc t ρ fun c ρ1 => (match c with
      | true => retE R C sc a ρ1 E
      | false => retE R C sc b ρ1 E)
    | e => R.E C sc e ρ fun d ρ1 => storK e d (E.rt d ρ1))
  | .Assign [tg] e _ => (match tg with
    | .Name x _ => (match slotOf C sc x with
      | some i => ckK (C.own x && locl sc x) (match isLc e with
        | true => (match lcOf e with
          | some (elt, tg', it, ifs, scope) => lcE R C sc elt tg' it ifs scope ρ fun d ρ1 => setK C i d ρ1 E.nx
          | none => .stuck)
        | false => R.E C sc e ρ fun d ρ1 => storK e d (setK C i d ρ1 E.nx))
      | none => .stuck)
    | .Tuple es n tp => (match parOf es e with
     | some t => parS R C sc t.1 t.2.1 t.2.2.1 t.2.2.2 ρ E
     | none => ckK (!isLc e && !isTup e) (R.E C sc e ρ fun d ρ1 => ckK (!isPath e || d.pu) (R.G C sc (.Tuple es n tp) d ρ1 E.nx)))
    | .Subscript (.Name x _) i _ => ckK (!isLc e && !isSl i) (match slotOf C sc x with
      | some j => R.E C sc e ρ fun d ρ1 => puK d (getK ρ1 j fun _ => R.E C sc i ρ1 fun y ρ2 => oK (asI y) fun n => getK ρ2 j fun c => (match c with
          | .lst ds => oK (ixN ds.length n) fun m => E.nx (ρ2.set j (some (.lst (ds.set m d))))
          | _ => .stuck))
      | none => .stuck)
    | _ => .stuck)
  | .AugAssign (.Name x _) op e _ => (match slotOf C sc x with
    | some i => ckK (C.own x && locl sc x && isAS op) (getK ρ i fun d => puK d (R.E C sc e ρ fun y ρ1 => augD op d y fun z => setK C i z ρ1 E.nx))
    | none => .stuck)
  | .If c a b _ => R.T C sc c ρ fun t ρ1 => match t with
    | true => R.S C sc a ρ1 E
    | false => R.S C sc b ρ1 E
  | .For tg it body [] _ => ckK (!isSet it) (iterF R C sc tg it ρ fun ds ρ1 =>
      forC (fun d ρ2 E2 => R.G C sc tg d ρ2 fun ρ3 => R.S C sc body ρ3 E2) ds ρ1 E)
  | .Raise e ca _ => oK (raiseOf e ca) fun t => (match globOf C sc t.1 with
    | .cls ps => ckK (noStar (t.2.1 :: t.2.2)) (R.A C sc (t.2.1 :: t.2.2) ρ fun as ρ1 => resP as ρ1 fun ds => pusK ds (ckK (decide (ds.length = ps.length) && decide (ps.length ≤ 100)) (C.xc t.1 (ps.zip ds) ρ1)))
    | _ => .stuck)
  | .While c body [] _ => whileC (fun ρ1 k => R.T C sc c ρ1 k) (fun ρ1 E2 => R.S C sc body ρ1 E2) C.wf ρ E
  | _ => .stuck
def stepS (R : Fns) (C : Cd) (sc : Scope) (ss : List Stmt) (ρ : Env) (E : Nx) : Res :=
  match ss with
  | [] => E.nx ρ
  | st :: r => stepS1 R C sc st ρ { E with nx := fun ρ1 => R.S C sc r ρ1 E }

def step (R : Fns) : Fns := ⟨stepE R, stepT R, stepA R, stepP R, stepG R, stepS R⟩
def ev : Nat → Fns
  | 0 => dead
  | n + 1 => step (ev n)

/-- a def of the text -/
structure Df where
  N : List Str
  np : Nat
  sc : Scope
  body : List Stmt
def cdOf (glo : Str → Glo) (call : Str → List D → Res) (lim wf : Nat) (d : Df) : Cd := { N := d.N, np := d.np, glo := glo, call := call, wf := wf, own := fun _ => true, xc := fun c fs _ => .exc c fs, lim := lim }
def nx0 (np : Nat) : Nx := { nx := fun ρ => .ret .non (finOf np ρ), bk := fun _ => .stuck, ct := fun _ => .stuck, rt := fun d' ρ => .ret d' (finOf np ρ) }
def env0 (d : Df) (ds : List D) : Env := ds.map some ++ List.replicate (d.N.length - ds.length) none
def runD (glo : Str → Glo) (call : Str → List D → Res) (lim wf m : Nat) (d : Df) (ds : List D) : Res :=
  (ev m).S (cdOf glo call lim wf d) d.sc d.body (env0 d ds) (nx0 d.np)
/-- what the names of the text are -/
structure Tab where
  fns : List (Str × Df)
  exts : List (Str × Nat × (List D → Res))
  cons : List (Str × Glo)
  bis : List Str
  lim : Nat
def Tab.glo (T : Tab) (x : Str) : Glo := match T.fns.lookup x with
  | some d => .fn d.np
  | none => match T.exts.lookup x with
    | some g => .fn g.1
    | none => match T.cons.lookup x with
      | some (.con d) => .con d
      | some (.kd kvs) => .kd kvs
      | some (.cls ps) => .cls ps
      | some (.mth id) => .mth id
      | _ => match T.bis.contains x with
        | true => .bi
        | false => .no
def Tab.call (T : Tab) (wf m : Nat) : Nat → Str → List D → Res
  | 0, _, _ => .stuck
  | n + 1, f, ds => match T.fns.lookup f with
    | some d => runD T.glo (T.call wf m n) T.lim wf m d ds
    | none => match T.exts.lookup f with
      | some g => g.2 ds
      | none => .stuck
end TI
set_option Elab.async false
set_option linter.all false
set_option maxRecDepth 100000
set_option maxHeartbeats 4000000
/-! the operators by values -/
namespace TI
open PySem PySem.Spec PyProof.Rows L2

theorem ckK_of {G : Res → Prop} (hG : ¬ G .stuck) {b : Bool} {r : Res} (h : G (ckK b r)) : b = true ∧ G r := by
  cases b with
  | true => exact ⟨rfl, h⟩
  | false => exact absurd h hG
theorem puK_of {G : Res → Prop} (hG : ¬ G .stuck) {d : D} {r : Res} (h : G (puK d r)) : d.pu = true ∧ G r := by
  unfold puK at h
  cases e : d.pu with
  | true => rw [e] at h; exact ⟨rfl, h⟩
  | false => rw [e] at h; exact absurd h hG
theorem pusK_of {G : Res → Prop} (hG : ¬ G .stuck) {d : List D} {r : Res} (h : G (pusK d r)) : D.pus d = true ∧ G r := by
  unfold pusK at h
  cases e : D.pus d with
  | true => rw [e] at h; exact ⟨rfl, h⟩
  | false => rw [e] at h; exact absurd h hG
theorem oK_of {α : Type} {G : Res → Prop} (hG : ¬ G .stuck) {o : Option α} {k : α → Res} (h : G (oK o k)) : ∃ a, o = some a ∧ G (k a) := by
  cases o with
  | none => exact absurd h hG
  | some a => exact ⟨a, rfl, h⟩
theorem getK_of {G : Res → Prop} (hG : ¬ G .stuck) {ρ : Env} {i : Nat} {k : D → Res} (h : G (getK ρ i k)) : ∃ d, ρ[i]? = some (some d) ∧ G (k d) := by
  unfold getK at h
  cases e : ρ[i]? with
  | none => rw [e] at h; exact absurd h hG
  | some o =>
    cases o with
    | none => rw [e] at h; exact absurd h hG
    | some d => rw [e] at h; exact ⟨d, rfl, h⟩
theorem pus_append : ∀ {xs ys : List D}, D.pus xs = true → D.pus ys = true → D.pus (xs ++ ys) = true
  | [], ys, _, h => h
  | d :: xs, ys, h1, h2 => by
    rw [D.pus, Bool.and_eq_true] at h1
    rw [List.cons_append, D.pus, h1.1, pus_append h1.2 h2]
    rfl
theorem pus_take : ∀ {xs : List D} (n : Nat), D.pus xs = true → D.pus (xs.take n) = true
  | xs, 0, _ => by rw [List.take_zero]; rfl
  | [], n + 1, h => by rw [List.take_nil]; rfl
  | d :: xs, n + 1, h => by
    rw [D.pus, Bool.and_eq_true] at h
    rw [List.take_succ_cons, D.pus, h.1, pus_take n h.2]
    rfl
theorem pus_drop : ∀ {xs : List D} (n : Nat), D.pus xs = true → D.pus (xs.drop n) = true
  | xs, 0, h => h
  | [], n + 1, h => by rw [List.drop_nil]; rfl
  | d :: xs, n + 1, h => by
    rw [D.pus, Bool.and_eq_true] at h
    exact pus_drop n h.2
theorem pus_get : ∀ {xs : List D} {i : Nat} {d : D}, D.pus xs = true → xs[i]? = some d → d.pu = true
  | [], i, d, _, h => by simp at h
  | x :: xs, 0, d, h, e => by
    rw [D.pus, Bool.and_eq_true] at h
    simp at e; subst e; exact h.1
  | x :: xs, i + 1, d, h, e => by
    rw [D.pus, Bool.and_eq_true] at h
    exact pus_get h.2 (by simpa using e)
theorem szLine_eq : szLine = sizeLine := by rw [sizeLine_eq]; rfl

/-- what an operation on values hands on -/
def VRes (G : Res → Prop) (K : PySem.W.Frag) (k : D → Res) (H : Hp) (Q : VK) : Prop :=
  ∀ d v H' Fv, Keep F0 H H' → Fr F0 H Fv → Rp K H' d v Fv → G (k d) → Q v H'
theorem VRes.here {G : Res → Prop} {K : PySem.W.Frag} {k : D → Res} {H : Hp} {Q : VK} (h : VRes G K k H Q) {d : D} {v : V} (r : Rp K H d v F0) (g : G (k d)) : Q v H :=
  h d v H F0 (Keep.refl _ _) (Fr.refl _ _) r g
theorem VRes.new {G : Res → Prop} {K : PySem.W.Frag} {k : D → Res} {H : Hp} {Q : VK} (h : VRes G K k H Q) {d : D} {p : Addr} {o : HO} (hp : H p = none) (r : Rp K (upd H p o) d (.ref p) (fun a => a = p)) (g : G (k d)) : Q (.ref p) (upd H p o) :=
  h d _ _ (fun a => a = p) (Keep.new hp) (fun a q => .inr (by rw [q]; exact hp)) r g

section
variable {X : Cx} {G : Res → Prop}
theorem keep_new {H : Hp} {p : Addr} {o : HO} (hp : H p = none) : Keep F0 H (upd H p o) := Keep.new hp
theorem Rps.cut {K : PySem.W.Frag} {H : Hp} {ds : List D} {vs : List V} {F : Fp} (lo hi : Option Int) (h : Rps K H ds vs F) : Rps K H (cutL ds lo hi) (cutV vs lo hi) F := by
  unfold cutL cutV
  rw [Rps.length ds vs F h]
  exact Rps.take _ _ _ _ (Rps.drop _ _ _ _ h)
theorem Rp.lst_new {K : PySem.W.Frag} {H : Hp} {ds : List D} {vs : List V} {p : Addr} (hp : H p = none) (pu : D.pus ds = true) {F : Fp} (h : Rps K H ds vs F) : Rp K (upd H p (.lst vs)) (.lst ds) (.ref p) (fun a => a = p) := by
  have h0 := Rps.stay (B := F0) (keep_new (o := .lst vs) hp) ds vs F0 (fun _ q => q.elim) (Rps.pure _ _ _ pu h)
  exact ⟨p, vs, rfl, upd_same, rfl, Rps.mono _ _ _ _ (fun _ q => q.elim) h0⟩
theorem Rp.tup_new {K : PySem.W.Frag} {H : Hp} {ds : List D} {vs : List V} {p : Addr} (hp : H p = none) (pu : D.pus ds = true) {F : Fp} (h : Rps K H ds vs F) : Rp K (upd H p (.tup vs)) (.tup ds) (.ref p) (fun a => a = p) := by
  have h0 := Rps.stay (B := F0) (keep_new (o := .tup vs) hp) ds vs F0 (fun _ q => q.elim) (Rps.pure _ _ _ pu h)
  exact ⟨p, vs, rfl, SqT.of upd_same, pu, Rps.mono _ _ _ _ (fun _ q => q.elim) h0⟩

def rBinD (G : Res → Prop) (K : PySem.W.Frag) (op : Operator) : R2 := fun x y H Q => ∃ dx dy Fx Fy k, Rp K H dx x Fx ∧ Rp K H dy y Fy ∧ G (binD op dx dy k) ∧ VRes G K k H Q
theorem mulOk_c {i j : Int} (h : mulOk i j = true) : CMul i j ∨ CMulW i j := by
  unfold mulOk at h
  rw [Bool.or_eq_true, Bool.or_eq_true] at h
  rcases h with (h | h) | h
  · have := of_decide_eq_true h
    exact .inl (.inl ⟨by omega, by omega⟩)
  · have := of_decide_eq_true h
    exact .inl (.inr ⟨by omega, by omega⟩)
  · exact .inr (show _ < _ from of_decide_eq_true h)
theorem divOk_c {j : Int} (h : divOk j = true) : CDivN 0 j ∨ CDivW 0 j := by
  unfold divOk at h
  rw [Bool.or_eq_true, Bool.and_eq_true, Bool.and_eq_true] at h
  rcases h with ⟨a, b⟩ | ⟨a, b⟩
  · exact .inl ⟨of_decide_eq_true a, of_decide_eq_true b⟩
  · exact .inr ⟨of_decide_eq_true a, of_decide_eq_true b⟩
theorem foldl_app : ∀ (l : List (Array Nat)) (b : Array Nat), (l.foldl (· ++ ·) b).toList = b.toList ++ (l.map (·.toList)).flatten
  | [], b => by simp
  | a :: l, b => by rw [List.foldl_cons, foldl_app l]; simp
theorem repS_fold (x : PySem.Str) (n : Nat) : (⟨(List.replicate n x.cps).foldl (· ++ ·) #[]⟩ : PySem.Str) = repS x n := by
  unfold repS
  congr 1
  apply Array.ext'
  rw [foldl_app]
  simp
theorem repS_len (x : PySem.Str) (n : Nat) : (repS x n).length = x.length * n := by
  have e : x.cps.toList.length = x.length := Array.length_toList
  show ((List.replicate n x.cps.toList).flatten.toArray).size = _
  rw [List.size_toArray, List.length_flatten, List.map_replicate, List.sum_replicate_nat, e, Nat.mul_comm]
theorem op_mulS : OpR X (binaryOp .Mult) (fun x y H Q => ∃ (a : PySem.Str) (j : Int), x = .str a ∧ y = .int j ∧ j.natAbs ≤ 100000 ∧ a.length * j.toNat ≤ szLine ∧ Q (.str (repS a j.toNat)) H) := by
  intro pins s σ H x y v u Q I rx ry h
  obtain ⟨a, j, rfl, rfl, h1, h2, q⟩ := h
  obtain ⟨t, rfl⟩ := rx
  obtain ⟨t2, rfl⟩ := ry
  have hz : szLine = 16777216 := rfl
  refine PySem.P.mul_str (by
      have a1 : ¬ j < -(2 ^ 63 : Int) := by omega
      have a2 : ¬ j ≥ 2 ^ 63 := by omega
      rw [decide_eq_false a1, decide_eq_false a2]; rfl) (fun h3 _ hc => ?_) (fun h3 _ => ?_) ?_
  · have hj : j = (j.toNat : Int) := by omega
    have hm : (a.length : Int) * j ≤ 16777216 := by
      rw [hj]
      rw [← Int.natCast_mul]
      exact Int.ofNat_le.mpr h2
    have h0 : (0 : Int) < j := by omega
    have h4 : (2 ^ 63 - 1 : Int) / j < (a.length : Int) := hc
    have h5 := Int.lt_mul_of_ediv_lt h0 h4
    omega
  · unfold Builtin.Str.tooLong
    have : sizeLine = 16777216 := sizeLine_eq
    simp only [decide_eq_false_iff_not]
    omega
  · by_cases h3 : j < 1
    · rw [if_pos h3]
      have e : repS a j.toNat = PySem.Str.empty := by
        have : j.toNat = 0 := by omega
        rw [this]; rfl
      rw [e] at q
      exact ⟨by show _ ≤ _; decide, .str _, H, I.tok _, ⟨_, rfl⟩, q⟩
    · rw [if_neg h3]
      by_cases h4 : (j == 1 || a.length == 0) = true
      · rw [if_pos h4]
        have e : repS a j.toNat = a := by
          rw [Bool.or_eq_true] at h4
          rcases h4 with h4 | h4
          · have : j.toNat = 1 := by have := eq_of_beq h4; omega
            rw [this]
            unfold repS
            simp
          · have hl : a.cps.toList = [] := by
              have : a.cps.toList.length = 0 := by rw [Array.length_toList]; exact eq_of_beq h4
              exact List.length_eq_zero_iff.mp this
            unfold repS
            rw [hl]
            have : a.cps = #[] := by apply Array.ext'; rw [hl]
            obtain ⟨c⟩ := a
            dsimp only at this
            subst this
            simp
        rw [e] at q
        exact ⟨.str _, H, I, ⟨_, rfl⟩, q⟩
      · rw [if_neg h4, repS_fold]
        exact ⟨by show (repS a j.toNat).length ≤ _; rw [repS_len]; rw [sizeLine_eq]; omega, .str _, H, I.tok _, ⟨_, rfl⟩, q⟩
theorem op_binD (hG : ¬ G .stuck) (op : Operator) : OpR X (binaryOp op) (rBinD G X.K op) := by
  intro pins s σ H x y v u Q I rx ry h
  obtain ⟨dx, dy, Fx, Fy, k, hx, hy, g, q⟩ := h
  cases op with
  | Add =>
    cases dx with
    | int i =>
      cases dy with
      | int j =>
        cases (show x = .int i from hx); cases (show y = .int j from hy)
        exact op_add pins s σ H _ _ v u Q I rx ry ⟨i, j, rfl, rfl, q.here (d := .int (i + j)) rfl g⟩
      | _ => exact absurd g hG
    | str a =>
      cases dy with
      | str b =>
        cases (show x = .str a from hx); cases (show y = .str b from hy)
        obtain ⟨hb, g⟩ := ckK_of hG g
        exact op_add_str pins s σ H _ _ v u Q I rx ry ⟨a, b, rfl, rfl, by rw [← szLine_eq]; exact of_decide_eq_true hb, q.here (d := .str (a ++ b)) rfl g⟩
      | _ => exact absurd g hG
    | tup xs =>
      cases dy with
      | tup ys =>
        obtain ⟨p, vs, rfl, hp, pu1, rv⟩ := hx
        obtain ⟨p2, vs2, rfl, hp2, pu2, rv2⟩ := hy
        obtain ⟨hb, g⟩ := ckK_of hG g
        have hl : vs.length + vs2.length ≤ sizeLine := by rw [Rps.length _ _ _ rv, Rps.length _ _ _ rv2, ← szLine_eq]; exact of_decide_eq_true hb
        have r12 : Rps X.K H (xs ++ ys) (vs ++ vs2) F0 := Rps.mono _ _ _ _ (fun a z => z.elim id id) (Rps.append _ _ _ _ _ _ (Rps.pure _ _ _ pu1 rv) (Rps.pure _ _ _ pu2 rv2) fun _ z => z.elim)
        have pu12 : D.pus (xs ++ ys) = true := pus_append pu1 pu2
        refine op_catA pins s σ H _ _ v u Q I rx ry ⟨p, p2, vs, vs2, rfl, rfl, hp, hp2, hl, ?_⟩
        refine ⟨fun e => ?_, fun e1 e2 => ?_, fun e1 e2 z hz => ?_⟩
        · have ex : xs = [] := by
            have := Rps.length _ _ _ rv
            rw [e] at this
            exact List.length_eq_zero_iff.mp this.symm
          subst ex
          exact q.here (d := .tup ([] ++ ys)) ⟨p2, vs2, rfl, hp2, pu2, Rps.pure _ _ _ pu2 rv2⟩ g
        · have ey : ys = [] := by
            have := Rps.length _ _ _ rv2
            rw [e2] at this
            exact List.length_eq_zero_iff.mp this.symm
          subst ey
          exact q.here (d := .tup (xs ++ [])) ⟨p, vs, rfl, hp, by rw [List.append_nil]; exact pu1, by rw [List.append_nil]; exact Rps.pure _ _ _ pu1 rv⟩ g
        · exact q.new (d := .tup (xs ++ ys)) hz (Rp.tup_new hz pu12 r12) g
      | _ => exact absurd g hG
    | lst xs =>
      cases dy with
      | lst ys =>
        obtain ⟨p, vs, rfl, hp, _, rv⟩ := hx
        obtain ⟨p2, vs2, rfl, hp2, _, rv2⟩ := hy
        obtain ⟨hb, g⟩ := ckK_of hG g
        obtain ⟨pu1, g⟩ := pusK_of hG g
        obtain ⟨pu2, g⟩ := pusK_of hG g
        have hl : vs.length + vs2.length ≤ sizeLine := by rw [Rps.length _ _ _ rv, Rps.length _ _ _ rv2, ← szLine_eq]; exact of_decide_eq_true hb
        have r12 : Rps X.K H (xs ++ ys) (vs ++ vs2) F0 := Rps.mono _ _ _ _ (fun a z => z.elim id id) (Rps.append _ _ _ _ _ _ (Rps.pure _ _ _ pu1 rv) (Rps.pure _ _ _ pu2 rv2) fun _ z => z.elim)
        have pu12 : D.pus (xs ++ ys) = true := pus_append pu1 pu2
        exact op_cat pins s σ H _ _ v u Q I rx ry ⟨p, p2, vs, vs2, rfl, rfl, hp, hp2, hl, fun z hz => q.new (d := .lst (xs ++ ys)) hz (Rp.lst_new hz pu12 r12) g⟩
      | _ => exact absurd g hG
    | _ => cases dy <;> exact absurd g hG
  | Sub =>
    cases dx with
    | int i =>
      cases dy with
      | int j =>
        cases (show x = .int i from hx); cases (show y = .int j from hy)
        exact op_sub pins s σ H _ _ v u Q I rx ry ⟨i, j, rfl, rfl, q.here (d := .int (i - j)) rfl g⟩
      | _ => exact absurd g hG
    | _ => cases dy <;> exact absurd g hG
  | Mult =>
    cases dx with
    | int i =>
      cases dy with
      | int j =>
        cases (show x = .int i from hx); cases (show y = .int j from hy)
        obtain ⟨hb, g⟩ := ckK_of hG g
        rcases mulOk_c hb with hc | hc
        · exact op_mul pins s σ H _ _ v u Q I rx ry ⟨i, j, rfl, rfl, hc, q.here (d := .int (i * j)) rfl g⟩
        · exact op_mulW pins s σ H _ _ v u Q I rx ry ⟨i, j, rfl, rfl, hc, q.here (d := .int (i * j)) rfl g⟩
      | _ => exact absurd g hG
    | str a =>
      cases dy with
      | int j =>
        cases (show x = .str a from hx); cases (show y = .int j from hy)
        obtain ⟨hb, g⟩ := ckK_of hG g
        rw [Bool.and_eq_true] at hb
        exact op_mulS pins s σ H _ _ v u Q I rx ry ⟨a, j, rfl, rfl, of_decide_eq_true hb.1, of_decide_eq_true hb.2, q.here (d := .str (repS a j.toNat)) rfl g⟩
      | _ => exact absurd g hG
    | _ => cases dy <;> exact absurd g hG
  | FloorDiv =>
    cases dx with
    | int i =>
      cases dy with
      | int j =>
        cases (show x = .int i from hx); cases (show y = .int j from hy)
        obtain ⟨hb, g⟩ := ckK_of hG g
        rcases divOk_c hb with hc | hc
        · exact op_fdivN pins s σ H _ _ v u Q I rx ry ⟨i, j, rfl, rfl, hc, q.here (d := .int (i.fdiv j)) rfl g⟩
        · have e : i.fdiv j = i / j := Int.fdiv_eq_ediv_of_nonneg _ (by have := hc.1; omega)
          rw [e] at g
          exact op_fdivW pins s σ H _ _ v u Q I rx ry ⟨i, j, rfl, rfl, hc, q.here (d := .int (i / j)) rfl g⟩
      | _ => exact absurd g hG
    | _ => cases dy <;> exact absurd g hG
  | Mod =>
    cases dx with
    | int i =>
      cases dy with
      | int j =>
        cases (show x = .int i from hx); cases (show y = .int j from hy)
        obtain ⟨hb, g⟩ := ckK_of hG g
        exact op_modN pins s σ H _ _ v u Q I rx ry ⟨i, j, rfl, rfl, of_decide_eq_true hb, q.here (d := .int (i.fmod j)) rfl g⟩
      | _ => exact absurd g hG
    | _ => cases dy <;> exact absurd g hG
  | Pow =>
    cases dx with
    | int i =>
      cases dy with
      | int j =>
        cases (show x = .int i from hx); cases (show y = .int j from hy)
        obtain ⟨hb, g⟩ := ckK_of hG g
        rw [Bool.and_eq_true, Bool.and_eq_true] at hb
        exact op_pow pins s σ H _ _ v u Q I rx ry ⟨i, j, rfl, rfl, ⟨of_decide_eq_true hb.1.1, of_decide_eq_true hb.1.2, of_decide_eq_true hb.2⟩, q.here (d := .int (i ^ j.toNat)) rfl g⟩
      | _ => exact absurd g hG
    | _ => cases dy <;> exact absurd g hG
  | _ => exact absurd g hG

/-! ### comparisons -/
mutual
theorem dp_of {K : PySem.W.Frag} {H : Hp} : ∀ (d : D) (v : V) (F : Fp), Rp K H d v F → pyOk d = true → Dp K H v (toPy d)
  | .non, v, F, h, _ => by cases (show v = .non from h); exact .non
  | .bl b, v, F, h, _ => by cases (show v = .bl b from h); exact .bl b
  | .int i, v, F, h, _ => by cases (show v = .int i from h); exact .int i
  | .str x, v, F, h, _ => by cases (show v = .str x from h); exact .str x
  | .ty n, v, F, h, p => by cases p
  | .fnv n, v, F, h, p => by cases p
  | .dct ks n, v, F, h, p => by cases p
  | .tup ds, v, F, h, p => by
    obtain ⟨a, vs, rfl, q, _, r⟩ := h
    exact .tup q (dps_of ds vs F r p)
  | .rol ds, v, F, h, p => by
    obtain ⟨a, vs, rfl, q, _, r⟩ := h
    exact .lst q.sq (dps_of ds vs F r p)
  | .lst ds, v, F, h, p => by
    obtain ⟨a, vs, rfl, q, _, r⟩ := h
    exact .lst (.inl (.inl q)) (dps_of ds vs _ r p)
  | .lck ds, v, F, h, p => by
    obtain ⟨a, vs, rfl, q, _, r⟩ := h
    exact .lst q.sq (dps_of ds vs F r p)
theorem dps_of {K : PySem.W.Frag} {H : Hp} : ∀ (ds : List D) (vs : List V) (F : Fp), Rps K H ds vs F → pyOks ds = true → DpAll K H vs (toPys ds)
  | [], vs, F, h, _ => by cases (show vs = [] from h); exact .nil
  | d :: ds, vs, F, h, p => by
    obtain ⟨v, ws, G1, G2, rfl, h1, h2, _⟩ := h
    rw [pyOks, Bool.and_eq_true] at p
    exact .cons (dp_of d v G1 h1 p.1) (dps_of ds ws G2 h2 p.2)
end
def rCmpD (G : Res → Prop) (K : PySem.W.Frag) (op : CmpOp) : R2 := fun x y H Q => ∃ dx dy Fx Fy k, Rp K H dx x Fx ∧ Rp K H dy y Fy ∧ G (cmpD op dx dy k) ∧ ∀ b, G (k b) → Q (.bl b) H
theorem op_isBlAny (neg : Bool) : OpR X (compareOp (if neg then .IsNot else .Is)) (fun x y H Q => ∃ b, y = .bl b ∧ Q (.bl (if neg then !decide (x = .bl b) else decide (x = .bl b))) H) := by
  intro pins s σ H x y v u Q I rx ry h
  obtain ⟨b, rfl, q⟩ := h
  cases (show u = Value.bool b from ry)
  cases neg with
  | false =>
    cases x with
    | bl c => exact op_isBl pins s σ H (.bl c) (.bl b) v (.bool b) Q I rx rfl ⟨c, b, rfl, rfl, by simpa using q⟩
    | non => cases (show v = Value.none from rx); exact wpAny_pure ⟨.bl false, H, I, rfl, by simpa using q⟩
    | int i => obtain ⟨t, rfl⟩ := rx; exact wpAny_pure ⟨.bl false, H, I, rfl, by simpa using q⟩
    | str i => obtain ⟨t, rfl⟩ := rx; exact wpAny_pure ⟨.bl false, H, I, rfl, by simpa using q⟩
    | byt i => obtain ⟨t, rfl⟩ := rx; exact wpAny_pure ⟨.bl false, H, I, rfl, by simpa using q⟩
    | flt i => obtain ⟨t, rfl⟩ := rx; exact wpAny_pure ⟨.bl false, H, I, rfl, by simpa using q⟩
    | ref a => cases (show v = Value.ref a from rx); exact wpAny_pure ⟨.bl false, H, I, rfl, by simpa using q⟩
    | ty n => cases (show v = Value.type n from rx); exact wpAny_pure ⟨.bl false, H, I, rfl, by simpa using q⟩
  | true =>
    cases x with
    | bl c => exact op_notBl pins s σ H (.bl c) (.bl b) v (.bool b) Q I rx rfl ⟨c, b, rfl, rfl, by simpa using q⟩
    | non => cases (show v = Value.none from rx); exact wpAny_pure ⟨.bl true, H, I, rfl, by simpa using q⟩
    | int i => obtain ⟨t, rfl⟩ := rx; exact wpAny_pure ⟨.bl true, H, I, rfl, by simpa using q⟩
    | str i => obtain ⟨t, rfl⟩ := rx; exact wpAny_pure ⟨.bl true, H, I, rfl, by simpa using q⟩
    | byt i => obtain ⟨t, rfl⟩ := rx; exact wpAny_pure ⟨.bl true, H, I, rfl, by simpa using q⟩
    | flt i => obtain ⟨t, rfl⟩ := rx; exact wpAny_pure ⟨.bl true, H, I, rfl, by simpa using q⟩
    | ref a => cases (show v = Value.ref a from rx); exact wpAny_pure ⟨.bl true, H, I, rfl, by simpa using q⟩
    | ty n => cases (show v = Value.type n from rx); exact wpAny_pure ⟨.bl true, H, I, rfl, by simpa using q⟩

theorem rp_non {K : PySem.W.Frag} {H : Hp} {v : V} {F : Fp} (h : Rp K H .non v F) : v = .non := h
theorem flat_v {K : PySem.W.Frag} {H : Hp} {d : D} {v : V} {F : Fp} (h : Rp K H d v F) (p : flatD d = true) : flatV v = true ∧ ∀ {e : D} {w : V} {F' : Fp}, Rp K H e w F' → flatD e = true → eqV w v = PyData.eqv (toPy e) (toPy d) := by
  cases d <;> first
    | exact Bool.noConfusion (show false = true from p)
    | (cases (show v = _ from h)
       refine ⟨rfl, fun {e w F'} h2 p2 => ?_⟩
       cases e <;> first
         | exact Bool.noConfusion (show false = true from p2)
         | (cases (show w = _ from h2); rfl)
         | (cases (show w = _ from h2); simp [eqV, toPy, PyData.eqv]))
theorem flat_in {K : PySem.W.Frag} {H : Hp} {x : V} {dx : D} {F0' : Fp} (hx : Rp K H dx x F0') (px : flatD dx = true) : ∀ {ds : List D} {vs : List V} {F : Fp}, Rps K H ds vs F → ds.all flatD = true → vs.all flatV = true ∧ inV x vs = ds.any fun d => PyData.eqv (toPy d) (toPy dx)
  | [], vs, F, h, _ => by cases (show vs = [] from h); exact ⟨rfl, rfl⟩
  | d :: ds, vs, F, h, p => by
    obtain ⟨v, ws, G1, G2, rfl, h1, h2, _⟩ := h
    rw [List.all_cons, Bool.and_eq_true] at p
    obtain ⟨r1, r2⟩ := flat_in hx px h2 p.2
    refine ⟨by rw [List.all_cons, (flat_v h1 p.1).1, r1]; rfl, ?_⟩
    unfold inV at r2 ⊢
    rw [List.any_cons, List.any_cons, r2, (flat_v hx px).2 h1 p.1]
theorem sign_of {a : PySem.Str} (h : a.length = 1) : a = ⟨#[a.cps.getD 0 0]⟩ := by
  obtain ⟨c⟩ := a
  have h' : c.size = 1 := h
  obtain ⟨x, rfl⟩ := Array.size_eq_one_iff.mp h'
  rfl
theorem op_cmpD (hG : ¬ G .stuck) (hu : X.A.units + 65 < cLine) (op : CmpOp) : OpR X (compareOp op) (rCmpD G X.K op) := by
  intro pins s σ H x y v u Q I rx ry h
  obtain ⟨dx, dy, Fx, Fy, k, hx, hy, g, q⟩ := h
  have eqc : ∀ {b : Bool}, scal x y = true → decide (x = y) = b → Q (.bl b) H → wpAny (model X.prog X.w) X.A (compareOp .Eq v u) (EP X pins σ Q) X.xe s := fun hs e z =>
    op_eq pins s σ H x y v u Q I rx ry ⟨hs, by rw [e]; exact z⟩
  have nec : ∀ {b : Bool}, scal x y = true → decide (x = y) = b → Q (.bl (!b)) H → wpAny (model X.prog X.w) X.A (compareOp .NotEq v u) (EP X pins σ Q) X.xe s := fun hs e z =>
    op_ne pins s σ H x y v u Q I rx ry ⟨hs, by rw [e]; exact z⟩
  have two : ∀ {f : Bool → Bool} {c : CmpOp} {Z : Prop}, (∀ {b : Bool}, scal x y = true → decide (x = y) = b → Q (.bl (f b)) H → Z) → (rEqD X.K x y H (fun w H1 => ∃ b, w = .bl b ∧ Q (.bl (f b)) H1) → Z) → G (dEq dx dy fun b => k (f b)) → Z := by
    intro f c Z eqc deep g
    have dd : G (dEqD dx dy fun b => k (f b)) → Z := fun g => by
      obtain ⟨ho, g⟩ := ckK_of hG g
      unfold eqOk at ho
      rw [Bool.and_eq_true, Bool.and_eq_true, Bool.and_eq_true] at ho
      exact deep ⟨_, _, dp_of _ _ _ hx ho.1.1, dp_of _ _ _ hy ho.2.1, ho.1.2, ho.2.2, _, rfl, q _ g⟩
    clear deep
    cases dx with
    | non =>
      cases (show x = .non from hx)
      cases dy with
      | non => cases (show y = .non from hy); exact eqc rfl (b := true) (by simp) (q _ g)
      | int j => cases (show y = .int j from hy); exact eqc rfl (b := false) (by simp) (q _ g)
      | str j => cases (show y = .str j from hy); exact eqc rfl (b := false) (by simp) (q _ g)
      | _ => first
        | exact absurd g hG
        | exact dd g
    | bl a =>
      cases (show x = .bl a from hx)
      cases dy with
      | bl j => cases (show y = .bl j from hy); exact eqc rfl (b := decide (a = j)) (by simp) (q _ g)
      | _ => first
        | exact absurd g hG
        | exact dd g
    | int i =>
      cases (show x = .int i from hx)
      cases dy with
      | non => cases (show y = .non from hy); exact eqc rfl (b := false) (by simp) (q _ g)
      | int j => cases (show y = .int j from hy); exact eqc rfl (b := decide (i = j)) (by simp) (q _ g)
      | str j => cases (show y = .str j from hy); exact eqc rfl (b := false) (by simp) (q _ g)
      | _ => first
        | exact absurd g hG
        | exact dd g
    | str i =>
      cases (show x = .str i from hx)
      cases dy with
      | non => cases (show y = .non from hy); exact eqc rfl (b := false) (by simp) (q _ g)
      | int j => cases (show y = .int j from hy); exact eqc rfl (b := false) (by simp) (q _ g)
      | str j => cases (show y = .str j from hy); exact eqc rfl (b := decide (i = j)) (by simp) (q _ g)
      | _ => first
        | exact absurd g hG
        | exact dd g
    | ty n => exact absurd g hG
    | _ => cases dy <;> first
      | exact absurd g hG
      | exact dd g
  have isc : ∀ {neg : Bool}, G (dIs dx dy fun b => k (if neg then !b else b)) → wpAny (model X.prog X.w) X.A (compareOp (if neg then .IsNot else .Is) v u) (EP X pins σ Q) X.xe s := by
    intro neg g
    cases dy with
    | non =>
      cases (show y = .non from hy)
      have e : isN dx = decide (x = .non) := by
        cases dx <;> first
          | (cases (show x = _ from hx); simp [isN, isB])
          | (obtain ⟨p, vs, rfl, _⟩ := hx; simp [isN, isB])
          | (obtain ⟨p, rfl, _⟩ := hx; simp [isN, isB])
      have g := q _ g
      rw [e] at g
      cases neg with
      | false => exact op_isN pins s σ H x .non v u Q I rx ry ⟨rfl, g⟩
      | true => exact op_notN pins s σ H x .non v u Q I rx ry ⟨rfl, g⟩
    | bl b =>
      cases (show y = .bl b from hy)
      have e : isB b dx = decide (x = .bl b) := by
        cases dx <;> first
          | (cases (show x = _ from hx); simp [isN, isB])
          | (obtain ⟨p, vs, rfl, _⟩ := hx; simp [isN, isB])
          | (obtain ⟨p, rfl, _⟩ := hx; simp [isN, isB])
      have g := q _ g
      rw [e] at g
      exact op_isBlAny neg pins s σ H x (.bl b) v u Q I rx ry ⟨b, rfl, g⟩
    | ty n =>
      cases (show y = .ty n from hy)
      cases dx with
      | ty m =>
        cases (show x = .ty m from hx)
        cases neg with
        | false => exact op_isTy pins s σ H _ _ v u Q I rx ry ⟨m, n, rfl, rfl, q _ g⟩
        | true => exact op_isNotTy pins s σ H _ _ v u Q I rx ry ⟨m, n, rfl, rfl, q _ g⟩
      | _ => exact absurd g hG
    | _ => exact absurd g hG
  have inc : ∀ {neg : Bool}, G (dIn dx dy fun b => k (if neg then !b else b)) → wpAny (model X.prog X.w) X.A (compareOp (if neg then .NotIn else .In) v u) (EP X pins σ Q) X.xe s := by
    intro neg g
    have seq : ∀ {p : Addr} {ds : List D} {vs : List V} {F : Fp}, y = .ref p → (SqL X.K H p vs ∨ SqT X.K H p vs) → Rps X.K H ds vs F → G (ckK (flatD dx && ds.all flatD) (k (if neg then !(ds.any fun d => PyData.eqv (toPy d) (toPy dx)) else ds.any fun d => PyData.eqv (toPy d) (toPy dx)))) →
        wpAny (model X.prog X.w) X.A (compareOp (if neg then .NotIn else .In) v u) (EP X pins σ Q) X.xe s := fun {p ds vs F} ey hq hr g => by
      obtain ⟨hb, g⟩ := ckK_of hG g
      rw [Bool.and_eq_true] at hb
      obtain ⟨f1, f2⟩ := flat_in hx hb.1 hr hb.2
      have g' := q _ g
      rw [← f2] at g'
      cases neg with
      | false => exact op_in_seq pins s σ H x y v u Q I rx ry ⟨p, vs, ey, hq, (flat_v hx hb.1).1, f1, g'⟩
      | true => exact op_notIn_seq pins s σ H x y v u Q I rx ry ⟨p, vs, ey, hq, (flat_v hx hb.1).1, f1, g'⟩
    cases dy with
    | str z =>
      cases (show y = .str z from hy)
      cases dx with
      | str a =>
        cases (show x = .str a from hx)
        obtain ⟨hb, g⟩ := ckK_of hG g
        have ea := sign_of (of_decide_eq_true hb)
        have g' := q _ g
        cases neg with
        | false => exact op_in_sign pins s σ H _ _ v u Q I rx ry ⟨_, z, congrArg V.str ea, rfl, g'⟩
        | true => exact op_notIn_sign pins s σ H _ _ v u Q I rx ry ⟨_, z, congrArg V.str ea, rfl, g'⟩
      | _ => exact absurd g hG
    | tup ds =>
      obtain ⟨p, vs, ey, hq, _, hr⟩ := hy
      exact seq ey (.inr hq) hr g
    | rol ds =>
      obtain ⟨p, vs, ey, hq, _, hr⟩ := hy
      exact seq ey (.inl hq.sq) hr g
    | lst ds =>
      obtain ⟨p, vs, ey, hq, _, hr⟩ := hy
      exact seq ey (.inl (.inl (.inl hq))) hr g
    | lck ds =>
      obtain ⟨p, vs, ey, hq, _, hr⟩ := hy
      exact seq ey (.inl hq.sq) hr g
    | _ => exact absurd g hG
  cases op with
  | Eq => exact two (f := id) (c := .Eq) (fun a b c => eqc a b c) (fun ⟨d, e, h1, h2, h3, h4, b, hb, z⟩ => op_eqD (by omega) pins s σ H x y v u Q I rx ry ⟨d, e, h1, h2, h3, h4, by cases hb; exact z⟩) g
  | NotEq => exact two (f := fun b => !b) (c := .Eq) (fun a b c => nec a b c) (fun ⟨d, e, h1, h2, h3, h4, b, hb, z⟩ => op_neD (by omega) pins s σ H x y v u Q I rx ry ⟨d, e, h1, h2, h3, h4, by cases hb; exact z⟩) g
  | Lt =>
    cases dx with
    | int i =>
      cases dy with
      | int j =>
        cases (show x = .int i from hx); cases (show y = .int j from hy)
        exact op_lt pins s σ H _ _ v u Q I rx ry ⟨i, j, rfl, rfl, q _ g⟩
      | _ => exact absurd g hG
    | str a =>
      cases dy with
      | str b =>
        cases (show x = .str a from hx); cases (show y = .str b from hy)
        exact op_lt_str pins s σ H _ _ v u Q I rx ry ⟨a, b, rfl, rfl, q _ g⟩
      | _ => exact absurd g hG
    | _ => cases dy <;> exact absurd g hG
  | LtE =>
    cases dx with
    | int i =>
      cases dy with
      | int j =>
        cases (show x = .int i from hx); cases (show y = .int j from hy)
        exact op_le pins s σ H _ _ v u Q I rx ry ⟨i, j, rfl, rfl, q _ g⟩
      | _ => exact absurd g hG
    | _ => cases dy <;> exact absurd g hG
  | Gt =>
    cases dy with
    | int j =>
      cases dx with
      | int i =>
        cases (show x = .int i from hx); cases (show y = .int j from hy)
        exact op_gt pins s σ H _ _ v u Q I rx ry ⟨i, j, rfl, rfl, q _ g⟩
      | _ => exact absurd g hG
    | str b =>
      cases dx with
      | str a =>
        cases (show x = .str a from hx); cases (show y = .str b from hy)
        exact op_gt_str pins s σ H _ _ v u Q I rx ry ⟨a, b, rfl, rfl, q _ g⟩
      | _ => exact absurd g hG
    | _ => cases dx <;> exact absurd g hG
  | GtE =>
    cases dy with
    | int j =>
      cases dx with
      | int i =>
        cases (show x = .int i from hx); cases (show y = .int j from hy)
        exact op_ge pins s σ H _ _ v u Q I rx ry ⟨i, j, rfl, rfl, q _ g⟩
      | _ => exact absurd g hG
    | _ => cases dx <;> exact absurd g hG
  | Is => exact isc (neg := false) g
  | IsNot => exact isc (neg := true) g
  | In => exact inc (neg := false) g
  | NotIn => exact inc (neg := true) g

/-! ### subscripts, slices, truth, negation -/
theorem Rps.at {K : PySem.W.Frag} {H : Hp} {ds : List D} {vs : List V} {F : Fp} {i : Int} {d : D} (h : Rps K H ds vs F) (e : atI ds i = some d) : ∃ v, atI vs i = some v ∧ Rp K H d v F := by
  unfold atI at e ⊢
  rw [Rps.length ds vs F h]
  cases q : ixN ds.length i with
  | none => rw [q] at e; cases e
  | some j =>
    rw [q] at e
    exact Rps.get ds vs F j d h e
/-- x[i]: the item may be written through x (F: what x stands in) -/
def rIxD (G : Res → Prop) (K : PySem.W.Frag) : R2 := fun x y H Q => ∃ d di F Fy k, Rp K H d x F ∧ Rp K H di y Fy ∧ G (dIx d di k) ∧ ∀ r v, Rp K H r v F → G (k r) → Q v H
theorem atK_of {G : Res → Prop} (hG : ¬ G .stuck) {ds : List D} {i : Int} {k : D → Res} (h : G (atK ds i k)) : ∃ d, atI ds i = some d ∧ G (k d) := by
  unfold atK at h
  cases e : atI ds i with
  | none => rw [e] at h; exact absurd h hG
  | some d => rw [e] at h; exact ⟨d, rfl, h⟩
theorem ix_D (hG : ¬ G .stuck) : IxR X (rIxD G X.K) := by
  intro b0 b1 pins s σ H x y v u Q I rx ry h hp
  obtain ⟨d, di, F, Fy, k, hx, hy, g, q⟩ := h
  cases d with
  | tup ds =>
    cases di with
    | int j =>
      cases (show y = .int j from hy)
      obtain ⟨p, vs, rfl, hs, _, rv⟩ := hx
      obtain ⟨e, he, g⟩ := atK_of hG g
      obtain ⟨w, hw, rw'⟩ := rv.at he
      exact ix_tup b0 b1 pins s σ H _ _ v u Q I rx ry ⟨p, vs, j, w, rfl, rfl, hs, hw, q e w rw' g⟩ hp
    | _ => exact absurd g hG
  | rol ds =>
    cases di with
    | int j =>
      cases (show y = .int j from hy)
      obtain ⟨p, vs, rfl, hs, _, rv⟩ := hx
      obtain ⟨e, he, g⟩ := atK_of hG g
      obtain ⟨w, hw, rw'⟩ := rv.at he
      exact ix_list b0 b1 pins s σ H _ _ v u Q I rx ry ⟨p, vs, j, w, rfl, rfl, hs.sq, hw, q e w rw' g⟩ hp
    | _ => exact absurd g hG
  | lst ds =>
    cases di with
    | int j =>
      cases (show y = .int j from hy)
      obtain ⟨p, vs, rfl, hs, _, rv⟩ := hx
      obtain ⟨e, he, g⟩ := atK_of hG g
      obtain ⟨w, hw, rw'⟩ := rv.at he
      exact ix_list b0 b1 pins s σ H _ _ v u Q I rx ry ⟨p, vs, j, w, rfl, rfl, SqL.of hs, hw, q e w (Rp.mono _ _ _ _ (fun _ z => z.1) rw') g⟩ hp
    | _ => exact absurd g hG
  | lck ds =>
    cases di with
    | int j =>
      cases (show y = .int j from hy)
      obtain ⟨p, vs, rfl, hs, _, rv⟩ := hx
      obtain ⟨e, he, g⟩ := atK_of hG g
      obtain ⟨w, hw, rw'⟩ := rv.at he
      exact ix_list b0 b1 pins s σ H _ _ v u Q I rx ry ⟨p, vs, j, w, rfl, rfl, hs.sq, hw, q e w rw' g⟩ hp
    | _ => exact absurd g hG
  | str z =>
    cases di with
    | int j =>
      cases (show y = .int j from hy)
      cases (show x = .str z from hx)
      obtain ⟨hb, g⟩ := ckK_of hG g
      cases e : atI z.cps.toList j with
      | none => rw [e] at g; exact absurd g hG
      | some c =>
        rw [e] at g
        exact ix_str b0 b1 pins s σ H _ _ v u Q I rx ry ⟨z, j, c, rfl, rfl, by rw [← szLine_eq]; exact of_decide_eq_true hb, e, q (.str ⟨#[c]⟩) _ rfl g⟩ hp
    | _ => exact absurd g hG
  | _ => cases di <;> exact absurd g hG

def rSlD (G : Res → Prop) (K : PySem.W.Frag) : V → Option Int → Option Int → Hp → VK → Prop := fun x lo hi H Q => ∃ d F k, Rp K H d x F ∧ G (dSl d lo hi k) ∧ VRes G K k H Q
theorem sl_D (hG : ¬ G .stuck) : SlR X (rSlD G X.K) := by
  intro pins s σ H x v vl vu lo hi sl Q I rx hs pl pu h
  obtain ⟨d, F, k, hx, g, q⟩ := h
  cases d with
  | tup ds =>
    obtain ⟨p, vs, rfl, hq, pu0, rv⟩ := hx
    have pu1 : D.pus (cutL ds lo hi) = true := pus_take _ (pus_drop _ pu0)
    have rv0 := Rps.pure _ _ _ pu0 rv
    refine sl_tupA pins s σ H _ v vl vu lo hi sl Q I rx hs pl pu ⟨p, vs, rfl, hq, ?_⟩
    refine ⟨fun e => ?_, fun e z hz => ?_⟩
    · refine q.here (d := .tup (cutL ds lo hi)) ⟨p, vs, rfl, hq, pu1, ?_⟩ g
      have r1 := rv0.cut lo hi
      have e2 : cutV vs lo hi = vs := by
        unfold cutV
        rw [e.1, e.2]
        simp
      rw [e2] at r1
      exact r1
    · exact q.new (d := .tup (cutL ds lo hi)) hz (Rp.tup_new hz pu1 (rv0.cut lo hi)) g
  | rol ds =>
    obtain ⟨p, vs, rfl, hq, pu0, rv⟩ := hx
    have pu1 : D.pus (cutL ds lo hi) = true := pus_take _ (pus_drop _ pu0)
    exact sl_list pins s σ H _ v vl vu lo hi sl Q I rx hs pl pu ⟨p, vs, rfl, hq.sq, fun z hz => q.new (d := .lst (cutL ds lo hi)) hz (Rp.lst_new hz pu1 ((Rps.pure _ _ _ pu0 rv).cut lo hi)) g⟩
  | lst ds =>
    obtain ⟨p, vs, rfl, hq, _, rv⟩ := hx
    obtain ⟨pu0, g⟩ := pusK_of hG g
    have pu1 : D.pus (cutL ds lo hi) = true := pus_take _ (pus_drop _ pu0)
    exact sl_list pins s σ H _ v vl vu lo hi sl Q I rx hs pl pu ⟨p, vs, rfl, SqL.of hq, fun z hz => q.new (d := .lst (cutL ds lo hi)) hz (Rp.lst_new hz pu1 ((Rps.pure _ _ _ pu0 rv).cut lo hi)) g⟩
  | lck ds =>
    obtain ⟨p, vs, rfl, hq, _, rv⟩ := hx
    obtain ⟨pu0, g⟩ := pusK_of hG g
    have pu1 : D.pus (cutL ds lo hi) = true := pus_take _ (pus_drop _ pu0)
    exact sl_list pins s σ H _ v vl vu lo hi sl Q I rx hs pl pu ⟨p, vs, rfl, hq.sq, fun z hz => q.new (d := .lst (cutL ds lo hi)) hz (Rp.lst_new hz pu1 ((Rps.pure _ _ _ pu0 rv).cut lo hi)) g⟩
  | str z =>
    cases (show x = .str z from hx)
    obtain ⟨hb, g⟩ := ckK_of hG g
    exact sl_str pins s σ H _ v vl vu lo hi sl Q I rx hs pl pu ⟨z, rfl, by rw [← szLine_eq]; exact of_decide_eq_true hb, q.here (d := .str (cutS z lo hi)) rfl g⟩
  | _ => exact absurd g hG

/-- a value's truth -/
theorem tru_D (hG : ¬ G .stuck) {H : Hp} {d : D} {x : V} {F : Fp} {k : Bool → Res} (hx : Rp X.K H d x F) (g : G (dTru d k)) : ∃ b, TruV X.K x H b ∧ G (k b) := by
  cases d with
  | non => cases (show x = .non from hx); exact ⟨false, rfl, g⟩
  | bl b => cases (show x = .bl b from hx); exact ⟨b, rfl, g⟩
  | int i => cases (show x = .int i from hx); exact ⟨_, (show decide (i ≠ 0) = (i != 0) by by_cases e : i = 0 <;> simp [e]), g⟩
  | str z =>
    cases (show x = .str z from hx)
    obtain ⟨hb, g⟩ := ckK_of hG g
    refine ⟨_, ⟨by rw [← szLine_eq]; exact of_decide_eq_true hb, ?_⟩, g⟩
    by_cases e : z.length = 0
    · simp [e]
    · have e2 : ¬ ((z.length : Int) = 0) := by omega
      simp [e]
  | tup ds =>
    obtain ⟨p, vs, rfl, hs, _, rv⟩ := hx
    refine ⟨_, .inr (.inl ⟨vs, hs, ?_⟩), g⟩
    have := Rps.length _ _ _ rv
    cases ds <;> cases vs <;> simp_all
  | rol ds =>
    obtain ⟨p, vs, rfl, hs, _, rv⟩ := hx
    refine ⟨_, .inl ⟨vs, hs.sq, ?_⟩, g⟩
    have := Rps.length _ _ _ rv
    cases ds <;> cases vs <;> simp_all
  | lst ds =>
    obtain ⟨p, vs, rfl, hs, _, rv⟩ := hx
    refine ⟨_, .inl ⟨vs, SqL.of hs, ?_⟩, g⟩
    have := Rps.length _ _ _ rv
    cases ds <;> cases vs <;> simp_all
  | lck ds =>
    obtain ⟨p, vs, rfl, hs, _, rv⟩ := hx
    refine ⟨_, .inl ⟨vs, hs.sq, ?_⟩, g⟩
    have := Rps.length _ _ _ rv
    cases ds <;> cases vs <;> simp_all
  | ty n => exact absurd g hG
  | fnv n => exact absurd g hG
  | dct ks ds => exact absurd g hG
def rNegD (G : Res → Prop) (K : PySem.W.Frag) : V → Hp → VK → Prop := fun x H Q => ∃ d F k, Rp K H d x F ∧ G (dNeg d k) ∧ VRes G K k H Q
theorem un_negD (hG : ¬ G .stuck) : UnR X (unaryOp .USub) (rNegD G X.K) := by
  intro pins s σ H x v Q I rx h
  obtain ⟨d, F, k, hx, g, q⟩ := h
  cases d with
  | int i =>
    cases (show x = .int i from hx)
    exact un_neg pins s σ H _ v Q I rx ⟨i, rfl, q.here (d := .int (-i)) rfl g⟩
  | _ => exact absurd g hG
end
end TI
set_option Elab.async false
set_option linter.all false
set_option maxRecDepth 100000
set_option maxHeartbeats 4000000
/-! built-ins and methods by values -/
namespace TI
open PySem PySem.Spec PyProof.Rows L2
section
variable {X : Cx} {G : Res → Prop}
def rB1 (G : Res → Prop) (K : PySem.W.Frag) (f : D → (D → Res) → Res) : List V → Hp → VK → Prop := fun xs H Q => ∃ d x F k, xs = [x] ∧ Rp K H d x F ∧ G (f d k) ∧ VRes G K k H Q
theorem c_len (hG : ¬ G .stuck) : CallR X (.builtin "len") (rB1 G X.K dLen) := by
  intro pins s σ H xs us Q I r h
  obtain ⟨d, x, F, k, rfl, hx, g, q⟩ := h
  cases d with
  | str z =>
    cases (show x = .str z from hx)
    obtain ⟨hb, g⟩ := ckK_of hG g
    exact call_len pins s σ H _ us Q I r ⟨_, z.length, rfl, ⟨by rw [← szLine_eq]; exact of_decide_eq_true hb, rfl⟩, q.here (d := .int z.length) rfl g⟩
  | tup ds =>
    obtain ⟨p, vs, rfl, hs, _, rv⟩ := hx
    exact call_len pins s σ H _ us Q I r ⟨_, ds.length, rfl, .inr ⟨vs, hs, (Rps.length _ _ _ rv).symm⟩, q.here (d := .int ds.length) rfl g⟩
  | rol ds =>
    obtain ⟨p, vs, rfl, hs, _, rv⟩ := hx
    exact call_len pins s σ H _ us Q I r ⟨_, ds.length, rfl, .inl ⟨vs, hs.sq, (Rps.length _ _ _ rv).symm⟩, q.here (d := .int ds.length) rfl g⟩
  | lst ds =>
    obtain ⟨p, vs, rfl, hs, _, rv⟩ := hx
    exact call_len pins s σ H _ us Q I r ⟨_, ds.length, rfl, .inl ⟨vs, SqL.of hs, (Rps.length _ _ _ rv).symm⟩, q.here (d := .int ds.length) rfl g⟩
  | lck ds =>
    obtain ⟨p, vs, rfl, hs, _, rv⟩ := hx
    exact call_len pins s σ H _ us Q I r ⟨_, ds.length, rfl, .inl ⟨vs, hs.sq, (Rps.length _ _ _ rv).symm⟩, q.here (d := .int ds.length) rfl g⟩
  | _ => exact absurd g hG
/-- the most signs that int() reads: more than 640 where the row's limit stands as it was -/
def LimOk (K : PySem.W.Frag) (lim : Nat) : Prop := lim ≤ 640 ∨ (lim ≤ szLine ∧ PySem.W.nsIn K cStatics "sys.int_max_str_digits" = some none)
theorem ns_none {K : PySem.W.Frag} {h : Heap} {a : Addr} {m : Str → Option Value} {n : Str} (X : K.In h) (G : h.Ns a m) (e : PySem.W.nsIn K a n = some none) : m n = none := by
  obtain ⟨o, es, ep, ho, hd, hx⟩ := G
  unfold PySem.W.nsIn at e
  split at e
  · rename_i c d es' n' sl q
    have hq := X _ _ q
    rw [ho] at hq
    cases hq
    cases hd
    obtain ⟨_, hf⟩ := hx
    have hfn := hf n
    split at e
    · cases e
    · rename_i hnone
      rw [← hfn]
      unfold nsFind findBy
      rw [← Array.find?_toList, hnone]
      rfl
  · cases e
theorem c_int (hG : ¬ G .stuck) {lim : Nat} (hlim : LimOk X.K lim) : CallR X (.type "int") (rB1 G X.K (dInt lim)) := by
  intro pins s σ H xs us Q I r h
  obtain ⟨d, x, F, k, rfl, hx, g, q⟩ := h
  cases d with
  | int i =>
    cases (show x = .int i from hx)
    exact call_int1 pins s σ H _ us Q I r (.inl ⟨i, rfl, q.here (d := .int i) rfl g⟩)
  | bl b =>
    cases (show x = .bl b from hx)
    exact call_int1 pins s σ H _ us Q I r (.inr ⟨b, rfl, q.here (d := .int (if b then 1 else 0)) rfl g⟩)
  | str z =>
    cases (show x = .str z from hx)
    obtain ⟨hb, g⟩ := ckK_of hG g
    cases e : intText? z with
    | none => rw [e] at g; exact absurd g hG
    | some n =>
      rw [e] at g
      have hb' := of_decide_eq_true hb
      rcases hlim with hl | ⟨hl, hns⟩
      · exact call_int_str pins s σ H _ us Q I r ⟨z, n, rfl, e, Nat.le_trans hb' hl, q.here (d := .int n) rfl g⟩
      · obtain ⟨u, rfl, t, rfl⟩ := vals1 r
        obtain ⟨mc, h1, _⟩ := I.nolimit
        exact TW.int_of_text ⟨mc, h1, ns_none I.kIn h1 hns⟩ (by rw [← szLine_eq]; omega) e ⟨.int n, H, I.tok _, ⟨_, rfl⟩, q.here (d := .int n) rfl g⟩
  | _ => exact absurd g hG
theorem c_str (hG : ¬ G .stuck) : CallR X (.type "str") (rB1 G X.K dStr) := by
  intro pins s σ H xs us Q I r h
  obtain ⟨d, x, F, k, rfl, hx, g, q⟩ := h
  cases d with
  | int i =>
    cases (show x = .int i from hx)
    obtain ⟨hb, g⟩ := ckK_of hG g
    exact call_str_int pins s σ H _ us Q I r ⟨i, rfl, of_decide_eq_true hb, q.here (d := .str (Str.ofString (toString i))) rfl g⟩
  | _ => exact absurd g hG
theorem c_tuple (hG : ¬ G .stuck) : CallR X (.type "tuple") (rB1 G X.K dTup) := by
  intro pins s σ H xs us Q I r h
  obtain ⟨d, x, F, k, rfl, hx, g, q⟩ := h
  cases d with
  | tup ds =>
    obtain ⟨p, vs, rfl, hs, pu, rv⟩ := hx
    exact call_tuple_of pins s σ H _ us Q I r ⟨p, vs, rfl, .inr ⟨hs, q.here (d := .tup ds) ⟨p, vs, rfl, hs, pu, Rps.pure _ _ _ pu rv⟩ g⟩⟩
  | rol ds =>
    obtain ⟨p, vs, rfl, hs, pu, rv⟩ := hx
    exact call_tuple_of pins s σ H _ us Q I r ⟨p, vs, rfl, .inl ⟨hs.sq, fun z hz => q.new (d := .tup ds) hz (Rp.tup_new hz pu rv) g⟩⟩
  | lst ds =>
    obtain ⟨p, vs, rfl, hs, _, rv⟩ := hx
    obtain ⟨pu, g⟩ := pusK_of hG g
    exact call_tuple_of pins s σ H _ us Q I r ⟨p, vs, rfl, .inl ⟨SqL.of hs, fun z hz => q.new (d := .tup ds) hz (Rp.tup_new hz pu rv) g⟩⟩
  | lck ds =>
    obtain ⟨p, vs, rfl, hs, pu0, rv⟩ := hx
    obtain ⟨pu, g⟩ := pusK_of hG g
    exact call_tuple_of pins s σ H _ us Q I r ⟨p, vs, rfl, .inl ⟨hs.sq, fun z hz => q.new (d := .tup ds) hz (Rp.tup_new hz pu rv) g⟩⟩
  | _ => exact absurd g hG

theorem c_abs (hG : ¬ G .stuck) : CallR X (.builtin "abs") (rB1 G X.K dAbs) := by
  intro pins s σ H xs us Q I r h
  obtain ⟨d, x, F, k, rfl, hx, g, q⟩ := h
  cases d with
  | int i =>
    cases (show x = .int i from hx)
    exact call_abs pins s σ H _ us Q I r ⟨i, rfl, q.here (d := .int (if i < 0 then -i else i)) rfl g⟩
  | _ => exact absurd g hG
theorem c_ord (hG : ¬ G .stuck) : CallR X (.builtin "ord") (rB1 G X.K dOrd) := by
  intro pins s σ H xs us Q I r h
  obtain ⟨d, x, F, k, rfl, hx, g, q⟩ := h
  cases d with
  | str z =>
    cases (show x = .str z from hx)
    obtain ⟨hb, g⟩ := ckK_of hG g
    exact call_ord pins s σ H _ us Q I r ⟨z, rfl, of_decide_eq_true hb, q.here (d := .int (z.cps.getD 0 0 : Nat)) rfl g⟩
  | _ => exact absurd g hG
theorem lstK_of {K : PySem.W.Frag} {H : Hp} {d : D} {x : V} {F : Fp} {k : List D → Res} (hG : ¬ G .stuck) (hx : Rp K H d x F) (g : G (lstK d k)) : ∃ a ds vs F', x = .ref a ∧ SqL K H a vs ∧ Rps K H ds vs F' ∧ G (k ds) := by
  cases d with
  | rol ds =>
    obtain ⟨p, vs, rfl, hs, _, rv⟩ := hx
    exact ⟨p, ds, vs, _, rfl, hs.sq, rv, g⟩
  | lst ds =>
    obtain ⟨p, vs, rfl, hs, _, rv⟩ := hx
    exact ⟨p, ds, vs, _, rfl, SqL.of hs, rv, g⟩
  | lck ds =>
    obtain ⟨p, vs, rfl, hs, _, rv⟩ := hx
    exact ⟨p, ds, vs, _, rfl, hs.sq, rv, g⟩
  | _ => exact absurd g hG
theorem bls_of {K : PySem.W.Frag} {H : Hp} : ∀ {ds : List D} {vs : List V} {F : Fp} {ys : List Bool}, Rps K H ds vs F → blsD ds = some ys → vs = ys.map V.bl
  | [], vs, F, ys, h, e => by
    cases e
    exact h
  | d :: ds, vs, F, ys, h, e => by
    obtain ⟨v, ws, G1, G2, rfl, h1, h2, _⟩ := h
    cases d with
    | bl x =>
      rw [blsD] at e
      cases q : blsD ds with
      | none => rw [q] at e; cases e
      | some zs =>
        rw [q] at e
        cases e
        rw [show v = .bl x from h1, bls_of h2 q]
        rfl
    | _ => cases e
theorem ints_of {K : PySem.W.Frag} {H : Hp} : ∀ {ds : List D} {vs : List V} {F : Fp} {ys : List Int}, Rps K H ds vs F → intsD ds = some ys → vs = ys.map V.int
  | [], vs, F, ys, h, e => by
    cases e
    exact h
  | d :: ds, vs, F, ys, h, e => by
    obtain ⟨v, ws, G1, G2, rfl, h1, h2, _⟩ := h
    cases d with
    | int x =>
      rw [intsD] at e
      cases q : intsD ds with
      | none => rw [q] at e; cases e
      | some zs =>
        rw [q] at e
        cases e
        rw [show v = .int x from h1, ints_of h2 q]
        rfl
    | _ => cases e
theorem c_all (hG : ¬ G .stuck) (hc : X.calm = true) : CallR X (.builtin "all") (rB1 G X.K dAll) := by
  intro pins s σ H xs us Q I r h
  obtain ⟨d, x, F, k, rfl, hx, g, q⟩ := h
  obtain ⟨a, ds, vs, F', rfl, hs, hr, g⟩ := lstK_of hG hx g
  obtain ⟨bs, hb, g⟩ := oK_of hG g
  cases bls_of hr hb
  exact cr_all hc pins s σ H _ us Q I r ⟨a, bs, rfl, hs, q.here (d := .bl (bs.all id)) rfl g⟩
theorem c_any (hG : ¬ G .stuck) (hc : X.calm = true) : CallR X (.builtin "any") (rB1 G X.K dAny) := by
  intro pins s σ H xs us Q I r h
  obtain ⟨d, x, F, k, rfl, hx, g, q⟩ := h
  obtain ⟨a, ds, vs, F', rfl, hs, hr, g⟩ := lstK_of hG hx g
  obtain ⟨bs, hb, g⟩ := oK_of hG g
  cases bls_of hr hb
  exact cr_any hc pins s σ H _ us Q I r ⟨a, bs, rfl, hs, q.here (d := .bl (bs.any id)) rfl g⟩
theorem c_sum (hG : ¬ G .stuck) (hc : X.calm = true) : CallR X (.builtin "sum") (rB1 G X.K dSum) := by
  intro pins s σ H xs us Q I r h
  obtain ⟨d, x, F, k, rfl, hx, g, q⟩ := h
  obtain ⟨a, ds, vs, F', rfl, hs, hr, g⟩ := lstK_of hG hx g
  obtain ⟨bs, hb, g⟩ := oK_of hG g
  cases ints_of hr hb
  exact cr_sum hc pins s σ H _ us Q I r ⟨a, bs, rfl, hs, q.here (d := .int bs.sum) rfl g⟩
theorem maxI_ge : ∀ (l : List Int) (m : Int), m ≤ maxI m l ∧ ∀ y ∈ l, y ≤ maxI m l
  | [], m => ⟨Int.le_refl _, fun y h => by simp at h⟩
  | x :: l, m => by
    obtain ⟨h1, h2⟩ := maxI_ge l (if m < x then x else m)
    have h3 : m ≤ (if m < x then x else m) ∧ x ≤ (if m < x then x else m) := by split <;> omega
    refine ⟨Int.le_trans h3.1 h1, fun y hy => ?_⟩
    rcases List.mem_cons.mp hy with rfl | hy
    · exact Int.le_trans h3.2 h1
    · exact h2 y hy
theorem maxI_mem : ∀ (l : List Int) (m : Int), maxI m l = m ∨ maxI m l ∈ l
  | [], m => .inl rfl
  | x :: l, m => by
    rcases maxI_mem l (if m < x then x else m) with h | h
    · show maxI (if m < x then x else m) l = m ∨ maxI (if m < x then x else m) l ∈ x :: l
      rw [h]
      split
      · exact .inr List.mem_cons_self
      · exact .inl rfl
    · exact .inr (List.mem_cons_of_mem _ h)
theorem minI_le : ∀ (l : List Int) (m : Int), minI m l ≤ m ∧ ∀ y ∈ l, minI m l ≤ y
  | [], m => ⟨Int.le_refl _, fun y h => by simp at h⟩
  | x :: l, m => by
    obtain ⟨h1, h2⟩ := minI_le l (if x < m then x else m)
    have h3 : (if x < m then x else m) ≤ m ∧ (if x < m then x else m) ≤ x := by split <;> omega
    refine ⟨Int.le_trans h1 h3.1, fun y hy => ?_⟩
    rcases List.mem_cons.mp hy with rfl | hy
    · exact Int.le_trans h1 h3.2
    · exact h2 y hy
theorem minI_mem : ∀ (l : List Int) (m : Int), minI m l = m ∨ minI m l ∈ l
  | [], m => .inl rfl
  | x :: l, m => by
    rcases minI_mem l (if x < m then x else m) with h | h
    · show minI (if x < m then x else m) l = m ∨ minI (if x < m then x else m) l ∈ x :: l
      rw [h]
      split
      · exact .inr List.mem_cons_self
      · exact .inl rfl
    · exact .inr (List.mem_cons_of_mem _ h)
theorem c_max1 (hG : ¬ G .stuck) (hc : X.calm = true) : CallR X (.builtin "max") (rB1 G X.K dMax1) := by
  intro pins s σ H xs us Q I r h
  obtain ⟨d, x, F, k, rfl, hx, g, q⟩ := h
  obtain ⟨a, ds, vs, F', rfl, hs, hr, g⟩ := lstK_of hG hx g
  obtain ⟨bs, hb, g⟩ := oK_of hG g
  cases ints_of hr hb
  cases bs with
  | nil => exact absurd g hG
  | cons x l =>
    refine cr_max hc pins s σ H _ us Q I r ⟨a, x :: l, rfl, hs, by simp, fun m hm hle => ?_⟩
    have e : m = maxI x l := by
      have h1 := maxI_ge l x
      have h2 : m ≤ maxI x l := by
        rcases List.mem_cons.mp hm with rfl | hm
        · exact h1.1
        · exact h1.2 m hm
      have h3 : maxI x l ≤ m := by
        rcases maxI_mem l x with h | h
        · rw [h]; exact hle x List.mem_cons_self
        · exact hle _ (List.mem_cons_of_mem _ h)
      omega
    subst e
    exact q.here (d := .int (maxI x l)) rfl g
theorem c_min1 (hG : ¬ G .stuck) (hc : X.calm = true) : CallR X (.builtin "min") (rB1 G X.K dMin1) := by
  intro pins s σ H xs us Q I r h
  obtain ⟨d, x, F, k, rfl, hx, g, q⟩ := h
  obtain ⟨a, ds, vs, F', rfl, hs, hr, g⟩ := lstK_of hG hx g
  obtain ⟨bs, hb, g⟩ := oK_of hG g
  cases ints_of hr hb
  cases bs with
  | nil => exact absurd g hG
  | cons x l =>
    refine cr_min hc pins s σ H _ us Q I r ⟨a, x :: l, rfl, hs, by simp, fun m hm hle => ?_⟩
    have e : m = minI x l := by
      have h1 := minI_le l x
      have h2 : minI x l ≤ m := by
        rcases List.mem_cons.mp hm with rfl | hm
        · exact h1.1
        · exact h1.2 m hm
      have h3 : m ≤ minI x l := by
        rcases minI_mem l x with h | h
        · rw [h]; exact hle x List.mem_cons_self
        · exact hle _ (List.mem_cons_of_mem _ h)
      omega
    subst e
    exact q.here (d := .int (minI x l)) rfl g
theorem c_type (hG : ¬ G .stuck) : CallR X (.type "type") (rB1 G X.K dTyp) := by
  intro pins s σ H xs us Q I r h
  obtain ⟨d, x, F, k, rfl, hx, g, q⟩ := h
  have fin : ∀ {T : String} {u : Value}, us = [u] → s.TypeIs u T → (Value.type T == Value.type "builtin_function_or_method") = false → G (k (.ty T)) → wpAny (model X.prog X.w) X.A (call (.type "type") us) (EP X pins σ Q) X.xe s := fun {T u} eu t hb g => by
    subst eu
    exact PySem.call_type_of t hb ⟨.ty T, H, I, rfl, q.here (d := .ty T) rfl g⟩
  obtain ⟨u, rfl, rx⟩ := vals1 r
  cases d with
  | int i => cases (show x = .int i from hx); obtain ⟨t, rfl⟩ := rx; exact fin rfl (typeIs_int s i t) (by decide +kernel) g
  | str i => cases (show x = .str i from hx); obtain ⟨t, rfl⟩ := rx; exact fin rfl (typeIs_str s i t) (by decide +kernel) g
  | bl i => cases (show x = .bl i from hx); cases rx; exact fin rfl (PySem.typeIs_bool s i) (by decide +kernel) g
  | non => cases (show x = .non from hx); cases rx; exact fin rfl (PySem.typeIs_none s) (by decide +kernel) g
  | lst ds =>
    obtain ⟨p, vs, rfl, hs, _⟩ := hx
    cases rx
    obtain ⟨its, rv, pl, _⟩ := I.list (.inl (.inl hs))
    exact fin rfl pl.isList.typeIs (by decide +kernel) g
  | tup ds =>
    obtain ⟨p, vs, rfl, hs, _⟩ := hx
    cases rx
    obtain ⟨its, rv, pl, _⟩ := I.tuple hs
    exact fin rfl pl.typeIs (by decide +kernel) g
  | _ => exact absurd g hG
def rB2 (G : Res → Prop) (K : PySem.W.Frag) (f : D → D → (D → Res) → Res) : List V → Hp → VK → Prop := fun xs H Q => ∃ d e x y F F' k, xs = [x, y] ∧ Rp K H d x F ∧ Rp K H e y F' ∧ G (f d e k) ∧ VRes G K k H Q
theorem c_max2 (hG : ¬ G .stuck) (hc : X.calm = true) : CallR X (.builtin "max") (rB2 G X.K dMax2) := by
  intro pins s σ H xs us Q I r h
  obtain ⟨d, e, x, y, F, F', k, rfl, hx, hy, g, q⟩ := h
  cases d with
  | int i =>
    cases e with
    | int j =>
      cases (show x = .int i from hx); cases (show y = .int j from hy)
      exact call_max2 hc pins s σ H _ us Q I r ⟨i, j, rfl, q.here (d := .int _) rfl g⟩
    | _ => exact absurd g hG
  | _ => cases e <;> exact absurd g hG
theorem c_min2 (hG : ¬ G .stuck) (hc : X.calm = true) : CallR X (.builtin "min") (rB2 G X.K dMin2) := by
  intro pins s σ H xs us Q I r h
  obtain ⟨d, e, x, y, F, F', k, rfl, hx, hy, g, q⟩ := h
  cases d with
  | int i =>
    cases e with
    | int j =>
      cases (show x = .int i from hx); cases (show y = .int j from hy)
      exact call_min2 hc pins s σ H _ us Q I r ⟨i, j, rfl, q.here (d := .int _) rfl g⟩
    | _ => exact absurd g hG
  | _ => cases e <;> exact absurd g hG
theorem dvm_c {i j : Int} (h : dvmOk i j = true) : CDivP i j := by
  unfold dvmOk at h
  rw [Bool.and_eq_true, decide_eq_true_eq, decide_eq_true_eq] at h
  refine ⟨h.1, ?_⟩
  unfold Builtin.divisionGoesByPylong
  have hi : (if i == 0 then 0 else i.natAbs.log2 / 30 + 1) ≤ 300 := by
    split <;> omega
  dsimp only
  rw [Bool.and_eq_false_iff]
  by_cases hj : (if j == 0 then 0 else j.natAbs.log2 / 30 + 1) > 300
  · exact .inr (decide_eq_false (by omega))
  · exact .inl (decide_eq_false hj)
theorem c_dvm (hG : ¬ G .stuck) : CallR X (.builtin "divmod") (rB2 G X.K dDvm) := by
  intro pins s σ H xs us Q I r h
  obtain ⟨d, e, x, y, F, F', k, rfl, hx, hy, g, q⟩ := h
  cases d with
  | int i =>
    cases e with
    | int j =>
      cases (show x = .int i from hx); cases (show y = .int j from hy)
      obtain ⟨hb, g⟩ := ckK_of hG g
      exact call_divmodW pins s σ H _ us Q I r ⟨i, j, rfl, dvm_c hb, fun p hp => q.new (d := .tup [.int (i / j), .int (i % j)]) hp (Rp.tup_new hp rfl ⟨_, _, F0, F0, rfl, rfl, ⟨_, _, F0, F0, rfl, rfl, rfl, fun _ z => z, fun _ z => z, fun _ z => z.elim⟩, fun _ z => z, fun _ z => z, fun _ z => z.elim⟩) g⟩
    | _ => exact absurd g hG
  | _ => cases e <;> exact absurd g hG

/-! ### isinstance -/
theorem tyX_of {H : Hp} {d : D} {x : V} {F : Fp} {t : String} (hx : Rp X.K H d x F) (ht : tyD d = some t) : TyX X.K H x (.type t) := by
  cases d with
  | non => cases (show x = .non from hx); cases ht; exact .base .non
  | bl b => cases (show x = .bl b from hx); cases ht; exact .base (.bl b)
  | int i => cases (show x = .int i from hx); cases ht; exact .base (.int i)
  | str z => cases (show x = .str z from hx); cases ht; exact .base (.str z)
  | tup ds =>
    obtain ⟨p, vs, rfl, hs, _, rv⟩ := hx
    cases ht
    rcases hs with (hs | ⟨o, hs⟩) | ⟨o, its, n, hk, hc, _⟩
    · exact .base (.tup hs)
    · exact .fTuple hs
    · exact .kTuple hk hc
  | rol ds =>
    obtain ⟨p, vs, rfl, hs, _, rv⟩ := hx
    cases ht
    rcases hs with ⟨o, hs⟩ | ⟨o, its, n, hk, hc, _⟩
    · exact .base (.frz hs)
    · exact .kList hk hc
  | lst ds =>
    obtain ⟨p, vs, rfl, hs, _, rv⟩ := hx
    cases ht
    exact .base (.lst hs)
  | lck ds =>
    obtain ⟨p, vs, rfl, hs, _, rv⟩ := hx
    cases ht
    rcases hs with ⟨o, hs⟩ | ⟨o, its, n, hk, hc, _⟩
    · exact .base (.frz hs)
    · exact .kList hk hc
  | ty n => cases ht
  | fnv n => cases ht
  | dct ks n => cases ht
theorem tyD_cases {d : D} {t : String} (h : tyD d = some t) : t = "NoneType" ∨ t = "bool" ∨ t = "int" ∨ t = "str" ∨ t = "tuple" ∨ t = "list" := by
  cases d <;> first
    | (cases h; simp)
    | cases h
/-- the built-in classes that isinstance is asked of -/
theorem isiCls_of {c : Str} {n : String} (h : isiCls c = some n) : bootBuiltins c = some (.type n) ∧ (n = "int" ∨ n = "str" ∨ n = "tuple" ∨ n = "list" ∨ n = "bool") := by
  unfold isiCls at h
  by_cases e : c = "int"
  · subst e; rw [if_pos rfl] at h; cases h; exact ⟨by decide +kernel, by simp⟩
  rw [if_neg e] at h
  by_cases e : c = "str"
  · subst e; rw [if_pos rfl] at h; cases h; exact ⟨by decide +kernel, by simp⟩
  rw [if_neg e] at h
  by_cases e : c = "tuple"
  · subst e; rw [if_pos rfl] at h; cases h; exact ⟨by decide +kernel, by simp⟩
  rw [if_neg e] at h
  by_cases e : c = "list"
  · subst e; rw [if_pos rfl] at h; cases h; exact ⟨by decide +kernel, by simp⟩
  rw [if_neg e] at h
  by_cases e : c = "bool"
  · subst e; rw [if_pos rfl] at h; cases h; exact ⟨by decide +kernel, by simp⟩
  rw [if_neg e] at h
  cases h
theorem kit_all {t n : String} (ht : t = "NoneType" ∨ t = "bool" ∨ t = "int" ∨ t = "str" ∨ t = "tuple" ∨ t = "list") (hn : n = "int" ∨ n = "str" ∨ n = "tuple" ∨ n = "list" ∨ n = "bool") :
    kitB t n = some (t == n || (n == "int" && t == "bool")) := by
  rcases ht with rfl | rfl | rfl | rfl | rfl | rfl <;> rcases hn with rfl | rfl | rfl | rfl | rfl <;> decide +kernel
def rIsiD (G : Res → Prop) (K : PySem.W.Frag) (n : String) : List V → Hp → VK → Prop := fun xs H Q => ∃ d x F k, xs = [x, .ty n] ∧ Rp K H d x F ∧ G (dIsi d n k) ∧ VRes G K k H Q
theorem c_isi (hG : ¬ G .stuck) {n : String} (hn : n = "int" ∨ n = "str" ∨ n = "tuple" ∨ n = "list" ∨ n = "bool") : CallR X (.builtin "isinstance") (rIsiD G X.K n) := by
  intro pins s σ H xs us Q I r h
  obtain ⟨d, x, F, k, rfl, hx, g, q⟩ := h
  obtain ⟨t, ht, g⟩ := oK_of hG g
  exact call_isi pins s σ H _ us Q I r ⟨x, .ty n, .type t, .type n, _, rfl, .ty n, tyX_of hx ht, kit_ty (kit_all (tyD_cases ht) hn), q.here (d := .bl _) rfl g⟩

/-! ### methods of a text -/
theorem strs_of {K : PySem.W.Frag} {H : Hp} : ∀ {ds : List D} {vs : List V} {F : Fp} {ys : List Str}, Rps K H ds vs F → strsD ds = some ys → vs = ys.map V.str
  | [], vs, F, ys, h, e => by
    cases e
    exact h
  | .str x :: ds, vs, F, ys, h, e => by
    obtain ⟨v, ws, G1, G2, rfl, h1, h2, _⟩ := h
    rw [strsD] at e
    cases q : strsD ds with
    | none => rw [q] at e; cases e
    | some zs =>
      rw [q] at e
      cases e
      rw [show v = .str x from h1, strs_of h2 q]
      rfl
  | .non :: ds, vs, F, ys, h, e => by cases e
  | .bl _ :: ds, vs, F, ys, h, e => by cases e
  | .int _ :: ds, vs, F, ys, h, e => by cases e
  | .ty _ :: ds, vs, F, ys, h, e => by cases e
  | .tup _ :: ds, vs, F, ys, h, e => by cases e
  | .rol _ :: ds, vs, F, ys, h, e => by cases e
  | .lst _ :: ds, vs, F, ys, h, e => by cases e
  | .lck _ :: ds, vs, F, ys, h, e => by cases e
  | .fnv _ :: ds, vs, F, ys, h, e => by cases e
  | .dct _ _ :: ds, vs, F, ys, h, e => by cases e
/-- arguments that are read (they may be lent) -/
def RpB (K : PySem.W.Frag) (H : Hp) : List D → List V → Prop
  | [], vs => vs = []
  | d :: ds, vs => ∃ v ws F, vs = v :: ws ∧ Rp K H d v F ∧ RpB K H ds ws
theorem asS_of {ds : List D} {y : Str} (h : asS ds = some y) : ds = [.str y] := by
  unfold asS at h
  split at h
  · cases h; rfl
  · cases h
theorem asSII_of {ds : List D} {t : Str × Int × Int} (h : asSII ds = some t) : ds = [.str t.1, .int t.2.1, .int t.2.2] := by
  unfold asSII at h
  split at h
  · cases h; rfl
  · cases h
theorem Rps.strs {K : PySem.W.Frag} {H : Hp} : ∀ (ys : List Str) (F : Fp), Rps K H (ys.map D.str) (ys.map V.str) F
  | [], _ => rfl
  | y :: ys, F => ⟨.str y, ys.map V.str, F0, F0, rfl, rfl, Rps.strs ys F0, fun _ z => False.elim z, fun _ z => False.elim z, fun _ z => False.elim z⟩
def rStrM (G : Res → Prop) (K : PySem.W.Frag) (m : Str) : V → List V → Hp → VK → Prop := fun x vs H Q => ∃ z ds k, x = .str z ∧ RpB K H ds vs ∧ G (strM m z ds k) ∧ VRes G K k H Q
theorem m_join (hG : ¬ G .stuck) : MtR X "str.join" (rStrM G X.K "join") := by
  intro pins s σ H x xs v us Q I rx rs h
  obtain ⟨z, ds, k, rfl, hd, g, q⟩ := h
  unfold strM at g
  rw [if_pos rfl] at g
  match ds, hd, g with
  | [], hd, g => exact absurd g hG
  | [d], hd, g =>
    obtain ⟨w, ws, F, rfl, hw, hn⟩ := hd
    cases (show ws = [] from hn)
    have fin : ∀ {es : List D} {p : Addr} {vs : List V} {F : Fp}, w = .ref p → (SqL X.K H p vs ∨ SqT X.K H p vs) → Rps X.K H es vs F →
        G (match strsD es with
          | some ys => ckK (decide ((ys.map (·.length)).sum + ys.length * z.length ≤ szLine)) (k (.str (Txt.join z ys)))
          | none => .stuck) → wpAny (model X.prog X.w) X.A (call (.builtin "str.join") (v :: us)) (EP X pins σ Q) X.xe s := by
      intro es p vs F ew hp rv g
      cases e : strsD es with
      | none => rw [e] at g; exact absurd g hG
      | some ys =>
        rw [e] at g
        obtain ⟨hb, g⟩ := ckK_of hG g
        have ev := strs_of rv e
        subst ev; subst ew
        exact mt_join pins s σ H _ _ v us Q I rx rs ⟨z, p, ys, rfl, rfl, hp, of_decide_eq_true hb, q.here (d := .str (Txt.join z ys)) rfl g⟩
    cases d with
    | tup es =>
      obtain ⟨p, vs, ew, hs, rv⟩ := hw
      exact fin ew (.inr hs) rv.2 g
    | rol es =>
      obtain ⟨p, vs, ew, hs, rv⟩ := hw
      exact fin ew (.inl hs.sq) rv.2 g
    | lst es =>
      obtain ⟨p, vs, ew, hs, _, rv⟩ := hw
      exact fin ew (.inl (SqL.of hs)) rv g
    | lck es =>
      obtain ⟨p, vs, ew, hs, rv⟩ := hw
      exact fin ew (.inl hs.sq) rv.2 g
    | _ => exact absurd g hG
  | _ :: _ :: _, hd, g => exact absurd g hG
theorem m_find (hG : ¬ G .stuck) : MtR X "str.find" (rStrM G X.K "find") := by
  intro pins s σ H x xs v us Q I rx rs h
  obtain ⟨z, ds, k, rfl, hd, g, q⟩ := h
  unfold strM at g
  rw [if_neg (by decide +kernel), if_pos rfl] at g
  obtain ⟨t, e, g⟩ := oK_of hG g
  cases asSII_of e
  obtain ⟨w1, ws1, F1, rfl, h1, w2, ws2, F2, rfl, h2, w3, ws3, F3, rfl, h3, hn⟩ := hd
  cases (show ws3 = [] from hn); cases (show w1 = .str _ from h1); cases (show w2 = .int _ from h2); cases (show w3 = .int _ from h3)
  exact mt_find4 pins s σ H _ _ v us Q I rx rs ⟨z, t.1, t.2.1, t.2.2, rfl, rfl, q.here (d := .int (Txt.findIn z t.1 t.2.1 t.2.2)) rfl g⟩
theorem m_lstrip (hG : ¬ G .stuck) : MtR X "str.lstrip" (rStrM G X.K "lstrip") := by
  intro pins s σ H x xs v us Q I rx rs h
  obtain ⟨z, ds, k, rfl, hd, g, q⟩ := h
  unfold strM at g
  rw [if_neg (by decide +kernel), if_neg (by decide +kernel), if_pos rfl] at g
  obtain ⟨y, e, g⟩ := oK_of hG g
  cases asS_of e
  obtain ⟨w1, ws1, F1, rfl, h1, hn⟩ := hd
  cases (show ws1 = [] from hn); cases (show w1 = .str y from h1)
  obtain ⟨hb, g⟩ := ckK_of hG g
  exact mt_lstripChars pins s σ H _ _ v us Q I rx rs ⟨z, y, rfl, rfl, by rw [← szLine_eq]; exact of_decide_eq_true hb, q.here (d := .str (Txt.lstripChars z y)) rfl g⟩
theorem m_split (hG : ¬ G .stuck) : MtR X "str.split" (rStrM G X.K "split") := by
  intro pins s σ H x xs v us Q I rx rs h
  obtain ⟨z, ds, k, rfl, hd, g, q⟩ := h
  unfold strM at g
  rw [if_neg (by decide +kernel), if_neg (by decide +kernel), if_neg (by decide +kernel), if_pos rfl] at g
  obtain ⟨y, e, g⟩ := oK_of hG g
  cases asS_of e
  obtain ⟨hb, g⟩ := ckK_of hG g
  rw [Bool.and_eq_true, Bool.not_eq_true', decide_eq_true_eq] at hb
  obtain ⟨w, ws, F, rfl, hw, hn⟩ := hd
  cases (show ws = [] from hn)
  cases (show w = .str y from hw)
  refine mt_split pins s σ H _ _ v us Q I rx rs ⟨z, y, rfl, rfl, hb.1, by rw [← szLine_eq]; exact hb.2, fun p hp => ?_⟩
  exact q.new (d := .lst ((Txt.split z y).map D.str)) hp ⟨p, _, rfl, upd_same, rfl, Rps.strs _ _⟩ g
theorem m_str1 {m : Str} {id : String} {f : Str → Str → D} {ok : Str → Str → Bool} {gV : Str → Str → V} (hG : ¬ G .stuck) (e0 : ∀ z ds k, strM m z ds k = oK (asS ds) fun y => ckK (ok z y) (k (f z y))) (hp : ∀ z y, Rp X.K (fun _ => none) (f z y) (gV z y) F0 ∧ ∀ H, Rp X.K H (f z y) (gV z y) F0)
    (mt : MtR X id fun x xs H Q => ∃ a b, x = .str a ∧ xs = [.str b] ∧ ok a b = true ∧ Q (gV a b) H) : MtR X id (rStrM G X.K m) := by
  intro pins s σ H x xs v us Q I rx rs h
  obtain ⟨z, ds, k, rfl, hd, g, q⟩ := h
  rw [e0] at g
  obtain ⟨y, e, g⟩ := oK_of hG g
  cases asS_of e
  obtain ⟨hb, g⟩ := ckK_of hG g
  obtain ⟨w, ws, F, rfl, hw, hn⟩ := hd
  cases (show ws = [] from hn)
  cases (show w = .str y from hw)
  exact mt pins s σ H _ _ v us Q I rx rs ⟨z, y, rfl, rfl, hb, q.here ((hp z y).2 H) g⟩
theorem m_removeprefix (hG : ¬ G .stuck) : MtR X "str.removeprefix" (rStrM G X.K "removeprefix") :=
  m_str1 (f := fun z y => .str (Txt.removeprefix z y)) (gV := fun z y => .str (Txt.removeprefix z y)) (ok := fun z _ => decide (z.length ≤ szLine)) hG (fun _ _ _ => rfl) (fun _ _ => ⟨rfl, fun _ => rfl⟩) fun pins s σ H x xs v us Q I rx rs ⟨a, b, h1, h2, h3, h4⟩ =>
    mt_removeprefix pins s σ H x xs v us Q I rx rs ⟨a, b, h1, h2, by rw [← szLine_eq]; exact of_decide_eq_true h3, h4⟩
theorem m_startswith (hG : ¬ G .stuck) : MtR X "str.startswith" (rStrM G X.K "startswith") :=
  m_str1 (f := fun z y => .bl (Txt.startswith z y)) (gV := fun z y => .bl (Txt.startswith z y)) (ok := fun _ _ => true) hG (fun _ _ _ => rfl) (fun _ _ => ⟨rfl, fun _ => rfl⟩) fun pins s σ H x xs v us Q I rx rs ⟨a, b, h1, h2, _, h4⟩ =>
    mt_startswith pins s σ H x xs v us Q I rx rs ⟨a, b, h1, h2, h4⟩
theorem m_endswith (hG : ¬ G .stuck) : MtR X "str.endswith" (rStrM G X.K "endswith") :=
  m_str1 (f := fun z y => .bl (Txt.endswith z y)) (gV := fun z y => .bl (Txt.endswith z y)) (ok := fun _ _ => true) hG (fun _ _ _ => rfl) (fun _ _ => ⟨rfl, fun _ => rfl⟩) fun pins s σ H x xs v us Q I rx rs ⟨a, b, h1, h2, _, h4⟩ =>
    mt_endswith pins s σ H x xs v us Q I rx rs ⟨a, b, h1, h2, h4⟩
theorem m_partition (hG : ¬ G .stuck) : MtR X "str.partition" (rStrM G X.K "partition") := by
  intro pins s σ H x xs v us Q I rx rs h
  obtain ⟨z, ds, k, rfl, hd, g, q⟩ := h
  replace g : G (oK (asS ds) fun y => ckK (!(y.length == 0) && decide (z.length ≤ szLine)) (k (.tup [.str (Txt.partition z y).1, .str (Txt.partition z y).2.1, .str (Txt.partition z y).2.2]))) := g
  obtain ⟨y, e, g⟩ := oK_of hG g
  cases asS_of e
  obtain ⟨hb, g⟩ := ckK_of hG g
  rw [Bool.and_eq_true, Bool.not_eq_true', decide_eq_true_eq] at hb
  obtain ⟨w, ws, F, rfl, hw, hn⟩ := hd
  cases (show ws = [] from hn)
  cases (show w = .str y from hw)
  refine mt_partition pins s σ H _ _ v us Q I rx rs ⟨z, y, rfl, rfl, hb.1, by rw [← szLine_eq]; exact hb.2, fun p hp => ?_⟩
  refine q.new (d := .tup [.str (Txt.partition z y).1, .str (Txt.partition z y).2.1, .str (Txt.partition z y).2.2]) hp ⟨p, [.str (Txt.partition z y).1, .str (Txt.partition z y).2.1, .str (Txt.partition z y).2.2], rfl, .inl (.inl upd_same), rfl, ?_⟩ g
  exact ⟨_, _, F0, F0, rfl, rfl, ⟨_, _, F0, F0, rfl, rfl, ⟨_, [], F0, F0, rfl, rfl, rfl, fun _ z => False.elim z, fun _ z => False.elim z, fun _ z => False.elim z⟩, fun _ z => False.elim z, fun _ z => False.elim z, fun _ z => False.elim z⟩, fun _ z => False.elim z, fun _ z => False.elim z, fun _ z => False.elim z⟩
/-- a method without arguments -/
def rStrM0 (G : Res → Prop) (K : PySem.W.Frag) (m : Str) : V → List V → Hp → VK → Prop := fun x vs H Q => vs = [] ∧ ∃ z k, x = .str z ∧ G (strM0 m z k) ∧ VRes G K k H Q
theorem m_isdigit (hG : ¬ G .stuck) : MtR X "str.isdigit" (rStrM0 G X.K "isdigit") := by
  intro pins s σ H x xs v us Q I rx rs h
  obtain ⟨rfl, z, k, rfl, g, q⟩ := h
  exact mt_isdigit pins s σ H _ _ v us Q I rx rs ⟨z, rfl, rfl, trivial, q.here (d := .bl _) rfl g⟩
end
end TI
set_option Elab.async false
set_option linter.all false
set_option maxRecDepth 100000
set_option maxHeartbeats 4000000
/-! sorted -/
namespace TI
open PySem PySem.Spec PyProof.Rows L2
section
variable {α : Type} (k : α → Int)
theorem insK_perm (x : α) : ∀ l : List α, (insK k x l).Perm (x :: l)
  | [] => List.Perm.refl _
  | y :: l => by
    unfold insK
    split
    · exact List.Perm.refl _
    · exact ((insK_perm x l).cons y).trans (List.Perm.swap x y l)
theorem srtK_perm : ∀ l : List α, (srtK k l).Perm l
  | [] => List.Perm.refl _
  | x :: l => (insK_perm k x _).trans ((srtK_perm l).cons x)
theorem insK_asc (x : α) : ∀ l : List α, l.Pairwise (fun a b => k a ≤ k b) → (insK k x l).Pairwise (fun a b => k a ≤ k b)
  | [], _ => List.pairwise_singleton _ _
  | y :: l, h => by
    obtain ⟨h1, h2⟩ := List.pairwise_cons.mp h
    unfold insK
    split
    · rename_i hxy
      refine List.pairwise_cons.mpr ⟨fun z hz => ?_, h⟩
      rcases List.mem_cons.mp hz with rfl | hz
      · exact hxy
      · exact Int.le_trans hxy (h1 z hz)
    · rename_i hxy
      refine List.pairwise_cons.mpr ⟨fun z hz => ?_, insK_asc x l h2⟩
      rcases List.mem_cons.mp ((insK_perm k x l).mem_iff.mp hz) with rfl | hz
      · omega
      · exact h1 z hz
theorem srtK_asc : ∀ l : List α, (srtK k l).Pairwise (fun a b => k a ≤ k b)
  | [] => List.Pairwise.nil
  | x :: l => insK_asc k x _ (srtK_asc l)
theorem insK_map {β : Type} (f : β → α) (x : β) : ∀ l : List β, (insK (fun y => k (f y)) x l).map f = insK k (f x) (l.map f)
  | [] => rfl
  | y :: l => by
    show List.map f (if k (f x) ≤ k (f y) then x :: y :: l else y :: insK (fun y => k (f y)) x l) = (if k (f x) ≤ k (f y) then f x :: f y :: l.map f else f y :: insK k (f x) (l.map f))
    split
    · rfl
    · rw [List.map_cons, insK_map f x l]
theorem srtK_map {β : Type} (f : β → α) : ∀ l : List β, (srtK (fun y => k (f y)) l).map f = srtK k (l.map f)
  | [] => rfl
  | x :: l => by
    show (insK _ x _).map f = insK k (f x) _
    rw [insK_map, srtK_map f l]
end
theorem rps_ints0 {K : PySem.W.Frag} {H : Hp} : ∀ ns : List Int, Rps K H (ns.map D.int) (ns.map V.int) F0
  | [] => rfl
  | n :: ns => ⟨.int n, _, F0, F0, rfl, rfl, rps_ints0 ns, fun _ z => z, fun _ z => z, fun _ z => z.elim⟩
theorem pus_ints0 : ∀ ns : List Int, D.pus (ns.map D.int) = true
  | [] => rfl
  | n :: ns => pus_ints0 ns
theorem rps_mem0 {K : PySem.W.Frag} {H : Hp} : ∀ {zs : List (D × V)}, (∀ z ∈ zs, Rp K H z.1 z.2 F0) → Rps K H (zs.map (·.1)) (zs.map (·.2)) F0
  | [], _ => rfl
  | z :: zs, h => ⟨z.2, _, F0, F0, rfl, h z List.mem_cons_self, rps_mem0 fun y hy => h y (List.mem_cons_of_mem _ hy), fun _ q => q, fun _ q => q, fun _ q => q.elim⟩
theorem pus_all : ∀ {ds : List D}, D.pus ds = true ↔ ∀ d ∈ ds, d.pu = true
  | [] => by simp [D.pus]
  | d :: ds => by rw [D.pus, Bool.and_eq_true, pus_all]; simp
theorem hds_zip {K : PySem.W.Frag} {H : Hp} : ∀ {ds : List D} {vs : List V} {is : List Int}, Rps K H ds vs F0 → hdsD ds = some is → ∃ ts : List (D × V × Int), ds = ts.map (·.1) ∧ vs = ts.map (·.2.1) ∧ is = ts.map (·.2.2) ∧
    ∀ t ∈ ts, Rp K H t.1 t.2.1 F0 ∧ ∃ p r, t.2.1 = V.ref p ∧ SqT K H p (.int t.2.2 :: r)
  | [], vs, is, h, e => by
    cases e
    rw [show vs = [] from h]
    exact ⟨[], rfl, rfl, rfl, fun t ht => by simp at ht⟩
  | d :: ds, vs, is, h, e => by
    obtain ⟨v, ws, G1, G2, rfl, h1, h2, s1, s2, _⟩ := h
    have h1' := Rp.mono _ _ _ _ s1 h1
    have h2' := Rps.mono _ _ _ _ s2 h2
    unfold hdsD at e
    cases hi : hdI d with
    | none => rw [hi] at e; cases e
    | some i =>
      rw [hi] at e
      dsimp only at e
      cases hr : hdsD ds with
      | none => rw [hr] at e; cases e
      | some js =>
        rw [hr] at e
        cases e
        obtain ⟨ts, rfl, rfl, rfl, hts⟩ := hds_zip h2' hr
        refine ⟨(d, v, i) :: ts, rfl, rfl, rfl, fun t ht => ?_⟩
        rcases List.mem_cons.mp ht with rfl | ht
        · refine ⟨h1', ?_⟩
          unfold hdI at hi
          split at hi
          · cases hi
            obtain ⟨a, vs, rfl, hq, _, hv⟩ := h1'
            obtain ⟨v0, ws0, _, _, rfl, hv0, _⟩ := hv
            rw [show v0 = .int i from hv0] at hq
            exact ⟨a, ws0, rfl, hq⟩
          · cases hi
        · exact hts t ht
section
variable {X : Cx} {G : Res → Prop}
theorem c_sorted (hG : ¬ G .stuck) : CallR X (.builtin "sorted") (rB1 G X.K dSorted) := by
  intro pins s σ H xs us Q I r h
  obtain ⟨d, x, F, k, rfl, hx, g, q⟩ := h
  obtain ⟨a, ds, vs, F', rfl, hs, hr, g⟩ := lstK_of hG hx g
  cases hi : intsD ds with
  | some ns =>
    rw [hi] at g
    cases ints_of hr hi
    refine cr_sortedI pins s σ H _ us Q I r ⟨a, ns, rfl, hs, fun ns' p hp ha hn => ?_⟩
    have e : ns' = srtK id ns := (hp.trans (srtK_perm id ns).symm).eq_of_pairwise (fun a b _ _ h1 h2 => Int.le_antisymm h1 h2) ha (srtK_asc id ns)
    subst e
    exact q.new hn (Rp.lst_new hn (pus_ints0 _) (rps_ints0 _)) g
  | none =>
    rw [hi] at g
    dsimp only at g
    obtain ⟨pu, g⟩ := pusK_of hG g
    obtain ⟨is, hd, g⟩ := oK_of hG g
    obtain ⟨nd, g⟩ := ckK_of hG g
    obtain ⟨ts, rfl, rfl, rfl, hts⟩ := hds_zip (Rps.pure _ _ _ pu hr) hd
    refine cr_sortedH pins s σ H _ us Q I r ⟨a, ts.map (·.2), rfl, by rw [List.map_map]; exact hs, fun z hz => ?_, by rw [List.map_map]; exact of_decide_eq_true nd, fun zs' p hp ha hn => ?_⟩
    · obtain ⟨t, ht, rfl⟩ := List.mem_map.mp hz
      exact (hts t ht).2
    · have hnd : (ts.map (·.2.2)).Nodup := of_decide_eq_true nd
      have e : zs' = (srtK (fun t => t.2.2) ts).map (·.2) := by
        refine (hp.trans ((srtK_perm _ ts).symm.map _)).eq_of_pairwise (le := fun x y => x.2 ≤ y.2) (fun a b ha hb h1 h2 => ?_) ha (List.pairwise_map.mpr (srtK_asc _ ts))
        have hb' : b ∈ ts.map (·.2) := ((srtK_perm _ ts).map _).mem_iff.mp hb
        exact nodup_snd (by rw [List.map_map]; exact hnd) a (hp.mem_iff.mp ha) b hb' (Int.le_antisymm h1 h2)
      have ez : (ts.map (·.1)).zip (ts.map (·.2.2)) = ts.map fun t => (t.1, t.2.2) := by
        rw [List.zip_map', ]
      have ed : (srtK (·.2) ((ts.map (·.1)).zip (ts.map (·.2.2)))).map (·.1) = (srtK (fun t => t.2.2) ts).map (·.1) := by
        rw [ez, ← srtK_map (k := fun (y : D × Int) => y.2) (f := fun (t : D × V × Int) => (t.1, t.2.2)), List.map_map]
        rfl
      rw [ed] at g
      subst e
      have hm : ∀ t ∈ srtK (fun t => t.2.2) ts, Rp X.K H t.1 t.2.1 F0 := fun t ht => (hts t ((srtK_perm _ ts).mem_iff.mp ht)).1
      have hrs : Rps X.K H ((srtK (fun t => t.2.2) ts).map (·.1)) (((srtK (fun t => t.2.2) ts).map (·.2)).map (·.1)) F0 := by
        have := rps_mem0 (zs := (srtK (fun (t : D × V × Int) => t.2.2) ts).map fun t => (t.1, t.2.1)) (K := X.K) (H := H) fun z hz => by
          obtain ⟨t, ht, rfl⟩ := List.mem_map.mp hz
          exact hm t ht
        rw [List.map_map, List.map_map] at this
        rw [List.map_map]
        exact this
      refine q.new hn (Rp.lst_new hn ?_ hrs) g
      rw [pus_all]
      intro d hd
      obtain ⟨t, ht, rfl⟩ := List.mem_map.mp hd
      rw [pus_all] at pu
      exact pu _ (List.mem_map.mpr ⟨t, (srtK_perm _ ts).mem_iff.mp ht, rfl⟩)
end
end TI
set_option Elab.async false
set_option linter.all false
set_option maxRecDepth 100000
set_option maxHeartbeats 4000000
/-! the evaluator against the model: what is wanted of each part, and the parts of expressions -/
namespace TI
open PySem PySem.Spec PyProof.Rows L2

theorem PE.imp {X : Cx} {e : Expr} {t t' : TE} (h : PE X e t) (w : ∀ σ H Q, t' σ H Q → t σ H Q) : PE X e t' := ⟨fun pins s σ H Q I q => h.run pins s σ H Q I (w σ H Q q)⟩
theorem PT.imp {X : Cx} {e : Expr} {t t' : TT} (h : PT X e t) (w : ∀ σ H Q, t' σ H Q → t σ H Q) : PT X e t' := ⟨fun pins s σ H Q I q => h.run pins s σ H Q I (w σ H Q q)⟩
theorem PW.imp {X : Cx} {e : Expr} {t t' : TT} (h : PW X e t) (w : ∀ σ H Q, t' σ H Q → t σ H Q) : PW X e t' := ⟨fun wh pins s σ H Q I q => h.run wh pins s σ H Q I (w σ H Q q)⟩
theorem PA.imp {X : Cx} {e : List Expr} {t t' : TA} (h : PA X e t) (w : ∀ σ H Q, t' σ H Q → t σ H Q) : PA X e t' := ⟨fun pos pins s σ H Q I q => h.run pos pins s σ H Q I (w σ H Q q)⟩
theorem PS.imp {X : Cx} {e : Stmt} {t t' : TS} (h : PS X e t) (w : ∀ D σ H, t' D σ H → t D σ H) : PS X e t' := ⟨fun pins s σ H D I q => h.run pins s σ H D I (w D σ H q)⟩
theorem PSs.imp {X : Cx} {e : List Stmt} {t t' : TS} (h : PSs X e t) (w : ∀ D σ H, t' D σ H → t D σ H) : PSs X e t' := ⟨fun pins s σ H D I q => h.run pins s σ H D I (w D σ H q)⟩
theorem PG.imp {X : Cx} {e : Expr} {t t' : TG} (h : PG X e t) (w : ∀ v σ H Q, t' v σ H Q → t v σ H Q) : PG X e t' := ⟨fun pins s σ H v u Q I r q => h.run pins s σ H v u Q I r (w v σ H Q q)⟩

abbrev Er := Str → List (Str × D) → Value → Option Addr → Hp → Prop
/-- how a result of a def is right -/
def RGood (K : PySem.W.Frag) (er : Er) (F : Fp) (H : Hp) (vs : List V) (r : Res) (Q : VK) (E : XK) : Prop := match r with
  | .ret d fin => ∀ v H' Fv Ff, Keep F H H' → Fr F H Fv → Fr F H Ff → Dis Ff Fv → Rp K H' d v Fv → Ens K H' fin (vs.map some) Ff → Q v H'
  | .exc c fs => ∀ cls dx H', Keep F H H' → er c fs cls dx H' → E cls dx H'
  | .stuck => False
def SpD (K : PySem.W.Frag) (er : Er) (np : Nat) (g : List D → Res) : Sp := fun vs H Q E => vs.length = np ∧ ∃ ds F, Rps K H ds vs F ∧ RGood K er F H vs (g ds) Q E

/-- the promise of an own exception's __init__ that lays its parameters into fields -/
def spI (Ca : Addr) (ps : List Str) : Sp := fun us H Q _ => ∃ (a : Addr) (ws : List V), us = .ref a :: ws ∧ ws.length = ps.length ∧ H a = some (exo a Ca none) ∧
  ∀ (d : Addr) (fs : List (Str × V)) (H' : Hp), H d = none → d ≠ a → H' a = some (exo a Ca (some d)) → H' d = some (exd d fs) → (∀ f, fs.lookup f = (ps.zip ws).lookup f) → (∀ b, b ≠ a → b ≠ d → H' b = H b) → Q .non H'
/-- an own exception class -/
structure ExcX (X : Cx) (x : Str) (ps : List Str) (er : Er) (EX : XK) : Prop where
  ex : ∃ (Ca fI : Addr) (fd : FuncData) (k : Nat), OexC X.K Ca ∧ PySem.W.findIn X.K (.ref Ca) "__init__" = some (some (.ref fI)) ∧ PySem.W.typeIn X.K (.ref fI) = some (.type "function") ∧ FnOk X.prog X.w X.K X.mg X.base CX0 k fI fd ("self" :: ps) (spI Ca ps) ∧ Room (k + 1) X.A ∧
    Binds X.K fd ("self" :: ps) [] ∧ X.mg x = some (.ref Ca) ∧ ∀ (ds : List D) (vs : List V) (d : Addr) (fs : List (Str × V)) (H : Hp), ds.length = ps.length → D.pus ds = true → Rps X.K H ds vs F0 → H d = some (.xd fs) → (∀ f, fs.lookup f = (ps.zip vs).lookup f) → er x (ps.zip ds) (.ref Ca) (some d) H
  tk : Takes X fun cls d _ H => EX cls d H
/-- what of the context is asked -/
structure Cok (X : Cx) (C : Cd) (sc : Scope) (cx : CXT) (er : Er) (EX : XK) : Prop where
  hN : X.N = C.N
  nd : X.N.Nodup
  hsc : X.env.scope = sc
  calm : X.calm = true
  own : ∀ x, C.own x = true → locl sc x = true → X.fn x = true ∨ X.env.scope.names.lookup x = some .local
  bi : ∀ x, C.glo x = .bi → X.mg x = none
  con : ∀ x d, C.glo x = .con d → d.pu = true ∧ ∃ u v, X.mg x = some u ∧ RelV v u ∧ ∀ H, Rp X.K H d v F0
  kd : ∀ x kvs, C.glo x = .kd kvs → ∃ a es n, X.mg x = some (.ref a) ∧ KDict X.K X.w a es n ∧ ∀ z, ∃ r, PySem.W.nsIn X.K a z = some r ∧ (match kvs.lookup z with
    | none => r = none
    | some d => d.pu = true ∧ ∃ u v, r = some u ∧ RelV v u ∧ ∀ H, Rp X.K H d v F0)
  fn : ∀ x n, C.glo x = .fn n → ∃ (f : Addr) (k : Nat) (fd : FuncData) (ps : List Str), ps.length = n ∧ FnOk X.prog X.w X.K X.mg X.base cx k f fd ps (SpD X.K er n (C.call x)) ∧ Room k X.A ∧ X.mg x = some (.ref f) ∧ PySem.W.keepIn X.K (.ref f) = true ∧ Binds X.K fd ps [] ∧ PySem.W.nsIn X.K mainGlobals x = some (some (.ref f))
  mth : ∀ x id, C.glo x = .mth id → X.mg x = some (.builtin id)
  pas : PassesOwn (model X.prog X.w) X.A X.env X.xe
  thr : Passes cx X EX
  cxn : ∀ st H s e s', cx st H s (fun _ _ _ => False) e s' → False
  room : X.A.units + 65 < cLine
  lim : LimOk X.K C.lim
  cls : ∀ x ps, C.glo x = .cls ps → ExcX X x ps er EX
/-- the context with what is wanted at the end -/
structure Okx (X : Cx) (C : Cd) (sc : Scope) (cx : CXT) (er : Er) (EX : XK) (G : Res → Prop) (A0 : Fp) (H0 : Hp) : Prop extends Cok X C sc cx er EX where
  hG : ¬ G .stuck
  xco : ∀ c fs ρ, G (C.xc c fs ρ) → ∀ cls dx H', Keep A0 H0 H' → er c fs cls dx H' → EX cls dx H'

/-- nothing becomes written that was not -/
def Imp (ρ ρ' : Env) : Prop := ∀ (i : Nat) d', ρ'[i]? = some (some d') → d'.pu = false → ∃ d, ρ[i]? = some (some d) ∧ d.pu = false
theorem Imp.refl (ρ : Env) : Imp ρ ρ := fun i d h p => ⟨d, h, p⟩
theorem Imp.trans {a b c : Env} (h : Imp a b) (g : Imp b c) : Imp a c := fun i d e p => by
  obtain ⟨d1, e1, p1⟩ := g i d e p
  exact h i d1 e1 p1
/-- from (F, H, ρ) on to (F', H', ρ'), the slots' addresses being σ -/
structure Ch (K : PySem.W.Frag) (σ : L2.St) (F : Fp) (H : Hp) (ρ : Env) (F' : Fp) (H' : Hp) (ρ' : Env) : Prop where
  kp : Keep F H H'
  im : Imp ρ ρ'
  fr : Fr F H F'
  en : Ens K H' ρ' σ F'
  tr : ∀ a, F' a → H' a ≠ none
/-- a value that stands apart from the slots -/
structure OwnV (K : PySem.W.Frag) (F : Fp) (H : Hp) (Fe : Fp) (d : D) (v : V) (H' : Hp) (Fv : Fp) : Prop where
  fr : Fr F H Fv
  dj : Dis Fe Fv
  rp : Rp K H' d v Fv
  tr : ∀ a, Fv a → H' a ≠ none
section
variable {K : PySem.W.Frag} {σ : L2.St} {F F1 F2 F3 : Fp} {H H1 H2 H3 : Hp} {ρ ρ1 ρ2 : Env} {d : D} {v : V}
theorem Ch.refl (en : Ens K H ρ σ F) : Ch K σ F H ρ (fun a => F a ∧ H a ≠ none) H ρ :=
  ⟨Keep.refl _ _, Imp.refl _, fun _ h => .inl h.1, Ens.trim _ _ _ en, fun _ h => h.2⟩
theorem Ch.trans (a : Ch K σ F H ρ F1 H1 ρ1) (b : Ch K σ F1 H1 ρ1 F2 H2 ρ2) : Ch K σ F H ρ F2 H2 ρ2 :=
  ⟨a.kp.trans b.kp a.fr, a.im.trans b.im, a.fr.trans a.kp b.fr, b.en, b.tr⟩
/-- the heap grows, nothing is written -/
theorem Ch.grow (a : Ch K σ F H ρ F1 H1 ρ1) (k : Keep F0 H1 H2) : Ch K σ F H ρ F1 H2 ρ1 :=
  ⟨a.kp.trans (k.mono fun _ z => z.elim) a.fr, a.im, a.fr, Ens.stay k _ _ _ (fun _ _ z => z) a.en, fun x h e => a.tr x h (k.g x e)⟩
theorem OwnV.of (fr : Fr F H F2) (dj : Dis F1 F2) (rp : Rp K H1 d v F2) : OwnV K F H F1 d v H1 (fun a => F2 a ∧ H1 a ≠ none) :=
  ⟨fun x h => fr x h.1, fun x h g => dj x h g.1, Rp.trim _ _ _ rp, fun _ h => h.2⟩
theorem OwnV.pure {Fx : Fp} (rp : Rp K H1 d v Fx) (p : d.pu = true) : OwnV K F H F1 d v H1 F0 :=
  ⟨fun _ h => h.elim, fun _ _ h => h, Rp.pure _ _ _ p rp, fun _ h => h.elim⟩
/-- a value kept while the next part runs -/
theorem OwnV.held (o : OwnV K F H F1 d v H1 F3) (c : Ch K σ F1 H1 ρ1 F2 H2 ρ2) : OwnV K F H F2 d v H2 F3 :=
  ⟨o.fr, fun a h g => (c.fr a h).elim (fun z => o.dj a z g) fun z => o.tr a g z, Rp.stay c.kp _ _ _ (fun a h g => o.dj a g h) o.rp, fun a h e => o.tr a h (c.kp.g a e)⟩
theorem OwnV.grow (o : OwnV K F H F1 d v H1 F3) (k : Keep F0 H1 H2) : OwnV K F H F1 d v H2 F3 :=
  ⟨o.fr, o.dj, Rp.stay k _ _ _ (fun _ _ z => z) o.rp, fun a h e => o.tr a h (k.g a e)⟩
/-- a new value behind a chain -/
theorem Ch.val (a : Ch K σ F H ρ F1 H1 ρ1) (k : Keep F0 H1 H2) (fr : Fr F0 H1 F2) (rp : Rp K H2 d v F2) : OwnV K F H F1 d v H2 (fun a => F2 a ∧ H2 a ≠ none) :=
  OwnV.of (fun x h => (fr x h).elim (fun z => z.elim) fun z => .inr (a.kp.g x z)) (fun x h g => (fr x g).elim (fun z => z) fun z => a.tr x h z) rp
/-- the start, seen from afar -/
theorem Ch.keep {A0 : Fp} {H0 : Hp} (a : Ch K σ F H ρ F1 H1 ρ1) (k : Keep A0 H0 H) (f : Fr A0 H0 F) : Keep A0 H0 H1 := k.trans a.kp f
theorem Ch.from {A0 : Fp} {H0 : Hp} (a : Ch K σ F H ρ F1 H1 ρ1) (k : Keep A0 H0 H) (f : Fr A0 H0 F) : Fr A0 H0 F1 := f.trans k a.fr
end

/-- a value's two ways: it is lent by the slots, or stands apart -/
def Val2 (K : PySem.W.Frag) (pth : Bool) (F : Fp) (H : Hp) (Fe : Fp) (d : D) (v : V) (H' : Hp) : Prop := (pth = true ∧ Rp K H' d v Fe) ∨ ∃ Fv, OwnV K F H Fe d v H' Fv
theorem Val2.any {K : PySem.W.Frag} {pth : Bool} {F Fe : Fp} {H H' : Hp} {d : D} {v : V} (h : Val2 K pth F H Fe d v H') : ∃ F', Rp K H' d v F' := by
  rcases h with ⟨_, h⟩ | ⟨Fv, h⟩
  · exact ⟨_, h⟩
  · exact ⟨_, h.rp⟩
theorem Val2.own {K : PySem.W.Frag} {pth : Bool} {F Fe : Fp} {H H' : Hp} {d : D} {v : V} (h : Val2 K pth F H Fe d v H') (p : pth = true → d.pu = true) : ∃ Fv, OwnV K F H Fe d v H' Fv := by
  rcases h with ⟨e, h⟩ | h
  · exact ⟨F0, OwnV.pure h (p e)⟩
  · exact h
abbrev Ek := Env → (D → Env → Res) → Res
def RdE (K : PySem.W.Frag) (G : Res → Prop) (A0 : Fp) (H0 : Hp) (pth cal : Bool) (f : Ek) : TE := fun σ H Q => ∃ ρ k F, Keep A0 H0 H ∧ Fr A0 H0 F ∧ Ens K H ρ σ F ∧ G (f ρ k) ∧
  ∀ d ρ' v H' Fe, Ch K σ F H ρ Fe H' ρ' → Val2 K pth F H Fe d v H' → (cal = true → H' = H ∧ ρ' = ρ) → G (k d ρ') → Q v H'
def RdT (K : PySem.W.Frag) (G : Res → Prop) (A0 : Fp) (H0 : Hp) (f : Env → (Bool → Env → Res) → Res) : TT := fun σ H Q => ∃ ρ k F, Keep A0 H0 H ∧ Fr A0 H0 F ∧ Ens K H ρ σ F ∧ G (f ρ k) ∧
  ∀ b ρ' H' Fe, Ch K σ F H ρ Fe H' ρ' → G (k b ρ') → Q b H'
/-- arguments: names' slots, values that stand apart, a last one that is lent -/
def ArgR (K : PySem.W.Frag) (H : Hp) (σ : L2.St) : List Arg → List V → Fp → Prop
  | [], vs, _ => vs = []
  | .nm i :: as, vs, F => ∃ v ws, vs = v :: ws ∧ σ[i]? = some (some v) ∧ ArgR K H σ as ws F
  | .own d :: as, vs, F => ∃ v ws G1 G2, vs = v :: ws ∧ Rp K H d v G1 ∧ ArgR K H σ as ws G2 ∧ (∀ a, G1 a → F a) ∧ (∀ a, G2 a → F a) ∧ Dis G1 G2
  | .bor d :: as, vs, F => ∃ v ws F', vs = v :: ws ∧ Rp K H d v F' ∧ ArgR K H σ as ws F
def RdA (K : PySem.W.Frag) (G : Res → Prop) (A0 : Fp) (H0 : Hp) (f : Env → (List Arg → Env → Res) → Res) : TA := fun σ H Q => ∃ ρ k F, Keep A0 H0 H ∧ Fr A0 H0 F ∧ Ens K H ρ σ F ∧ G (f ρ k) ∧
  ∀ as ρ' vs H' Fe Fv, Ch K σ F H ρ Fe H' ρ' → Fr F H Fv → Dis Fe Fv → (∀ a, Fv a → H' a ≠ none) → ArgR K H' σ as vs Fv → G (k as ρ') → Q vs H'
/-- an own parameter's object is at its place -/
def Par (np : Nat) (vs : List V) (σ : L2.St) (ρ : Env) : Prop := ∀ (i : Nat) d, i < np → ρ[i]? = some (some d) → d.pu = false → ∃ v, vs[i]? = some v ∧ σ[i]? = some (some v)
theorem Par.imp {np : Nat} {vs : List V} {σ : L2.St} {ρ ρ' : Env} (h : Par np vs σ ρ) (i : Imp ρ ρ') : Par np vs σ ρ' := fun j d hj e p => by
  obtain ⟨d0, e0, p0⟩ := i j d e p
  exact h j d0 hj e0 p0
/-- stores go to the slots of own names -/
def Sl (C : Cd) (sc : Scope) (σ σ' : L2.St) : Prop := σ'.length = σ.length ∧ ∀ j, σ'[j]? ≠ σ[j]? → ∃ x, C.own x = true ∧ locl sc x = true ∧ slotOf C sc x = some j
def RdG (K : PySem.W.Frag) (G : Res → Prop) (C : Cd) (sc : Scope) (f : D → Env → (Env → Res) → Res) : TG := fun v σ H Q => ∃ ρ k F d Fv, Ens K H ρ σ F ∧ Rp K H d v Fv ∧ Dis F Fv ∧ G (f d ρ k) ∧
  ∀ ρ' σ' F', (∀ a, F' a → F a ∨ Fv a) → Ens K H ρ' σ' F' → Sl C sc σ σ' → (d.pu = true → Imp ρ ρ') → (∀ vs, Par C.np vs σ ρ → Par C.np vs σ' ρ') → G (k ρ') → Q σ' H
structure NxOk (K : PySem.W.Frag) (G : Res → Prop) (np : Nat) (vs : List V) (F : Fp) (H : Hp) (E : Nx) (D : Ends) : Prop where
  nx : ∀ ρ' σ' H' F', Keep F H H' → Fr F H F' → Ens K H' ρ' σ' F' → Par np vs σ' ρ' → G (E.nx ρ') → D.nx σ' H'
  bk : ∀ ρ' σ' H' F', Keep F H H' → Fr F H F' → Ens K H' ρ' σ' F' → Par np vs σ' ρ' → G (E.bk ρ') → D.bk σ' H'
  ct : ∀ ρ' σ' H' F', Keep F H H' → Fr F H F' → Ens K H' ρ' σ' F' → Par np vs σ' ρ' → G (E.ct ρ') → D.ct σ' H'
  rt : ∀ d ρ' σ' v H' F' Fv, Keep F H H' → Fr F H F' → Fr F H Fv → Dis F' Fv → Ens K H' ρ' σ' F' → Par np vs σ' ρ' → Rp K H' d v Fv → G (E.rt d ρ') → D.rt v H'
def RdS (K : PySem.W.Frag) (G : Res → Prop) (A0 : Fp) (H0 : Hp) (np : Nat) (vs : List V) (f : Env → Nx → Res) : TS := fun D σ H => ∃ ρ E F, Keep A0 H0 H ∧ Fr A0 H0 F ∧ Ens K H ρ σ F ∧ Par np vs σ ρ ∧ G (f ρ E) ∧ NxOk K G np vs F H E D

/-- the parts are right -/
structure Snd (R : Fns) : Prop where
  E : ∀ {X C sc cx er EX G A0 H0}, Okx X C sc cx er EX G A0 H0 → ∀ e, PE X e (RdE X.K G A0 H0 (isPath e) (isCalm e) (R.E C sc e))
  T : ∀ {X C sc cx er EX G A0 H0}, Okx X C sc cx er EX G A0 H0 → ∀ e, PT X e (RdT X.K G A0 H0 (R.T C sc e))
  W : ∀ {X C sc cx er EX G A0 H0}, Okx X C sc cx er EX G A0 H0 → ∀ op vs p, PW X (.BoolOp op vs p) (RdT X.K G A0 H0 (R.T C sc (.BoolOp op vs p)))
  A : ∀ {X C sc cx er EX G A0 H0}, Okx X C sc cx er EX G A0 H0 → ∀ es, PA X es (RdA X.K G A0 H0 (R.A C sc es))
  P : ∀ {X C sc cx er EX G A0 H0}, Okx X C sc cx er EX G A0 H0 → ∀ e, PET X e (RdE X.K G A0 H0 (isPath e) (isCalm e) (R.P C sc e))
  G : ∀ {X C sc cx er EX G A0 H0}, Okx X C sc cx er EX G A0 H0 → ∀ e, PG X e (RdG X.K G C sc (R.G C sc e))
  S : ∀ {X C sc cx er EX G A0 H0}, Okx X C sc cx er EX G A0 H0 → ∀ vs ss, PSs X ss (RdS X.K G A0 H0 C.np vs (R.S C sc ss))

/-! ### small matters -/
theorem okName_of {x : Str} (h : okName x = true) : (x == ("__debug__" : Str)) = false ∧ (x == ("__classdict__" : Str)) = false ∧ x ≠ "__name__" := by
  unfold okName at h
  rw [Bool.and_eq_true, Bool.and_eq_true, Bool.not_eq_true', Bool.not_eq_true', Bool.not_eq_true'] at h
  exact ⟨h.1.1, h.1.2, fun e => by rw [e] at h; exact absurd h.2 (by simp)⟩
theorem ixOf_get : ∀ {l : List Str} {x : Str} {i : Nat}, ixOf l x = some i → l[i]? = some x
  | [], x, i, h => by cases h
  | y :: l, x, i, h => by
    unfold ixOf at h
    by_cases e : y = x
    · rw [if_pos e] at h; cases h; rw [e]; rfl
    · rw [if_neg e] at h
      cases q : ixOf l x with
      | none => rw [q] at h; cases h
      | some j =>
        rw [q] at h; cases h
        show l[j]? = some x
        exact ixOf_get (l := l) q
theorem slotOf_of {C : Cd} {sc : Scope} {x : Str} {i : Nat} (h : slotOf C sc x = some i) : C.N[i]? = some x ∧ (sc.names.lookup x = some .local ∨ sc.names.lookup x = some .cell ∨ sc.names.lookup x = some .free) ∧ okName x = true := by
  unfold slotOf at h
  by_cases e : (vis sc x && okName x) = true
  · rw [if_pos e] at h
    rw [Bool.and_eq_true] at e
    refine ⟨ixOf_get h, ?_, e.2⟩
    have := e.1
    unfold vis at this
    split at this
    · exact .inl (by assumption)
    · exact .inr (.inl (by assumption))
    · exact .inr (.inr (by assumption))
    · cases this
  · rw [if_neg e] at h; cases h
theorem locl_of {sc : Scope} {x : Str} (h : locl sc x = true) : sc.names.lookup x = some .local ∨ sc.names.lookup x = some .cell := by
  unfold locl at h
  split at h
  · exact .inl (by assumption)
  · exact .inr (by assumption)
  · cases h
theorem globOf_of {C : Cd} {sc : Scope} {x : Str} {g : Glo} (h : globOf C sc x = g) (hg : g ≠ .no) : sc.names.lookup x = some .globalImplicit ∧ okName x = true ∧ C.glo x = g := by
  unfold globOf at h
  split at h
  · by_cases e : okName x = true
    · rw [if_pos e] at h
      exact ⟨by assumption, e, h⟩
    · rw [if_neg e] at h
      exact absurd h.symm hg
  · exact absurd h.symm hg
theorem isBi_of {C : Cd} {sc : Scope} {x : Str} (h : isBi C sc x = true) : sc.names.lookup x = some .globalImplicit ∧ okName x = true ∧ C.glo x = .bi := by
  unfold isBi at h
  split at h
  · exact globOf_of (by assumption) (fun z => nomatch z)
  · cases h
theorem isFn_of {C : Cd} {sc : Scope} {x : Str} {n : Nat} (h : isFn C sc x = some n) : sc.names.lookup x = some .globalImplicit ∧ okName x = true ∧ C.glo x = .fn n := by
  unfold isFn at h
  split at h
  · cases h
    exact globOf_of (by assumption) (fun z => nomatch z)
  · cases h
section
variable {X : Cx} {C : Cd} {sc : Scope} {cx : CXT} {er : Er} {EX : XK} {G : Res → Prop} {A0 : Fp} {H0 : Hp}
theorem Cok.visx (o : Cok X C sc cx er EX) {x : Str} {i : Nat} (h : slotOf C sc x = some i) : X.N[i]? = some x ∧ Vis X.env.scope x ∧ (x == ("__debug__" : Str)) = false ∧ (x == ("__classdict__" : Str)) = false := by
  obtain ⟨h1, h2, h3⟩ := slotOf_of h
  obtain ⟨n1, n2, _⟩ := okName_of h3
  refine ⟨by rw [o.hN]; exact h1, by rw [o.hsc]; exact h2, n1, n2⟩
theorem Cok.glx (o : Cok X C sc cx er EX) {x : Str} (h : sc.names.lookup x = some .globalImplicit) : Gl X x := by
  show X.env.scope.names.lookup x = _
  rw [o.hsc]; exact h
theorem Val2.hold {K : PySem.W.Frag} {hG : ¬ G .stuck} {σ : L2.St} {F Fe : Fp} {H H1 : Hp} {ρ1 : Env} {d : D} {v : V} {e1 e2 : Expr} {r : Res} (h : Val2 K (isPath e1) F H Fe d v H1) (g : G (holdK e1 d e2 r)) :
    G r ∧ ((∃ Fv, OwnV K F H Fe d v H1 Fv) ∨ (isCalm e2 = true ∧ ∃ F', Rp K H1 d v F')) := by
  unfold holdK at g
  by_cases e : (isPath e1 && !isCalm e2) = true
  · rw [if_pos e] at g
    obtain ⟨p, g⟩ := puK_of hG g
    exact ⟨g, .inl (h.own fun _ => p)⟩
  · rw [if_neg e] at g
    refine ⟨g, ?_⟩
    rcases h with ⟨z, h⟩ | h
    · cases hc : isCalm e2 with
      | true => exact .inr ⟨rfl, _, h⟩
      | false => rw [z, hc] at e; exact absurd rfl e
    · exact .inl h
/-- what was kept is still what it was -/
theorem kept2 {K : PySem.W.Frag} {σ : L2.St} {F Fe Fe2 : Fp} {H H1 H2 : Hp} {ρ1 ρ2 : Env} {d : D} {v : V} {cal : Bool} (h : (∃ Fv, OwnV K F H Fe d v H1 Fv) ∨ (cal = true ∧ ∃ F', Rp K H1 d v F'))
    (c : Ch K σ Fe H1 ρ1 Fe2 H2 ρ2) (hc : cal = true → H2 = H1 ∧ ρ2 = ρ1) : ∃ F', Rp K H2 d v F' := by
  rcases h with ⟨Fv, h⟩ | ⟨z, F', h⟩
  · exact ⟨_, (h.held c).rp⟩
  · rw [(hc z).1]; exact ⟨F', h⟩
/-- a value's end -/
theorem vend {K : PySem.W.Frag} {σ : L2.St} {F F2 : Fp} {H H2 : Hp} {ρ ρ2 : Env} {k : D → Env → Res} {Q : VK}
    (c : Ch K σ F H ρ F2 H2 ρ2) (q : ∀ d ρ' v H' Fe, Ch K σ F H ρ Fe H' ρ' → Val2 K false F H Fe d v H' → (false = true → H' = H ∧ ρ' = ρ) → G (k d ρ') → Q v H') : VRes G K (fun d => k d ρ2) H2 Q :=
  fun d v H3 Fv kp fr rp g => q d ρ2 v H3 F2 (c.grow kp) (.inr ⟨_, c.val kp fr rp⟩) (fun z => nomatch z) g
variable {R : Fns} (S : Snd R) (o : Okx X C sc cx er EX G A0 H0)
include S o

/-! ### names, constants -/
omit S in
theorem e_name (x : Str) (p : Pos) : PE X (.Name x p) (RdE X.K G A0 H0 true true (nameE C sc x)) := by
  cases hs : slotOf C sc x with
  | some i =>
    obtain ⟨h1, h2, h3, h4⟩ := o.toCok.visx hs
    refine PE.imp (pe_var (i := i) h1 h2 h3 h4) fun σ H Q ⟨ρ, k, F, k0, f0, en, g, q⟩ => ?_
    unfold nameE at g
    rw [hs] at g
    obtain ⟨d, hd, g⟩ := getK_of o.hG g
    have c := Ch.refl en
    obtain ⟨v, hv, r⟩ := Ens.get _ _ _ _ _ c.en hd
    exact ⟨v, hv, q d ρ v H _ c (.inl ⟨rfl, r⟩) (fun _ => ⟨rfl, rfl⟩) g⟩
  | none =>
    cases hg : globOf C sc x with
    | con d =>
      obtain ⟨g1, g2, g3⟩ := globOf_of hg (fun z => nomatch z)
      obtain ⟨n1, n2, n3⟩ := okName_of g2
      obtain ⟨pu, u, v, hm, rv, rp⟩ := o.con x d g3
      refine PE.imp (pe_glob (o.toCok.glx g1) hm rv n1) fun σ H Q ⟨ρ, k, F, k0, f0, en, g, q⟩ => ?_
      unfold nameE at g
      rw [hs, hg] at g
      exact q d ρ v H _ (Ch.refl en) (.inr ⟨_, OwnV.pure (rp H) pu⟩) (fun _ => ⟨rfl, rfl⟩) g
    | bi =>
      cases hi : isiCls x with
      | none =>
        refine ⟨fun pins s σ H Q I ⟨ρ, k, F, k0, f0, en, g, q⟩ => ?_⟩
        unfold nameE at g
        rw [hs, hg, hi] at g
        exact absurd g o.hG
      | some n =>
        obtain ⟨b1, b2⟩ := isiCls_of hi
        obtain ⟨g1, g2, g3⟩ := globOf_of hg (fun z => nomatch z)
        obtain ⟨n1, n2, n3⟩ := okName_of g2
        refine PE.imp (pe_bltn (v := .ty n) (o.toCok.glx g1) (o.bi _ g3) b1 rfl n3 n1) fun σ H Q ⟨ρ, k, F, k0, f0, en, g, q⟩ => ?_
        unfold nameE at g
        rw [hs, hg, hi] at g
        exact q (.ty n) ρ (.ty n) H _ (Ch.refl en) (.inr ⟨F0, OwnV.pure (Fx := F0) rfl rfl⟩) (fun _ => ⟨rfl, rfl⟩) g
    | fn n =>
      obtain ⟨g1, g2, g3⟩ := globOf_of hg (fun z => nomatch z)
      obtain ⟨n1, n2, n3⟩ := okName_of g2
      obtain ⟨fa, lv, fd, ps, hl, F1, hr, hm, hk, hb, hns⟩ := o.fn x n g3
      refine PE.imp (pe_glob (v := .ref fa) (o.toCok.glx g1) hm rfl n1) fun σ H Q ⟨ρ, k, F, k0, f0, en, g, q⟩ => ?_
      unfold nameE at g
      rw [hs, hg] at g
      exact q (.fnv x) ρ (.ref fa) H _ (Ch.refl en) (.inr ⟨F0, OwnV.pure (Fx := F0) ⟨fa, rfl, hns⟩ rfl⟩) (fun _ => ⟨rfl, rfl⟩) g
    | _ =>
      refine ⟨fun pins s σ H Q I ⟨ρ, k, F, k0, f0, en, g, q⟩ => ?_⟩
      unfold nameE at g
      rw [hs, hg] at g
      exact absurd g o.hG
omit S in
theorem e_const (c : Const) (j : Nat) (p : Pos) : PE X (.Constant c j p) (RdE X.K G A0 H0 false true (fun ρ k => constE c fun d => k d ρ)) := by
  have fin : ∀ {σ : L2.St} {H : Hp} {Q : VK} {d : D} {v : V}, (∀ H, Rp X.K H d v F0) → RdE X.K G A0 H0 false true (fun ρ k => k d ρ) σ H Q → Q v H := fun {σ H Q d v} r ⟨ρ, k, F, k0, f0, en, g, q⟩ =>
    q d ρ v H _ (Ch.refl en) (.inr ⟨F0, fun _ h => h.elim, fun _ _ h => h, r H, fun _ h => h.elim⟩) (fun _ => ⟨rfl, rfl⟩) g
  cases c with
  | int i => exact PE.imp pe_int fun σ H Q h => fin (d := .int i) (fun _ => rfl) h
  | bool i => exact PE.imp pe_bl fun σ H Q h => fin (d := .bl i) (fun _ => rfl) h
  | none => exact PE.imp pe_non fun σ H Q h => fin (d := .non) (fun _ => rfl) h
  | str i => exact PE.imp pe_str fun σ H Q h => fin (d := .str i) (fun _ => rfl) h
  | _ => exact ⟨fun pins s σ H Q I ⟨ρ, k, F, k0, f0, en, g, q⟩ => absurd g o.hG⟩
omit S in
theorem e_stuck {e : Expr} {pth cal : Bool} : PE X e (RdE X.K G A0 H0 pth cal (fun _ _ => .stuck)) := ⟨fun pins s σ H Q I ⟨ρ, k, F, k0, f0, en, g, q⟩ => absurd g o.hG⟩

/-! ### operators -/
theorem e_binop (a b : Expr) (op : Operator) (p : Pos) :
    PE X (.BinOp a op b p) (RdE X.K G A0 H0 false false (fun ρ k => R.E C sc a ρ fun x ρ1 => holdK a x b (R.E C sc b ρ1 fun y ρ2 => binD op x y fun z => k z ρ2))) := by
  refine PE.imp (pe_op (op_binD o.hG op) (S.E o a) (S.E o b)) fun σ H Q ⟨ρ, k, F, k0, f0, en, g, q⟩ => ?_
  refine ⟨ρ, _, F, k0, f0, en, g, fun d ρ1 v H1 Fe c1 v1 _ g1 => ?_⟩
  obtain ⟨g1, hh⟩ := Val2.hold (hG := o.hG) (σ := σ) (ρ1 := ρ1) v1 g1
  refine ⟨ρ1, _, Fe, c1.keep k0 f0, c1.from k0 f0, c1.en, g1, fun d2 ρ2 v2 H2 Fe2 c2 v2' cal2 g2 => ?_⟩
  obtain ⟨Fx, hx⟩ := kept2 hh c2 cal2
  obtain ⟨Fy, hy⟩ := v2'.any
  exact ⟨d, d2, Fx, Fy, _, hx, hy, g2, vend (c1.trans c2) q⟩
theorem e_neg (a : Expr) (p : Pos) : PE X (.UnaryOp .USub a p) (RdE X.K G A0 H0 false false (fun ρ k => R.E C sc a ρ fun x ρ1 => dNeg x fun z => k z ρ1)) := by
  refine PE.imp (pe_un (un_negD o.hG) (S.E o a)) fun σ H Q ⟨ρ, k, F, k0, f0, en, g, q⟩ => ?_
  refine ⟨ρ, _, F, k0, f0, en, g, fun d ρ1 v H1 Fe c1 v1 _ g1 => ?_⟩
  obtain ⟨Fx, hx⟩ := v1.any
  exact ⟨d, Fx, _, hx, g1, vend c1 q⟩
end
end TI
set_option Elab.async false
set_option linter.all false
set_option maxRecDepth 100000
set_option maxHeartbeats 4000000
/-! arguments, displays, calls -/
namespace TI
open PySem PySem.Spec PyProof.Rows L2

theorem star_cons {e : Expr} {es : List Expr} (h : noStar (e :: es) = true) (env : PySem.Env) : starEach (e :: es) env = (false, eval e env) :: starEach es env ∧ noStar es = true := by
  cases e <;> first
    | exact ⟨rfl, h⟩
    | cases h
theorem star_any : ∀ {es : List Expr} (h : noStar es = true) (pos : Pos) (env : PySem.Env), (backTo pos (starEach es env)).any (·.1) = false
  | [], _, _, _ => rfl
  | e :: es, h, pos, env => by
    obtain ⟨h1, h2⟩ := star_cons h env
    rw [h1]
    show (false || (backTo pos (starEach es env)).any (·.1)) = false
    rw [star_any h2 pos env]
    rfl
theorem star_all : ∀ {es : List Expr} (h : noStar es = true) (pos : Pos) (env : PySem.Env), (backTo pos (starEach es env)).all (fun x => !x.1) = true
  | [], _, _, _ => rfl
  | e :: es, h, pos, env => by
    obtain ⟨h1, h2⟩ := star_cons h env
    rw [h1]
    show (true && (backTo pos (starEach es env)).all (fun x => !x.1)) = true
    rw [star_all h2 pos env]
    rfl
section
variable {K : PySem.W.Frag} {H H' : Hp} {σ : L2.St} {G : Res → Prop}
theorem ArgR.length : ∀ {as : List Arg} {vs : List V} {F : Fp}, ArgR K H σ as vs F → vs.length = as.length
  | [], vs, F, h => by rw [show vs = [] from h]; rfl
  | .nm i :: as, vs, F, h => by
    obtain ⟨v, ws, rfl, _, h⟩ := h
    rw [List.length_cons, List.length_cons, ArgR.length h]
  | .own d :: as, vs, F, h => by
    obtain ⟨v, ws, G1, G2, rfl, _, h, _⟩ := h
    rw [List.length_cons, List.length_cons, ArgR.length h]
  | .bor d :: as, vs, F, h => by
    obtain ⟨v, ws, F', rfl, _, h⟩ := h
    rw [List.length_cons, List.length_cons, ArgR.length h]
theorem ArgR.mono : ∀ {as : List Arg} {vs : List V} {F F' : Fp}, ArgR K H σ as vs F → (∀ a, F a → F' a) → ArgR K H σ as vs F'
  | [], vs, F, _, h, _ => h
  | .nm i :: as, vs, F, _, h, s => by
    obtain ⟨v, ws, e, hv, h⟩ := h
    exact ⟨v, ws, e, hv, h.mono s⟩
  | .own d :: as, vs, F, _, h, s => by
    obtain ⟨v, ws, G1, G2, e, r, h, s1, s2, dj⟩ := h
    exact ⟨v, ws, G1, G2, e, r, h, fun a q => s a (s1 a q), fun a q => s a (s2 a q), dj⟩
  | .bor d :: as, vs, F, _, h, s => by
    obtain ⟨v, ws, F', e, r, h⟩ := h
    exact ⟨v, ws, F', e, r, h.mono s⟩
/-- arguments as values to be laid into a new object -/
theorem resP_of (hG : ¬ G .stuck) : ∀ {as : List Arg} {vs : List V} {F Fe : Fp} {ρ : Env} {k : List D → Res}, ArgR K H σ as vs F → Ens K H ρ σ Fe → G (resP as ρ k) → ∃ ds, Rps K H ds vs F ∧ G (k ds)
  | [], vs, F, Fe, ρ, k, h, en, g => ⟨[], h, g⟩
  | .nm i :: as, vs, F, Fe, ρ, k, h, en, g => by
    obtain ⟨v, ws, rfl, hv, h⟩ := h
    obtain ⟨d, hd, g⟩ := getK_of hG g
    obtain ⟨p, g⟩ := puK_of hG g
    obtain ⟨v', hv', r⟩ := Ens.get _ _ _ _ _ en hd
    rw [hv] at hv'; cases hv'
    obtain ⟨ds, hds, g⟩ := resP_of hG h en g
    exact ⟨d :: ds, ⟨v, ws, F0, F, rfl, Rp.pure _ _ _ p r, hds, fun _ z => z.elim, fun _ z => z, fun _ z => z.elim⟩, g⟩
  | .own d :: as, vs, F, Fe, ρ, k, h, en, g => by
    obtain ⟨v, ws, G1, G2, rfl, r, h, s1, s2, dj⟩ := h
    obtain ⟨ds, hds, g⟩ := resP_of hG h en g
    exact ⟨d :: ds, ⟨v, ws, G1, G2, rfl, r, hds, s1, s2, dj⟩, g⟩
  | .bor d :: as, vs, F, Fe, ρ, k, h, en, g => by
    obtain ⟨v, ws, F', rfl, r, h⟩ := h
    obtain ⟨p, g⟩ := puK_of hG g
    obtain ⟨ds, hds, g⟩ := resP_of hG h en g
    exact ⟨d :: ds, ⟨v, ws, F0, F, rfl, Rp.pure _ _ _ p r, hds, fun _ z => z.elim, fun _ z => z, fun _ z => z.elim⟩, g⟩
/-- arguments that are only read -/
theorem resB_of (hG : ¬ G .stuck) : ∀ {as : List Arg} {vs : List V} {F Fe : Fp} {ρ : Env} {k : List D → Res}, ArgR K H σ as vs F → Ens K H ρ σ Fe → G (resB as ρ k) → ∃ ds, RpB K H ds vs ∧ G (k ds)
  | [], vs, F, Fe, ρ, k, h, en, g => ⟨[], h, g⟩
  | .nm i :: as, vs, F, Fe, ρ, k, h, en, g => by
    obtain ⟨v, ws, rfl, hv, h⟩ := h
    obtain ⟨d, hd, g⟩ := getK_of hG g
    obtain ⟨v', hv', r⟩ := Ens.get _ _ _ _ _ en hd
    rw [hv] at hv'; cases hv'
    obtain ⟨ds, hds, g⟩ := resB_of hG h en g
    exact ⟨d :: ds, ⟨v, ws, _, rfl, r, hds⟩, g⟩
  | .own d :: as, vs, F, Fe, ρ, k, h, en, g => by
    obtain ⟨v, ws, G1, G2, rfl, r, h, s1, s2, dj⟩ := h
    obtain ⟨ds, hds, g⟩ := resB_of hG h en g
    exact ⟨d :: ds, ⟨v, ws, _, rfl, r, hds⟩, g⟩
  | .bor d :: as, vs, F, Fe, ρ, k, h, en, g => by
    obtain ⟨v, ws, F', rfl, r, h⟩ := h
    obtain ⟨ds, hds, g⟩ := resB_of hG h en g
    exact ⟨d :: ds, ⟨v, ws, _, rfl, r, hds⟩, g⟩
/-- what a lent slot is -/
def LentOk (K : PySem.W.Frag) (H : Hp) (σ : L2.St) (ρ : Env) (vs : List V) (p : Nat) (e : Nat × Nat × D) : Prop :=
  p ≤ e.2.1 ∧ (∃ v, vs[e.2.1 - p]? = some v ∧ σ[e.1]? = some (some v) ∧ (e.2.2.pu = true → Rp K H e.2.2 v F0)) ∧ (e.2.2.pu = false → ∃ d0, ρ[e.1]? = some (some d0) ∧ d0.pu = false)
theorem lend_t {d : D} (h : d.pu = true) : lend d = some d := by unfold lend; rw [h]
theorem lend_f {d : D} (h : d.pu = false) : lend d = none := by unfold lend; rw [h]
/-- arguments lent to a call of one's own: what they stand in (F1), what is left (F2) -/
theorem takeK_of (hG : ¬ G .stuck) : ∀ {as : List Arg} {vs : List V} {F Fe : Fp} {ρ : Env} {p : Nat} {k : List D → Env → List (Nat × Nat × D) → Res}, ArgR K H σ as vs F → Ens K H ρ σ Fe → Dis Fe F → G (takeK as p ρ k) →
    ∃ ds ρ1 l F1 F2, Rps K H ds vs F1 ∧ Ens K H ρ1 σ F2 ∧ Dis F2 F1 ∧ (∀ a, F1 a → Fe a ∨ F a) ∧ (∀ a, F2 a → Fe a) ∧ Imp ρ ρ1 ∧ (∀ e ∈ l, LentOk K H σ ρ vs p e) ∧ (l.map (·.2.1)).Nodup ∧ G (k ds ρ1 l)
  | [], vs, F, Fe, ρ, p, k, h, en, dj, g => ⟨[], ρ, [], F0, Fe, h, en, fun _ _ z => z, fun _ z => z.elim, fun _ z => z, Imp.refl _, fun _ z => by simp at z, by simp, g⟩
  | .nm i :: as, vs, F, Fe, ρ, p, k, h, en, dj, g => by
    obtain ⟨v, ws, rfl, hv, h⟩ := h
    unfold takeK at g
    obtain ⟨d, hd, g⟩ := getK_of hG g
    have hlt : i < ρ.length := by
      cases q : ρ[i]? with
      | none => rw [q] at hd; cases hd
      | some z => exact (List.getElem?_eq_some_iff.mp q).1
    have im0 : Imp ρ (ρ.set i (lend d)) := fun j d' e p' => by
      by_cases hj : i = j
      · subst hj
        rw [List.getElem?_set_self hlt] at e
        cases pu : d.pu with
        | true => rw [lend_t pu] at e; cases e; rw [pu] at p'; cases p'
        | false => rw [lend_f pu] at e; cases e
      · rw [List.getElem?_set_ne hj] at e; exact ⟨d', e, p'⟩
    obtain ⟨v', G1, G2, hv', r, en', s1, s2, d12⟩ := Ens.take _ _ _ _ _ en hd
    rw [hv] at hv'; cases hv'
    have step : ∀ (Fa Fb : Fp), Ens K H (ρ.set i (lend d)) σ Fb → (∀ a, Fb a → Fe a) → Rp K H d v Fa → (∀ a, Fa a → Fe a) → Dis Fa Fb → (d.pu = true → Rp K H d v F0) → ∃ ds ρ1 l F1 F2, Rps K H ds (v :: ws) F1 ∧ Ens K H ρ1 σ F2 ∧ Dis F2 F1 ∧ (∀ a, F1 a → Fe a ∨ F a) ∧ (∀ a, F2 a → Fe a) ∧ Imp ρ ρ1 ∧ (∀ e ∈ l, LentOk K H σ ρ (v :: ws) p e) ∧ (l.map (·.2.1)).Nodup ∧ G (k ds ρ1 l) := fun Fa Fb enb sb ra sa dab rp0 => by
      obtain ⟨ds, ρ1, l, F1, F2, hds, en1, dj1, t1, t2, im, lo, nd, g⟩ := takeK_of hG h enb (fun a z q => dj a (sb a z) q) g
      refine ⟨d :: ds, ρ1, (i, p, d) :: l, fun a => Fa a ∨ F1 a, F2, ⟨v, ws, Fa, F1, rfl, ra, hds, fun _ z => .inl z, fun _ z => .inr z, fun a z q => ?_⟩, en1, fun a z q => ?_, fun a z => ?_, fun a z => sb a (t2 a z), im0.trans im, fun e he => ?_, ?_, g⟩
      · rcases t1 a q with q | q
        · exact dab a z q
        · exact dj a (sa a z) q
      · rcases q with q | q
        · exact dab a q (t2 a z)
        · exact dj1 a z q
      · rcases z with z | z
        · exact .inl (sa a z)
        · exact (t1 a z).imp (sb a) id
      · rcases List.mem_cons.mp he with rfl | he
        · exact ⟨Nat.le_refl _, ⟨v, by simp, hv, rp0⟩, fun z => ⟨d, hd, z⟩⟩
        · obtain ⟨h1, ⟨w, h2, h3⟩, h4⟩ := lo e he
          refine ⟨by omega, ⟨w, ?_, h3⟩, fun z => ?_⟩
          · have : e.2.1 - p = (e.2.1 - (p + 1)) + 1 := by omega
            rw [this, List.getElem?_cons_succ]
            exact h2
          · obtain ⟨d0, e0, p0⟩ := h4 z
            exact im0 _ d0 e0 p0
      · rw [List.map_cons, List.nodup_cons]
        refine ⟨fun hm => ?_, nd⟩
        obtain ⟨e, he, ee⟩ := List.mem_map.mp hm
        have := (lo e he).1
        have ee' : e.2.1 = p := ee
        omega
    cases pu : d.pu with
    | true =>
      have e0 : ρ.set i (lend d) = ρ := by rw [lend_t pu]; exact set_same _ _ _ hd
      exact step F0 Fe (by rw [e0]; exact en) (fun _ z => z) (Rp.pure _ _ _ pu r) (fun _ z => z.elim) (fun _ z => z.elim) fun _ => Rp.pure _ _ _ pu r
    | false =>
      exact step G1 G2 (by rw [lend_f pu]; exact en') s2 r s1 d12 fun z => by rw [pu] at z; cases z
  | .own d :: as, vs, F, Fe, ρ, p, k, h, en, dj, g => by
    obtain ⟨v, ws, G1, G2, rfl, r, h, s1, s2, d12⟩ := h
    obtain ⟨ds, ρ1, l, F1, F2, hds, en1, dj1, t1, t2, im, lo, nd, g⟩ := takeK_of hG h en (fun a z q => dj a z (s2 a q)) g
    refine ⟨d :: ds, ρ1, l, fun a => G1 a ∨ F1 a, F2, ⟨v, ws, G1, F1, rfl, r, hds, fun _ z => .inl z, fun _ z => .inr z, fun a z q => ?_⟩, en1, fun a z q => ?_, fun a z => ?_, t2, im, fun e he => ?_, nd, g⟩
    · rcases t1 a q with q | q
      · exact dj a q (s1 a z)
      · exact d12 a z q
    · rcases q with q | q
      · exact dj a (t2 a z) (s1 a q)
      · exact dj1 a z q
    · rcases z with z | z
      · exact .inr (s1 a z)
      · exact (t1 a z).imp id (s2 a)
    · obtain ⟨h1, ⟨w, h2, h3⟩, h4⟩ := lo e he
      refine ⟨by omega, ⟨w, ?_, h3⟩, h4⟩
      have : e.2.1 - p = (e.2.1 - (p + 1)) + 1 := by omega
      rw [this, List.getElem?_cons_succ]
      exact h2
  | .bor d :: as, vs, F, Fe, ρ, p, k, h, en, dj, g => by
    obtain ⟨v, ws, F', rfl, r, h⟩ := h
    unfold takeK at g
    obtain ⟨pu, g⟩ := puK_of hG g
    obtain ⟨ds, ρ1, l, F1, F2, hds, en1, dj1, t1, t2, im, lo, nd, g⟩ := takeK_of hG h en dj g
    refine ⟨d :: ds, ρ1, l, F1, F2, ⟨v, ws, F0, F1, rfl, Rp.pure _ _ _ pu r, hds, fun _ z => z.elim, fun _ z => z, fun _ z => z.elim⟩, en1, dj1, t1, t2, im, fun e he => ?_, nd, g⟩
    obtain ⟨h1, ⟨w, h2, h3⟩, h4⟩ := lo e he
    refine ⟨by omega, ⟨w, ?_, h3⟩, h4⟩
    have : e.2.1 - p = (e.2.1 - (p + 1)) + 1 := by omega
    rw [this, List.getElem?_cons_succ]
    exact h2
/-- what comes back goes to the slots that lent it -/
theorem back_of {vs : List V} {fin : Env} : ∀ {l : List (Nat × Nat × D)} {fin' ρ : Env} {F2 Ff : Fp}, (∀ e ∈ l, fin'[e.2.1]? = fin[e.2.1]?) → (l.map (·.2.1)).Nodup → Ens K H' fin' (vs.map some) Ff → Ens K H' ρ σ F2 → Dis F2 Ff →
    (∀ e ∈ l, ∃ v, vs[e.2.1]? = some v ∧ σ[e.1]? = some (some v) ∧ (e.2.2.pu = true → Rp K H' e.2.2 v F0)) →
    Ens K H' (back l fin ρ) σ (fun a => F2 a ∨ Ff a) ∧ ∀ (j : Nat) d, (back l fin ρ)[j]? = some (some d) → d.pu = false → ρ[j]? = some (some d) ∨ ∃ e ∈ l, e.1 = j ∧ e.2.2.pu = false
  | [], fin', ρ, F2, Ff, ag, nd, ef, en, dj, lo => ⟨Ens.mono _ _ _ _ (fun _ z => .inl z) en, fun j d e _ => .inl e⟩
  | (i, q, d) :: l, fin', ρ, F2, Ff, ag, nd, ef, en, dj, lo => by
    rw [List.map_cons, List.nodup_cons] at nd
    obtain ⟨v, hv, hσ, hp⟩ := lo _ List.mem_cons_self
    replace hv : vs[q]? = some v := hv
    replace hσ : σ[i]? = some (some v) := hσ
    have set_imp : ∀ {o : Option D} (j : Nat) d', (∀ d2, o = some d2 → d2.pu = false → d.pu = false) → (ρ.set i o)[j]? = some (some d') → d'.pu = false → ρ[j]? = some (some d') ∨ (i = j ∧ d.pu = false) := fun {o} j d' ho e p' => by
      by_cases hj : i = j
      · subst hj
        rw [List.getElem?_set] at e
        rw [if_pos rfl] at e
        split at e
        · exact .inr ⟨rfl, ho d' (by injection e) p'⟩
        · cases e
      · rw [List.getElem?_set_ne hj] at e; exact .inl e
    have go : ∀ (o : Option D) (fin2 : Env) (Fb Fg : Fp), unlend d fin[q]? = o → (∀ d2, o = some d2 → d2.pu = false → d.pu = false) → (∀ e ∈ l, fin2[e.2.1]? = fin[e.2.1]?) → Ens K H' fin2 (vs.map some) Fg → Ens K H' (ρ.set i o) σ Fb → Dis Fb Fg → (∀ a, Fb a ∨ Fg a → F2 a ∨ Ff a) →
        Ens K H' (back ((i, q, d) :: l) fin ρ) σ (fun a => F2 a ∨ Ff a) ∧ ∀ (j : Nat) d', (back ((i, q, d) :: l) fin ρ)[j]? = some (some d') → d'.pu = false → ρ[j]? = some (some d') ∨ ∃ e ∈ (i, q, d) :: l, e.1 = j ∧ e.2.2.pu = false := fun o fin2 Fb Fg ho hpu ag2 ef2 en2 dj2 sub => by
      obtain ⟨r1, r2⟩ := back_of (fin := fin) ag2 nd.2 ef2 en2 dj2 fun e he => lo e (List.mem_cons_of_mem _ he)
      have eq : back ((i, q, d) :: l) fin ρ = back l fin (ρ.set i o) := by rw [← ho]; rfl
      rw [eq]
      refine ⟨Ens.mono _ _ _ _ sub r1, fun j d' e p' => ?_⟩
      rcases r2 j d' e p' with z | ⟨e', he, z⟩
      · rcases set_imp j d' hpu z p' with y | ⟨y1, y2⟩
        · exact .inl y
        · exact .inr ⟨_, List.mem_cons_self, y1, y2⟩
      · exact .inr ⟨e', List.mem_cons_of_mem _ he, z⟩
    have agl : ∀ e ∈ l, fin'[e.2.1]? = fin[e.2.1]? := fun e he => ag e (List.mem_cons_of_mem _ he)
    have ag0 : fin'[q]? = fin[q]? := ag _ List.mem_cons_self
    cases pu : d.pu with
    | true =>
      refine go (some d) fin' F2 Ff (by unfold unlend; rw [pu]) (fun d2 e p => by cases e; exact p) agl ef ?_ dj fun _ z => z
      have := Ens.put _ _ _ F0 i d v en (hp pu) fun _ _ z => z
      rw [set_same σ i _ hσ] at this
      exact Ens.mono _ _ _ _ (fun a z => z.elim id fun z => z.elim) this
    | false =>
      have un : unlend d fin[q]? = (match fin[q]? with | some o' => o' | none => none) := by unfold unlend; rw [pu] <;> cases fin[q]? <;> rfl
      cases hq : fin[q]? with
      | none =>
        exact go none fin' F2 Ff (by rw [un, hq]) (fun d2 e => by cases e) agl ef (Ens.forget _ _ _ i en) dj fun _ z => z
      | some o' =>
        cases o' with
        | none => exact go none fin' F2 Ff (by rw [un, hq]) (fun d2 e => by cases e) agl ef (Ens.forget _ _ _ i en) dj fun _ z => z
        | some d' =>
          obtain ⟨v', E1, E2, hv', rr, ef2, s1, s2, d12⟩ := Ens.take _ _ _ q d' ef (by rw [ag0, hq])
          rw [List.getElem?_map, hv] at hv'
          cases hv'
          refine go (some d') (fin'.set q none) (fun a => F2 a ∨ E1 a) E2 (by rw [un, hq]) (fun _ _ _ => pu) (fun e he => ?_) ef2 (Ens.back (Ens.forget _ _ _ i en) hσ rr fun a z w => dj a z (s1 a w)) (fun a z w => ?_) fun a z => ?_
          · have : q ≠ e.2.1 := fun z => nd.1 (List.mem_map.mpr ⟨e, he, z.symm⟩)
            rw [List.getElem?_set_ne this]
            exact agl e he
          · rcases z with z | z
            · exact dj a z (s2 a w)
            · exact d12 a z w
          · rcases z with (z | z) | z
            · exact .inl z
            · exact .inr (s1 a z)
            · exact .inr (s2 a z)
end
section
variable {X : Cx} {C : Cd} {sc : Scope} {cx : CXT} {er : Er} {EX : XK} {G : Res → Prop} {A0 : Fp} {H0 : Hp} {R : Fns} (S : Snd R) (o : Okx X C sc cx er EX G A0 H0)
include S o
/-! ### displays -/
theorem e_tuple (es : List Expr) (n : Nat) (p : Pos) : PE X (.Tuple es n p) (RdE X.K G A0 H0 false false (fun ρ k => R.A C sc es ρ fun as ρ1 => ckK (decide (as.length ≤ 1000)) (resP as ρ1 fun ds => pusK ds (k (.tup ds) ρ1)))) := by
  refine PE.imp (pe_tup (S.A o es)) fun σ H Q ⟨ρ, k, F, k0, f0, en, g, q⟩ => ?_
  refine ⟨ρ, _, F, k0, f0, en, g, fun as ρ1 vs H1 Fe Fv c1 fr dj tr ar g1 => ?_⟩
  obtain ⟨hb, g1⟩ := ckK_of o.hG g1
  obtain ⟨ds, hds, g1⟩ := resP_of o.hG ar c1.en g1
  obtain ⟨pu, g1⟩ := pusK_of o.hG g1
  refine ⟨by rw [ar.length, sizeLine_eq]; have := of_decide_eq_true hb; omega, fun a ha => ?_⟩
  have kp : Keep F0 H1 (upd H1 a (.tup vs)) := Keep.new ha
  exact q (.tup ds) ρ1 (.ref a) _ Fe (c1.grow kp) (.inr ⟨Fv, fr, dj, ⟨a, vs, rfl, SqT.of upd_same, pu, Rps.stay kp _ _ _ (fun _ _ z => z) hds⟩, fun x h e => tr x h (kp.g x e)⟩) (fun z => nomatch z) g1
theorem e_list (es : List Expr) (p : Pos) : PE X (.List es p) (RdE X.K G A0 H0 false false (fun ρ k => R.A C sc es ρ fun as ρ1 => ckK (decide (as.length ≤ 1000)) (resP as ρ1 fun ds => k (.lst ds) ρ1))) := by
  refine PE.imp (pe_lst (S.A o es)) fun σ H Q ⟨ρ, k, F, k0, f0, en, g, q⟩ => ?_
  refine ⟨ρ, _, F, k0, f0, en, g, fun as ρ1 vs H1 Fe Fv c1 fr dj tr ar g1 => ?_⟩
  obtain ⟨hb, g1⟩ := ckK_of o.hG g1
  obtain ⟨ds, hds, g1⟩ := resP_of o.hG ar c1.en g1
  refine ⟨by rw [ar.length, sizeLine_eq]; have := of_decide_eq_true hb; omega, fun a ha => ?_⟩
  have kp : Keep F0 H1 (upd H1 a (.lst vs)) := Keep.new ha
  have na : ∀ x, Fv x → x ≠ a := fun x h e => tr x h (by rw [e]; exact ha)
  refine q (.lst ds) ρ1 (.ref a) _ Fe (c1.grow kp) (.inr ⟨fun x => Fv x ∨ x = a, fun x h => ?_, fun x h g => ?_, ⟨a, vs, rfl, upd_same, .inr rfl, ?_⟩, fun x h e => ?_⟩) (fun z => nomatch z) g1
  · rcases h with h | h
    · exact fr x h
    · rw [h]; exact .inr (c1.kp.g a ha)
  · rcases g with g | g
    · exact dj x h g
    · rw [g] at h; exact c1.tr a h ha
  · exact Rps.mono _ _ _ _ (fun x h => ⟨.inl h, na x h⟩) (Rps.stay kp _ _ _ (fun _ _ z => z) hds)
  · rcases h with h | h
    · exact tr x h (kp.g x e)
    · rw [h, upd_same] at e; cases e
/-! ### argument lists -/
omit S in
theorem a_stuck {es : List Expr} : PA X es (RdA X.K G A0 H0 (fun _ _ => .stuck)) := ⟨fun pos pins s σ H Q I ⟨ρ, k, F, k0, f0, en, g, q⟩ => absurd g o.hG⟩
omit o in
/-- the first argument is kept while the others come -/
theorem a_two {r : List Expr} {σ : L2.St} {H H1 : Hp} {Q : List V → Hp → Prop} {ρ ρ1 : Env} {k : List Arg → Env → Res} {F Fe : Fp} {d : D} {v : V} (k0 : Keep A0 H0 H) (f0 : Fr A0 H0 F) (c1 : Ch X.K σ F H ρ Fe H1 ρ1) (ow : ∃ Fv, OwnV X.K F H Fe d v H1 Fv)
    (q : ∀ as ρ' vs H' Fe Fv, Ch X.K σ F H ρ Fe H' ρ' → Fr F H Fv → Dis Fe Fv → (∀ a, Fv a → H' a ≠ none) → ArgR X.K H' σ as vs Fv → G (k as ρ') → Q vs H')
    (g : G (R.A C sc r ρ1 fun as ρ2 => k (.own d :: as) ρ2)) : RdA X.K G A0 H0 (R.A C sc r) σ H1 (fun xs H2 => Q (v :: xs) H2) := by
  obtain ⟨Fv, ow⟩ := ow
  refine ⟨ρ1, _, Fe, c1.keep k0 f0, c1.from k0 f0, c1.en, g, fun as ρ2 vs H2 Fe2 Fv2 c2 fr2 dj2 tr2 ar2 g2 => ?_⟩
  have ow2 := ow.held c2
  refine q (.own d :: as) ρ2 (v :: vs) H2 Fe2 (fun a => Fv a ∨ Fv2 a) (c1.trans c2) (fun x h => ?_) (fun x h g => ?_) (fun x h => ?_) ⟨v, vs, Fv, Fv2, rfl, ow2.rp, ar2, fun _ z => .inl z, fun _ z => .inr z, fun x h g => ?_⟩ g2
  · exact h.elim (ow.fr x) (c1.fr.trans c1.kp fr2 x)
  · exact g.elim (ow2.dj x h) (dj2 x h)
  · exact h.elim (ow2.tr x) (tr2 x)
  · rcases fr2 x g with z | z
    · exact ow.dj x z h
    · exact ow.tr x h z
theorem a_other (e : Expr) (r : List Expr) (hs : ∀ env, starEach (e :: r) env = (false, eval e env) :: starEach r env) : PA X (e :: r) (RdA X.K G A0 H0 (fun ρ k => R.E C sc e ρ fun d ρ1 => argRest R C sc e r k d ρ1)) := by
  by_cases hp : isPath e = true
  · cases r with
    | nil =>
      refine PA.imp (pa_cons (S.E o e) pa_nil (hs _)) fun σ H Q ⟨ρ, k, F, k0, f0, en, g, q⟩ => ?_
      refine ⟨ρ, _, F, k0, f0, en, g, fun d ρ1 v H1 Fe c1 v1 _ g1 => ?_⟩
      unfold argRest at g1
      rw [if_pos hp] at g1
      obtain ⟨F', hv⟩ := v1.any
      exact q [.bor d] ρ1 [v] H1 Fe F0 c1 (fun _ z => z.elim) (fun _ _ z => z) (fun _ z => z.elim) ⟨v, [], F', rfl, hv, rfl⟩ g1
    | cons b r' =>
      refine PA.imp (pa_cons (S.E o e) (S.A o (b :: r')) (hs _)) fun σ H Q ⟨ρ, k, F, k0, f0, en, g, q⟩ => ?_
      refine ⟨ρ, _, F, k0, f0, en, g, fun d ρ1 v H1 Fe c1 v1 _ g1 => ?_⟩
      unfold argRest at g1
      rw [if_pos hp] at g1
      obtain ⟨p, g1⟩ := puK_of o.hG g1
      exact a_two S k0 f0 c1 (v1.own fun _ => p) q g1
  · refine PA.imp (pa_cons (S.E o e) (S.A o r) (hs _)) fun σ H Q ⟨ρ, k, F, k0, f0, en, g, q⟩ => ?_
    refine ⟨ρ, _, F, k0, f0, en, g, fun d ρ1 v H1 Fe c1 v1 _ g1 => ?_⟩
    unfold argRest at g1
    rw [if_neg hp] at g1
    exact a_two S k0 f0 c1 (v1.own fun z => absurd z hp) q g1
theorem a_step (es : List Expr) : PA X es (RdA X.K G A0 H0 (stepA R C sc es)) := by
  match es with
  | [] =>
    refine PA.imp pa_nil fun σ H Q ⟨ρ, k, F, k0, f0, en, g, q⟩ => ?_
    exact q [] ρ [] H _ F0 (Ch.refl en) (fun _ z => z.elim) (fun _ _ z => z) (fun _ z => z.elim) rfl g
  | e :: r =>
    cases e with
    | Starred a b => exact a_stuck o
    | Name x p =>
      cases hs : slotOf C sc x with
      | some i =>
        obtain ⟨h1, h2, h3, h4⟩ := o.toCok.visx hs
        refine PA.imp (pa_cons (pe_var (i := i) h1 h2 h3 h4) (S.A o r) rfl) fun σ H Q ⟨ρ, k, F, k0, f0, en, g, q⟩ => ?_
        dsimp only [stepA] at g
        rw [hs] at g
        obtain ⟨d, hd, g⟩ := getK_of o.hG g
        have c := Ch.refl en
        obtain ⟨v, hv, _⟩ := Ens.get _ _ _ _ _ c.en hd
        refine ⟨v, hv, ρ, _, F, k0, f0, en, g, fun as ρ1 vs H1 Fe Fv c1 fr1 dj1 tr1 ar1 g1 => ?_⟩
        exact q (.nm i :: as) ρ1 (v :: vs) H1 Fe Fv c1 fr1 dj1 tr1 ⟨v, vs, rfl, hv, ar1⟩ g1
      | none =>
        refine PA.imp (pa_cons (S.E o (.Name x p)) (S.A o r) rfl) fun σ H Q ⟨ρ, k, F, k0, f0, en, g, q⟩ => ?_
        dsimp only [stepA] at g
        rw [hs] at g
        refine ⟨ρ, _, F, k0, f0, en, g, fun d ρ1 v H1 Fe c1 v1 _ g1 => ?_⟩
        obtain ⟨pu, g1⟩ := puK_of o.hG g1
        exact a_two S k0 f0 c1 (v1.own fun _ => pu) q g1
    | _ => exact a_other S o _ r (fun _ => rfl)

/-! ### a call of one's own -/
omit S in
theorem call_core {f : Str} {n : Nat} {σ : L2.St} {H H1 : Hp} {Q : VK} {ρ ρ1 : Env} {k : D → Env → Res} {F Fe Fv : Fp} {as : List Arg} {vs : List V} (k0 : Keep A0 H0 H) (f0 : Fr A0 H0 F) (c1 : Ch X.K σ F H ρ Fe H1 ρ1) (fr : Fr F H Fv) (dj : Dis Fe Fv)
    (ar : ArgR X.K H1 σ as vs Fv) (q : ∀ d ρ' v H' Fe, Ch X.K σ F H ρ Fe H' ρ' → Val2 X.K false F H Fe d v H' → (false = true → H' = H ∧ ρ' = ρ) → G (k d ρ') → Q v H') (g1 : G (ckK (decide (as.length = n)) (callK C f as ρ1 k))) :
    SpD X.K er n (C.call f) vs H1 Q EX := by
  obtain ⟨hb, g1⟩ := ckK_of o.hG g1
  obtain ⟨ds, ρ2, l, F1', F2, hds, en2, dj2, s1, s2, im2, lo, nd, g2⟩ := takeK_of o.hG ar c1.en dj g1
  refine ⟨by rw [ar.length]; exact of_decide_eq_true hb, ds, F1', hds, ?_⟩
  have fr1 : Fr F H F1' := fun x h => (s1 x h).elim (c1.fr x) (fr x)
  unfold RGood
  cases hc : C.call f ds with
  | ret d fin =>
    rw [hc] at g2
    intro v H' Fw Ff kp fw ff djf rp enf
    have kp' : Keep F H H' := c1.kp.trans kp fr1
    have en3 : Ens X.K H' ρ2 σ F2 := Ens.stay kp _ _ _ (fun a h g => dj2 a h g) en2
    have tr2 : ∀ a, F2 a → H1 a ≠ none := fun a h => c1.tr a (s2 a h)
    have djf2 : Dis F2 Ff := fun a h g => (ff a g).elim (fun z => dj2 a h z) fun z => tr2 a h z
    have djw2 : Dis F2 Fw := fun a h g => (fw a g).elim (fun z => dj2 a h z) fun z => tr2 a h z
    obtain ⟨en4, bk⟩ := back_of (vs := vs) (fin := fin) (l := l) (fun _ _ => rfl) nd enf en3 djf2 fun e he => by
      obtain ⟨_, ⟨w, h2, h3, h4⟩, _⟩ := lo e he
      exact ⟨w, h2, h3, fun p => Rp.stay kp _ _ _ (fun _ z => z.elim) (h4 p)⟩
    have frx : ∀ {Fz : Fp}, Fr F1' H1 Fz → Fr F H Fz := fun {Fz} h x y => (h x y).elim (fr1 x) fun z => .inr (c1.kp.g x z)
    have im3 : Imp ρ (back l fin ρ2) := fun j d' e pu => by
      rcases bk j d' e pu with z | ⟨e', he, hj, hp⟩
      · obtain ⟨d1, e1, p1⟩ := im2 j d' z pu
        exact c1.im j d1 e1 p1
      · obtain ⟨_, _, h4⟩ := lo e' he
        obtain ⟨d1, e1, p1⟩ := h4 hp
        rw [hj] at e1
        exact c1.im j d1 e1 p1
    refine q d (back l fin ρ2) v H' _ ⟨kp', im3, fun x h => ?_, Ens.trim _ _ _ en4, fun a h => h.2⟩ (.inr ⟨_, OwnV.of (frx fw) (fun x h g => ?_) rp⟩) (fun z => nomatch z) g2
    · rcases h.1 with h | h
      · exact c1.fr x (s2 x h)
      · exact frx ff x h
    · rcases h.1 with h | h
      · exact djw2 x h g
      · exact djf x h g
  | exc c fs =>
    rw [hc] at g2
    intro cls dx H' kp er'
    refine o.xco c fs ρ2 g2 cls dx H' ((c1.keep k0 f0).trans kp fun x h => ?_) er'
    rcases s1 x h with y | y
    · exact c1.from k0 f0 x y
    · exact f0.trans k0 fr x y
  | stuck => rw [hc] at g2; exact absurd g2 o.hG
theorem e_call (f : Str) (p : Pos) (n : Nat) (args : List Expr) (pos : Pos) (hf : isFn C sc f = some n) (hst : noStar args = true) :
    PE X (.Call (.Name f p) args [] pos) (RdE X.K G A0 H0 false false (callE R C sc f n args)) := by
  obtain ⟨f1, f2, f3⟩ := isFn_of hf
  obtain ⟨n1, n2, n3⟩ := okName_of f2
  obtain ⟨fa, lv, fd, ps, hl, F1, hr, hm, hk, hb, _⟩ := o.fn f n f3
  cases args with
  | nil =>
    refine PE.imp (pe_call0 F1 hr (o.toCok.glx f1) hm hk hb .nil o.thr n1) fun σ H Q ⟨ρ, k, F, k0, f0, en, g, q⟩ => ?_
    exact call_core o (as := []) (vs := []) (Fv := F0) k0 f0 (Ch.refl en) (fun _ z => z.elim) (fun _ _ z => z) rfl q g
  | cons e es =>
    obtain ⟨h1, h2⟩ := star_cons hst X.env
    refine PE.imp (pe_call F1 hr (o.toCok.glx f1) hm hk hb .nil o.thr (S.A o (e :: es)) n1 h1 (star_any h2 _ _)) fun σ H Q ⟨ρ, k, F, k0, f0, en, g, q⟩ => ?_
    refine ⟨ρ, _, F, k0, f0, en, g, fun as ρ1 vs H1 Fe Fv c1 fr dj tr ar g1 => ?_⟩
    show SpD X.K er n (C.call f) (vs ++ []) H1 Q EX
    rw [List.append_nil]
    exact call_core o k0 f0 c1 fr dj ar q g1
end
end TI
set_option Elab.async false
set_option linter.all false
set_option maxRecDepth 100000
set_option maxHeartbeats 4000000
/-! built-ins, methods, subscripts, tests -/
namespace TI
open PySem PySem.Spec PyProof.Rows L2

theorem base_ok {o : Expr} (h : opG o = true) (m : Str) (env : PySem.Env) (whole : Sem Value) : attributeBase o m env whole = whole := by
  cases o with
  | Call f args kw p =>
    cases f with
    | Name x q =>
      cases args with
      | nil =>
        cases kw with
        | nil => cases h
        | cons _ _ => rfl
      | cons _ _ => rfl
    | _ => rfl
  | _ => rfl
theorem pe_bad {X : Cx} {e : Expr} {t : TE} (h : ∀ σ H Q, t σ H Q → False) : PE X e t := ⟨fun pins s σ H Q I q => (h σ H Q q).elim⟩
theorem pt_bad {X : Cx} {e : Expr} {t : TT} (h : ∀ σ H Q, t σ H Q → False) : PT X e t := ⟨fun pins s σ H Q I q => (h σ H Q q).elim⟩
theorem ps_bad {X : Cx} {e : Stmt} {t : TS} (h : ∀ D σ H, t D σ H → False) : PS X e t := ⟨fun pins s σ H D I q => (h D σ H q).elim⟩
theorem pg_bad {X : Cx} {e : Expr} {t : TG} (h : ∀ v σ H Q, t v σ H Q → False) : PG X e t := ⟨fun pins s σ H v u Q I r q => (h v σ H Q q).elim⟩
theorem as1_of {ds : List D} {d : D} (h : as1 ds = some d) : ds = [d] := by
  unfold as1 at h
  split at h
  · cases h; rfl
  · cases h
section
variable {X : Cx} {C : Cd} {sc : Scope} {cx : CXT} {er : Er} {EX : XK} {G : Res → Prop} {A0 : Fp} {H0 : Hp} {R : Fns} (S : Snd R) (o : Okx X C sc cx er EX G A0 H0)
include S o

/-! ### built-ins -/
theorem e_bi1 (f : Str) (p : Pos) (args : List Expr) (pos : Pos) (fn : D → (D → Res) → Res) (v : Value) (hb : isBi C sc f = true) (hst : noStar args = true) (hv : bootBuiltins f = some v)
    (hc : CallR X v (rB1 G X.K fn)) (hv2 : (∃ id, v = .builtin id) ∨ ∃ T, v = .type T) :
    PE X (.Call (.Name f p) args [] pos) (RdE X.K G A0 H0 false false (fun ρ k => argE R C sc args ρ fun as ρ1 => resB as ρ1 fun ds => oK (as1 ds) fun d => fn d fun r => k r ρ1)) := by
  obtain ⟨f1, f2, f3⟩ := isBi_of hb
  obtain ⟨n1, n2, n3⟩ := okName_of f2
  have hm := o.bi f f3
  cases args with
  | nil => exact e_stuck o
  | cons e es =>
    obtain ⟨h1, h2⟩ := star_cons hst X.env
    have core : PE X (.Call (.Name f p) (e :: es) [] pos) (tCB (rB1 G X.K fn) (RdA X.K G A0 H0 (R.A C sc (e :: es)))) := by
      rcases hv2 with ⟨id, rfl⟩ | ⟨T, rfl⟩
      · exact pe_callB hc (o.toCok.glx f1) hm hv (S.A o (e :: es)) n3 n1 h1 (star_any h2 _ _)
      · exact pe_callTy hc (o.toCok.glx f1) hm hv (S.A o (e :: es)) n3 n1 h1 (star_any h2 _ _)
    refine PE.imp core fun σ H Q ⟨ρ, k, F, k0, f0, en, g, q⟩ => ?_
    refine ⟨ρ, _, F, k0, f0, en, g, fun as ρ1 vs H1 Fe Fv c1 fr dj tr ar g1 => ?_⟩
    obtain ⟨ds, hds, g1⟩ := resB_of o.hG ar c1.en g1
    obtain ⟨d, hd, g1⟩ := oK_of o.hG g1
    cases as1_of hd
    obtain ⟨w, ws, F', rfl, hw, hn⟩ := hds
    cases (show ws = [] from hn)
    exact ⟨d, w, F', _, rfl, hw, g1, vend c1 q⟩
theorem e_biC (f : Str) (p : Pos) (args : List Expr) (pos : Pos) (v : Value) (hb : isBi C sc f = true) (hst : noStar args = true) (hv : bootBuiltins f = some v) (hv2 : (∃ id, v = .builtin id) ∨ ∃ T, v = .type T)
    (h1 : ∀ fn, fn1 C.lim f = some fn → CallR X v (rB1 G X.K fn)) (h2 : ∀ fn, fn2 f = some fn → CallR X v (rB2 G X.K fn)) :
    PE X (.Call (.Name f p) args [] pos) (RdE X.K G A0 H0 false false (fun ρ k => argE R C sc args ρ fun as ρ1 => biE C f as ρ1 k)) := by
  obtain ⟨f1, f2, f3⟩ := isBi_of hb
  obtain ⟨n1, n2, n3⟩ := okName_of f2
  have hm := o.bi f f3
  cases args with
  | nil => exact e_stuck o
  | cons e es =>
    obtain ⟨hs1, hs2⟩ := star_cons hst X.env
    have both : CallR X v (fun xs H Q => (∃ fn, fn1 C.lim f = some fn ∧ rB1 G X.K fn xs H Q) ∨ ∃ fn, fn2 f = some fn ∧ rB2 G X.K fn xs H Q) := by
      intro pins s σ H xs us Q I r h
      rcases h with ⟨fn, hf, h⟩ | ⟨fn, hf, h⟩
      · exact h1 fn hf pins s σ H xs us Q I r h
      · exact h2 fn hf pins s σ H xs us Q I r h
    have core : PE X (.Call (.Name f p) (e :: es) [] pos) (tCB (fun xs H Q => (∃ fn, fn1 C.lim f = some fn ∧ rB1 G X.K fn xs H Q) ∨ ∃ fn, fn2 f = some fn ∧ rB2 G X.K fn xs H Q) (RdA X.K G A0 H0 (R.A C sc (e :: es)))) := by
      rcases hv2 with ⟨id, rfl⟩ | ⟨T, rfl⟩
      · exact pe_callB both (o.toCok.glx f1) hm hv (S.A o (e :: es)) n3 n1 hs1 (star_any hs2 _ _)
      · exact pe_callTy both (o.toCok.glx f1) hm hv (S.A o (e :: es)) n3 n1 hs1 (star_any hs2 _ _)
    refine PE.imp core fun σ H Q ⟨ρ, k, F, k0, f0, en, g, q⟩ => ?_
    refine ⟨ρ, _, F, k0, f0, en, g, fun as ρ1 vs H1 Fe Fv c1 fr dj tr ar g1 => ?_⟩
    obtain ⟨ds, hds, g1⟩ := resB_of o.hG ar c1.en g1
    match ds, hds, g1 with
    | [], hds, g1 => exact absurd g1 o.hG
    | [d], hds, g1 =>
      obtain ⟨fn, hf, g1⟩ := oK_of o.hG g1
      obtain ⟨w, ws, F', rfl, hw, hn⟩ := hds
      cases (show ws = [] from hn)
      exact .inl ⟨fn, hf, d, w, F', _, rfl, hw, g1, vend c1 q⟩
    | [d, e], hds, g1 =>
      obtain ⟨fn, hf, g1⟩ := oK_of o.hG g1
      obtain ⟨w, ws, F', rfl, hw, w2, ws2, F2, rfl, hw2, hn⟩ := hds
      cases (show ws2 = [] from hn)
      exact .inr ⟨fn, hf, d, e, w, w2, F', F2, _, rfl, hw, hw2, g1, vend c1 q⟩
    | _ :: _ :: _ :: _, hds, g1 => exact absurd g1 o.hG
omit S o in
theorem lk_mem {α : Type} {l : List (Str × α)} {x : Str} {k : α} (h : l.lookup x = some k) : (x, k) ∈ l := by
  induction l with
  | nil => simp at h
  | cons y l ih =>
    obtain ⟨n, k'⟩ := y
    cases e : x == n with
    | true =>
      simp only [List.lookup_cons, e] at h
      cases h
      rw [eq_of_beq e]
      exact List.mem_cons_self
    | false =>
      simp only [List.lookup_cons, e] at h
      exact List.mem_cons_of_mem _ (ih h)
omit S o in
theorem lk_none {α : Type} : ∀ {l : List (Str × α)} {x : Str}, l.lookup x = none ↔ x ∉ l.map (·.1)
  | [], x => by simp
  | (n, k) :: l, x => by
    rw [List.lookup_cons, List.map_cons, List.mem_cons]
    cases e : x == n with
    | true => simp [eq_of_beq e]
    | false =>
      have : x ≠ n := by simpa using e
      simp only
      rw [lk_none]
      simp [this]
omit S o in
theorem fn1_none {lim : Nat} {f : Str} (h : fn1 lim f = none) : fn1 0 f = none := by
  unfold fn1 at h ⊢
  rw [lk_none] at h ⊢
  exact h
omit S o in
theorem fn1_cases {lim : Nat} {f : Str} {fn : D → (D → Res) → Res} (h : fn1 lim f = some fn) : (f, fn) ∈ tab1 lim := lk_mem h
omit S o in
theorem fn2_cases {f : Str} {fn : D → D → (D → Res) → Res} (h : fn2 f = some fn) : (f = "max" ∧ fn = dMax2) ∨ (f = "min" ∧ fn = dMin2) ∨ (f = "divmod" ∧ fn = dDvm) := by
  have h2 := lk_mem h
  unfold tab2 at h2
  rcases List.mem_cons.mp h2 with h2 | h2
  · cases h2; exact .inl ⟨rfl, rfl⟩
  rcases List.mem_cons.mp h2 with h2 | h2
  · cases h2; exact .inr (.inl ⟨rfl, rfl⟩)
  rcases List.mem_cons.mp h2 with h2 | h2
  · cases h2; exact .inr (.inr ⟨rfl, rfl⟩)
  · simp at h2
theorem e_bi (f : Str) (p : Pos) (args : List Expr) (pos : Pos) (hb : isBi C sc f = true) (hst : noStar args = true) :
    PE X (.Call (.Name f p) args [] pos) (RdE X.K G A0 H0 false false (fun ρ k => ckK (isB1 f) (argE R C sc args ρ fun as ρ1 => biE C f as ρ1 k))) := by
  cases hB : isB1 f with
  | false => exact e_stuck o
  | true =>
  refine PE.imp (t := RdE X.K G A0 H0 false false (fun ρ k => argE R C sc args ρ fun as ρ1 => biE C f as ρ1 k)) ?_ fun σ H Q h => h
  have no2 : ∀ {g : Str} {v : Value}, g ≠ "max" → g ≠ "min" → g ≠ "divmod" → ∀ fn, fn2 g = some fn → CallR X v (rB2 G X.K fn) := fun {g v} a b c fn h => by
    rcases fn2_cases h with ⟨e, _⟩ | ⟨e, _⟩ | ⟨e, _⟩
    · exact absurd e a
    · exact absurd e b
    · exact absurd e c
  cases h1 : fn1 C.lim f with
  | some fn =>
    have key : ∀ (v : Value), bootBuiltins f = some v → ((∃ id, v = .builtin id) ∨ ∃ T, v = .type T) → CallR X v (rB1 G X.K fn) → (∀ fn, fn2 f = some fn → CallR X v (rB2 G X.K fn)) → PE X (.Call (.Name f p) args [] pos) (RdE X.K G A0 H0 false false (fun ρ k => argE R C sc args ρ fun as ρ1 => biE C f as ρ1 k)) := fun v hv hv2 c1 c2 =>
      e_biC S o f p args pos v hb hst hv hv2 (fun fn' h' => by rw [h1] at h'; cases h'; exact c1) c2
    have hm := fn1_cases h1
    unfold tab1 at hm
    rcases List.mem_cons.mp hm with hm | hm
    · cases hm
      exact key _ rfl (.inl ⟨_, rfl⟩) (c_len o.hG) (no2 (by decide +kernel) (by decide +kernel) (by decide +kernel))
    rcases List.mem_cons.mp hm with hm | hm
    · cases hm
      exact key _ rfl (.inr ⟨_, rfl⟩) (c_int o.hG o.lim) (no2 (by decide +kernel) (by decide +kernel) (by decide +kernel))
    rcases List.mem_cons.mp hm with hm | hm
    · cases hm
      exact key _ rfl (.inr ⟨_, rfl⟩) (c_str o.hG) (no2 (by decide +kernel) (by decide +kernel) (by decide +kernel))
    rcases List.mem_cons.mp hm with hm | hm
    · cases hm
      exact key _ rfl (.inr ⟨_, rfl⟩) (c_tuple o.hG) (no2 (by decide +kernel) (by decide +kernel) (by decide +kernel))
    rcases List.mem_cons.mp hm with hm | hm
    · cases hm
      exact key _ rfl (.inl ⟨_, rfl⟩) (c_abs o.hG) (no2 (by decide +kernel) (by decide +kernel) (by decide +kernel))
    rcases List.mem_cons.mp hm with hm | hm
    · cases hm
      exact key _ rfl (.inl ⟨_, rfl⟩) (c_ord o.hG) (no2 (by decide +kernel) (by decide +kernel) (by decide +kernel))
    rcases List.mem_cons.mp hm with hm | hm
    · cases hm
      exact key _ rfl (.inl ⟨_, rfl⟩) (c_all o.hG o.calm) (no2 (by decide +kernel) (by decide +kernel) (by decide +kernel))
    rcases List.mem_cons.mp hm with hm | hm
    · cases hm
      exact key _ rfl (.inl ⟨_, rfl⟩) (c_any o.hG o.calm) (no2 (by decide +kernel) (by decide +kernel) (by decide +kernel))
    rcases List.mem_cons.mp hm with hm | hm
    · cases hm
      exact key _ rfl (.inl ⟨_, rfl⟩) (c_sum o.hG o.calm) (no2 (by decide +kernel) (by decide +kernel) (by decide +kernel))
    rcases List.mem_cons.mp hm with hm | hm
    · cases hm
      exact key _ rfl (.inl ⟨_, rfl⟩) (c_max1 o.hG o.calm) fun fn h => by
        rcases fn2_cases h with ⟨_, rfl⟩ | ⟨e, _⟩ | ⟨e, _⟩
        · exact c_max2 o.hG o.calm
        · exact absurd e (by decide +kernel)
        · exact absurd e (by decide +kernel)
    rcases List.mem_cons.mp hm with hm | hm
    · cases hm
      exact key _ rfl (.inl ⟨_, rfl⟩) (c_min1 o.hG o.calm) fun fn h => by
        rcases fn2_cases h with ⟨e, _⟩ | ⟨_, rfl⟩ | ⟨e, _⟩
        · exact absurd e (by decide +kernel)
        · exact c_min2 o.hG o.calm
        · exact absurd e (by decide +kernel)
    rcases List.mem_cons.mp hm with hm | hm
    · cases hm
      exact key _ rfl (.inr ⟨_, rfl⟩) (c_type o.hG) (no2 (by decide +kernel) (by decide +kernel) (by decide +kernel))
    rcases List.mem_cons.mp hm with hm | hm
    · cases hm
      exact key _ rfl (.inl ⟨_, rfl⟩) (c_sorted o.hG) (no2 (by decide +kernel) (by decide +kernel) (by decide +kernel))
    · simp at hm
  | none =>
    cases h2 : fn2 f with
    | some fn =>
      rcases fn2_cases h2 with ⟨rfl, rfl⟩ | ⟨rfl, rfl⟩ | ⟨rfl, rfl⟩
      · cases h1
      · cases h1
      · exact e_biC S o _ p args pos (.builtin "divmod") hb hst rfl (.inl ⟨_, rfl⟩) (fun fn' h' => by rw [h1] at h'; cases h') fun fn' h' => by rw [h2] at h'; cases h'; exact c_dvm o.hG
    | none =>
      unfold isB1 at hB
      rw [fn1_none h1, h2] at hB
      cases hB
omit S o in
theorem i2K_of {ds : List D} {r : Int → Int → Res} (hG : ¬ G .stuck) (g : G (i2K ds r)) : ∃ a b, ds = [.int a, .int b] ∧ G (r a b) := by
  unfold i2K at g
  split at g
  · exact ⟨_, _, rfl, g⟩
  · exact absurd g hG
theorem e_mth (f : Str) (p : Pos) (args : List Expr) (pos : Pos) (id : String) (hm : mthOf C sc f = some id) (hst : noStar args = true) :
    PE X (.Call (.Name f p) args [] pos) (RdE X.K G A0 H0 false false (fun ρ k => ckK (mthB id) (argE R C sc args ρ fun as ρ1 => mthE id as ρ1 k))) := by
  have hg : globOf C sc f = .mth id := by
    unfold mthOf at hm
    split at hm
    · cases hm; assumption
    · cases hm
  obtain ⟨f1, f2, f3⟩ := globOf_of hg (fun z => nomatch z)
  obtain ⟨n1, n2, n3⟩ := okName_of f2
  have hmg := o.mth f id f3
  cases hB : mthB id with
  | false => exact e_stuck o
  | true =>
  refine PE.imp (t := RdE X.K G A0 H0 false false (fun ρ k => argE R C sc args ρ fun as ρ1 => mthE id as ρ1 k)) ?_ fun σ H Q h => h
  cases args with
  | nil => exact e_stuck o
  | cons e es =>
    obtain ⟨hs1, hs2⟩ := star_cons hst X.env
    have rd : ∀ {r : List V → Hp → VK → Prop}, CallR X (.builtin id) r → PE X (.Call (.Name f p) (e :: es) [] pos) (tCB r (RdA X.K G A0 H0 (R.A C sc (e :: es)))) := fun hc =>
      pe_callBfun hc (o.toCok.glx f1) hmg (S.A o (e :: es)) n1 hs1 (star_any hs2 _ _)
    have go : ∀ {r : List V → Hp → VK → Prop}, CallR X (.builtin id) r → (∀ (a b : Int) H Q (k : D → Res), G (mthR id a b k) → VRes G X.K k H Q → r [.int a, .int b] H Q) → PE X (.Call (.Name f p) (e :: es) [] pos) (RdE X.K G A0 H0 false false (fun ρ k => argE R C sc (e :: es) ρ fun as ρ1 => mthE id as ρ1 k)) := fun {r} hc hr => by
      refine PE.imp (rd hc) fun σ H Q ⟨ρ, k, F, k0, f0, en, g, q⟩ => ?_
      refine ⟨ρ, _, F, k0, f0, en, g, fun as ρ1 vs H1 Fe Fv c1 fr dj tr ar g1 => ?_⟩
      obtain ⟨ds, hds, g1⟩ := resB_of o.hG ar c1.en g1
      obtain ⟨a, b, rfl, g1⟩ := i2K_of o.hG g1
      obtain ⟨w, ws, F', rfl, hw, w2, ws2, F2, rfl, hw2, hn⟩ := hds
      cases (show ws2 = [] from hn)
      rw [show w = .int a from hw, show w2 = .int b from hw2]
      exact hr a b H1 Q _ g1 (vend c1 q)
    by_cases h1 : id = "math.gcd"
    · subst h1
      exact go cr_gcd fun a b H Q k g q => ⟨a, b, rfl, q.here (d := .int (Nat.gcd a.natAbs b.natAbs : Nat)) rfl g⟩
    · have h2 : id = "math.lcm" := by
        unfold mthB at hB
        rw [Bool.or_eq_true] at hB
        rcases hB with z | z
        · exact absurd (eq_of_beq z) h1
        · exact eq_of_beq z
      subst h2
      refine go cr_lcm fun a b H Q k g q => ?_
      unfold mthR at g
      rw [if_neg h1] at g
      obtain ⟨hb, g⟩ := ckK_of o.hG g
      rw [Bool.and_eq_true] at hb
      exact ⟨a, b, rfl, of_decide_eq_true hb.1, of_decide_eq_true hb.2, q.here (d := .int (Nat.lcm a.natAbs b.natAbs : Nat)) rfl g⟩
/-- a local that holds a def is called -/
theorem e_callL (f : Str) (p : Pos) (args : List Expr) (pos : Pos) (i : Nat) (hs : slotOf C sc f = some i) (hst : noStar args = true) :
    PE X (.Call (.Name f p) args [] pos) (RdE X.K G A0 H0 false false (fun ρ k => getK ρ i fun d => (match d with
        | .fnv g => (match C.glo g with
          | .fn n => ckK (!args.isEmpty) (callE R C sc g n args ρ k)
          | _ => .stuck)
        | _ => .stuck))) := by
  obtain ⟨h1, h2, h3, h4⟩ := o.toCok.visx hs
  cases args with
  | nil =>
    refine pe_bad fun σ H Q ⟨ρ, k, F, k0, f0, en, g, q⟩ => ?_
    obtain ⟨d, hd, g⟩ := getK_of o.hG g
    cases d with
    | fnv y =>
      dsimp only at g
      split at g
      · exact absurd g o.hG
      · exact absurd g o.hG
    | _ => exact absurd g o.hG
  | cons e es =>
    obtain ⟨hs1, hs2⟩ := star_cons hst X.env
    refine PE.imp (pe_callD (CX := cx) (i := i) (E := EX) (S := fun fa sp => ∃ y n, C.glo y = .fn n ∧ sp = SpD X.K er n (C.call y) ∧ PySem.W.nsIn X.K mainGlobals y = some (some (.ref fa))) (fun fa sp ⟨y, n, hy, hsp, hns⟩ => ?_) h1 h2 o.thr (S.A o (e :: es)) h3 h4 hs1 (star_any hs2 _ _)) fun σ H Q ⟨ρ, k, F, k0, f0, en, g, q⟩ => ?_
    · obtain ⟨fa', lv, fd, ps, hl, F1, hr, hm, hk, hb, hns'⟩ := o.fn y n hy
      rw [hns] at hns'
      cases hns'
      rw [hsp]
      exact ⟨lv, fd, ps, F1, hr, hk, hb⟩
    · obtain ⟨d, hd, g⟩ := getK_of o.hG g
      cases d with
      | fnv y =>
        dsimp only at g
        split at g
        · rename_i n hy
          obtain ⟨v, hv, hr⟩ := Ens.get _ _ _ _ _ en hd
          obtain ⟨fa, rfl, hns⟩ := hr
          refine ⟨fa, _, hv, ⟨y, n, hy, rfl, hns⟩, ρ, _, F, k0, f0, en, g, fun as ρ1 vs H1 Fe Fv c1 fr dj tr ar g1 => ?_⟩
          exact call_core o k0 f0 c1 fr dj ar q g1
        · exact absurd g o.hG
      | _ => exact absurd g o.hG
theorem e_isi (p : Pos) (args : List Expr) (pos : Pos) (hb : isBi C sc "isinstance" = true) (hst : noStar args = true) :
    PE X (.Call (.Name "isinstance" p) args [] pos) (RdE X.K G A0 H0 false false (isiE R C sc args)) := by
  obtain ⟨f1, f2, f3⟩ := isBi_of hb
  obtain ⟨n1, n2, n3⟩ := okName_of f2
  have hm := o.bi _ f3
  match args, hst with
  | [], _ => exact e_stuck o
  | [a], _ => exact e_stuck o
  | a :: b :: c :: r, _ =>
    refine pe_bad fun σ H Q ⟨ρ, k, F, k0, f0, en, g, q⟩ => ?_
    cases b <;> exact absurd g o.hG
  | [a, b], hst =>
    cases b with
    | Name c pc =>
      cases hc : isBi C sc c with
      | false =>
        refine pe_bad fun σ H Q ⟨ρ, k, F, k0, f0, en, g, q⟩ => ?_
        dsimp only [isiE] at g
        rw [hc] at g
        exact absurd g o.hG
      | true =>
        cases hi : isiCls c with
        | none =>
          refine pe_bad fun σ H Q ⟨ρ, k, F, k0, f0, en, g, q⟩ => ?_
          dsimp only [isiE] at g
          rw [hc, hi] at g
          exact absurd g o.hG
        | some n =>
          obtain ⟨b1, b2⟩ := isiCls_of hi
          obtain ⟨g1, g2, g3⟩ := isBi_of hc
          obtain ⟨m1, m2, m3⟩ := okName_of g2
          obtain ⟨h1, h2⟩ := star_cons hst X.env
          refine PE.imp (pe_callB (c_isi o.hG b2) (o.toCok.glx f1) hm rfl (pa_cons (S.E o a) (pa_cons (pe_bltn (v := .ty n) (o.toCok.glx g1) (o.bi _ g3) b1 rfl m3 m1) pa_nil) h1) n3 n1 h1 (star_any h2 _ _)) fun σ H Q ⟨ρ, k, F, k0, f0, en, g, q⟩ => ?_
          dsimp only [isiE] at g
          rw [hc, hi] at g
          refine ⟨ρ, _, F, k0, f0, en, g, fun d ρ1 v H1 Fe c1 v1 _ g1 => ?_⟩
          obtain ⟨Fx, hx⟩ := v1.any
          exact ⟨d, v, Fx, _, rfl, hx, g1, vend c1 q⟩
    | _ => exact e_stuck o

/-! ### methods -/
theorem all_few {e : Expr} {es : List Expr} {pos : Pos} {env : PySem.Env} (h : noStar (e :: es) = true) (hn : (e :: es).length < 20) :
    ((backTo pos (starEach (e :: es) env)).all (fun x => !x.1) && (backToKw pos (keywordEach [] env)).all (fun x => x.1.isSome)
      && decide ((e :: es).length + ([] : List Keyword).length + (if ([] : List Keyword).isEmpty then 0 else 1) < 30)) = true := by
  rw [star_all h]
  have : decide ((e :: es).length + ([] : List Keyword).length + (if ([] : List Keyword).isEmpty then 0 else 1) < 30) = true := by
    apply decide_eq_true
    show (e :: es).length + 0 + 0 < 30
    omega
  rw [this]
  rfl
theorem e_strM1 (ob : Expr) (m : Str) (args : List Expr) (ap p : Pos) (id : String) (slot : Slot "str" m id) (hty : typeOf (.builtin id) = pure (.type "method_descriptor")) (hm : MtR X id (rStrM G X.K m))
    (hop : opG ob = true) (hl : (ap.endLine == p.line) = true) (hst : noStar args = true) (hne : args ≠ []) (hn : args.length < 20) :
    PE X (.Call (.Attribute ob m ap) args [] p) (RdE X.K G A0 H0 false false (fun ρ k => R.E C sc ob ρ fun d ρ1 => oK (asS [d]) fun x => R.A C sc args ρ1 fun as ρ2 => resB as ρ2 fun ds => strM m x ds fun z => k z ρ2)) := by
  cases args with
  | nil => exact absurd rfl hne
  | cons e es =>
    obtain ⟨h1, h2⟩ := star_cons hst X.env
    refine PE.imp (pe_bm PySem.F.plainAttrs_str slot hty hm (S.E o ob) (S.A o (e :: es)) (base_ok hop _ _ _) (all_few S o hst hn) hl h1 (star_any h2 _ _)) fun σ H Q ⟨ρ, k, F, k0, f0, en, g, q⟩ => ?_
    refine ⟨ρ, _, F, k0, f0, en, g, fun d ρ1 v H1 Fe c1 v1 _ g1 => ?_⟩
    obtain ⟨x, hx, g1⟩ := oK_of o.hG g1
    have hd := asS_of hx
    cases hd
    obtain ⟨Fx, rx⟩ := v1.any
    cases (show v = .str x from rx)
    refine ⟨rfl, ρ1, _, Fe, c1.keep k0 f0, c1.from k0 f0, c1.en, g1, fun as ρ2 vs H2 Fe2 Fv2 c2 fr2 dj2 tr2 ar2 g2 => ?_⟩
    obtain ⟨ds, hds, g2⟩ := resB_of o.hG ar2 c2.en g2
    exact ⟨x, ds, _, rfl, hds, g2, vend (c1.trans c2) q⟩
theorem e_strM (ob : Expr) (m : Str) (args : List Expr) (ap p : Pos) (hop : opG ob = true) (hl : (ap.endLine == p.line) = true) (hst : noStar args = true) (hne : args ≠ []) (hn : args.length < 20) :
    PE X (.Call (.Attribute ob m ap) args [] p) (RdE X.K G A0 H0 false false (strE R C sc ob m args)) := by
  by_cases h1 : m = "join"
  · subst h1; exact e_strM1 S o ob _ args ap p _ PySem.F.slot_str_join PySem.F.type_str_join (m_join o.hG) hop hl hst hne hn
  by_cases h2 : m = "find"
  · subst h2; exact e_strM1 S o ob _ args ap p _ PySem.F.slot_str_find PySem.F.type_str_find (m_find o.hG) hop hl hst hne hn
  by_cases h3 : m = "lstrip"
  · subst h3; exact e_strM1 S o ob _ args ap p _ PySem.F.slot_str_lstrip PySem.F.type_str_lstrip (m_lstrip o.hG) hop hl hst hne hn
  by_cases h4 : m = "split"
  · subst h4; exact e_strM1 S o ob _ args ap p _ PySem.F.slot_str_split PySem.F.type_str_split (m_split o.hG) hop hl hst hne hn
  by_cases h5 : m = "removeprefix"
  · subst h5; exact e_strM1 S o ob _ args ap p _ PySem.F.slot_str_removeprefix PySem.F.type_str_removeprefix (m_removeprefix o.hG) hop hl hst hne hn
  by_cases h6 : m = "startswith"
  · subst h6; exact e_strM1 S o ob _ args ap p _ PySem.F.slot_str_startswith PySem.F.type_str_startswith (m_startswith o.hG) hop hl hst hne hn
  by_cases h7 : m = "endswith"
  · subst h7; exact e_strM1 S o ob _ args ap p _ PySem.F.slot_str_endswith PySem.F.type_str_endswith (m_endswith o.hG) hop hl hst hne hn
  by_cases h8 : m = "partition"
  · subst h8; exact e_strM1 S o ob _ args ap p _ PySem.F.slot_str_partition PySem.F.type_str_partition (m_partition o.hG) hop hl hst hne hn
  have e : isStrM m = false := by
    unfold isStrM
    rw [beq_eq_false_iff_ne.mpr h1, beq_eq_false_iff_ne.mpr h2, beq_eq_false_iff_ne.mpr h3, beq_eq_false_iff_ne.mpr h4, beq_eq_false_iff_ne.mpr h5, beq_eq_false_iff_ne.mpr h6, beq_eq_false_iff_ne.mpr h7, beq_eq_false_iff_ne.mpr h8]
    rfl
  refine pe_bad fun σ H Q ⟨ρ, k, F, k0, f0, en, g, q⟩ => ?_
  unfold strE at g
  rw [e] at g
  exact absurd g o.hG
theorem e_str0 (ob : Expr) (m : Str) (ap p : Pos) (hop : opG ob = true) (hl : (ap.endLine == p.line) = true) : PE X (.Call (.Attribute ob m ap) [] [] p) (RdE X.K G A0 H0 false false (str0E R C sc ob m)) := by
  by_cases h1 : m = "isdigit"
  · subst h1
    refine PE.imp (pe_m0 PySem.F.slot_str_isdigit PySem.F.type_str_isdigit (m_isdigit o.hG) (S.E o ob) (base_ok hop _ _ _) hl) fun σ H Q ⟨ρ, k, F, k0, f0, en, g, q⟩ => ?_
    unfold str0E at g
    replace g : G (R.E C sc ob ρ _) := g
    refine ⟨ρ, _, F, k0, f0, en, g, fun d ρ1 v H1 Fe c1 v1 _ g1 => ?_⟩
    obtain ⟨x, hx, g2⟩ := oK_of o.hG g1
    clear g1
    have hd := asS_of hx
    cases hd
    obtain ⟨Fx, rx⟩ := v1.any
    cases (show v = .str x from rx)
    exact ⟨⟨x, rfl⟩, rfl, x, _, rfl, g2, vend c1 q⟩
  · refine pe_bad fun σ H Q ⟨ρ, k, F, k0, f0, en, g, q⟩ => ?_
    unfold str0E at g
    rw [beq_eq_false_iff_ne.mpr h1] at g
    exact absurd g o.hG
omit S o in
theorem srtF_of {f : Str} {args : List Expr} {a : Expr} (h : srtF f args = some a) : ∃ p2 pos2, f = "sorted" ∧ args = [.Call (.Name "set" p2) [a] [] pos2] := by
  unfold srtF at h
  split at h
  · split at h
    · rename_i hh
      obtain ⟨rfl, rfl⟩ := hh
      cases h
      exact ⟨_, _, rfl, rfl⟩
    · cases h
  · cases h
omit S o in
theorem insU_mem (x k : Int) : ∀ l : List Int, k ∈ insU x l ↔ k = x ∨ k ∈ l
  | [] => by simp [insU]
  | y :: l => by
    unfold insU
    split
    · simp
    · split
      · rename_i h1 h2
        subst h2
        simp
      · simp [insU_mem x k l]
        constructor <;> (intro h; rcases h with h | h | h <;> simp [h])
omit S o in
theorem insU_asc (x : Int) : ∀ l : List Int, l.Pairwise (· < ·) → (insU x l).Pairwise (· < ·)
  | [], _ => by simp [insU]
  | y :: l, h => by
    obtain ⟨h1, h2⟩ := List.pairwise_cons.mp h
    unfold insU
    split
    · rename_i hxy
      refine List.pairwise_cons.mpr ⟨fun z hz => ?_, h⟩
      rcases List.mem_cons.mp hz with rfl | hz
      · exact hxy
      · exact Int.lt_trans hxy (h1 z hz)
    · split
      · exact h
      · rename_i h3 h4
        refine List.pairwise_cons.mpr ⟨fun z hz => ?_, insU_asc x l h2⟩
        rcases (insU_mem x z l).mp hz with rfl | hz
        · omega
        · exact h1 z hz
omit S o in
theorem sortU_mem (k : Int) : ∀ l : List Int, k ∈ sortU l ↔ k ∈ l
  | [] => by simp [sortU]
  | y :: l => by
    show k ∈ insU y (sortU l) ↔ _
    rw [insU_mem, sortU_mem k l, List.mem_cons]
omit S o in
theorem sortU_asc : ∀ l : List Int, (sortU l).Pairwise (· < ·)
  | [] => List.Pairwise.nil
  | y :: l => insU_asc y _ (sortU_asc l)
omit S o in
theorem asc_eq : ∀ (a b : List Int), a.Pairwise (· < ·) → b.Pairwise (· < ·) → (∀ k, k ∈ a ↔ k ∈ b) → a = b
  | [], [], _, _, _ => rfl
  | [], y :: b, _, _, h => absurd ((h y).mpr List.mem_cons_self) (by simp)
  | x :: a, [], _, _, h => absurd ((h x).mp List.mem_cons_self) (by simp)
  | x :: a, y :: b, ha, hb, h => by
    obtain ⟨a1, a2⟩ := List.pairwise_cons.mp ha
    obtain ⟨b1, b2⟩ := List.pairwise_cons.mp hb
    have e : x = y := by
      rcases List.mem_cons.mp ((h x).mp List.mem_cons_self) with q | q
      · exact q
      · rcases List.mem_cons.mp ((h y).mpr List.mem_cons_self) with z | z
        · exact z.symm
        · have := b1 x q
          have := a1 y z
          omega
    subst e
    rw [asc_eq a b a2 b2 fun k => ?_]
    constructor
    · intro hk
      rcases List.mem_cons.mp ((h k).mp (List.mem_cons_of_mem _ hk)) with q | q
      · have := a1 k hk; omega
      · exact q
    · intro hk
      rcases List.mem_cons.mp ((h k).mpr (List.mem_cons_of_mem _ hk)) with q | q
      · have := b1 k hk; omega
      · exact q
omit S o in
theorem intsD_vs {K : PySem.W.Frag} {H : Hp} : ∀ {ds : List D} {ns : List Int} {vs : List V} {F : Fp}, intsD ds = some ns → Rps K H ds vs F → vs = ns.map V.int
  | [], ns, vs, F, h, r => by
    cases h
    exact r
  | d :: ds, ns, vs, F, h, r => by
    obtain ⟨v, ws, G1, G2, rfl, h1, h2, _⟩ := r
    cases d with
    | int i =>
      simp only [intsD, Option.map_eq_some_iff] at h
      obtain ⟨ms, hm, rfl⟩ := h
      rw [show v = V.int i from h1, intsD_vs hm h2]
      rfl
    | _ => cases h
omit S o in
theorem rps_I {K : PySem.W.Frag} {H : Hp} : ∀ (ns : List Int) (F : Fp), Rps K H (ns.map D.int) (ns.map V.int) F
  | [], _ => rfl
  | n :: ns, F => ⟨.int n, ns.map V.int, F0, F0, rfl, rfl, rps_I ns F0, fun _ z => z.elim, fun _ z => z.elim, fun _ z => z.elim⟩
theorem e_srt (p p2 : Pos) (a : Expr) (pos pos2 : Pos) (hb : isBi C sc "sorted" = true) (hb2 : isBi C sc "set" = true) (hst : noStar [a] = true) (hst2 : noStar [.Call (.Name "set" p2) [a] [] pos2] = true) :
    PE X (.Call (.Name "sorted" p) [.Call (.Name "set" p2) [a] [] pos2] [] pos) (RdE X.K G A0 H0 false false (srtE R C sc a)) := by
  obtain ⟨f1, f2, f3⟩ := isBi_of hb
  obtain ⟨n1, n2, n3⟩ := okName_of f2
  obtain ⟨g1, g2, g3⟩ := isBi_of hb2
  obtain ⟨m1, m2, m3⟩ := okName_of g2
  obtain ⟨s1, s2⟩ := star_cons hst X.env
  obtain ⟨s3, s4⟩ := star_cons hst2 X.env
  refine PE.imp (pe_callB (cr_sortedSet o.calm) (o.toCok.glx f1) (o.bi _ f3) rfl (pa_cons (pe_callTy (TSt.cr_setI o.calm) (o.toCok.glx g1) (o.bi _ g3) rfl (pa_cons (S.E o a) pa_nil s1) m3 m1 s1 (star_any s2 _ _)) pa_nil s3) n3 n1 s3 (star_any s4 _ _)) fun σ H Q ⟨ρ, k, F, k0, f0, en, g, q⟩ => ?_
  refine ⟨ρ, _, F, k0, f0, en, g, fun d ρ1 v H1 Fe c1 v1 _ g1 => ?_⟩
  cases d with
  | lst ds =>
    replace g1 : G (oK (intsD ds) fun ns => ckK (decide (ns.length < 64)) (k (.lst ((sortU ns).map D.int)) ρ1)) := g1
    obtain ⟨ns, hns, g1⟩ := oK_of o.hG g1
    obtain ⟨hl, g1⟩ := ckK_of o.hG g1
    rw [decide_eq_true_eq] at hl
    obtain ⟨Fv, l, vs, rfl, hq, _, hr⟩ := v1.any
    cases intsD_vs hns hr
    refine ⟨l, ns, rfl, .inl (.inl hq), by omega, fun b Sx c hb0 hS hc => ?_⟩
    refine ⟨b, Sx, c, rfl, upd_same, by omega, fun ns' p hp1 hp2 hp3 hn3 => ?_⟩
    have e : ns' = sortU ns := asc_eq _ _ hp1 (sortU_asc ns) fun k => by rw [hp2, hS, sortU_mem]
    subst e
    have k1 : Keep F0 H1 (upd H1 b (SetO X.w b Sx c)) := Keep.new hb0
    refine vend c1 q (.lst ((sortU ns).map D.int)) (.ref p) _ (fun z => z = p) (k1.trans (Keep.new hn3) fun _ z => .inl z) (fun z hz => .inr (k1.g _ (by rw [show z = p from hz]; exact hn3))) ⟨p, _, rfl, upd_same, rfl, rps_I _ _⟩ g1
  | _ => exact absurd g1 o.hG
theorem e_append (x : Str) (xp : Pos) (args : List Expr) (ap p : Pos) (i : Nat) (hs : slotOf C sc x = some i) (hl : (ap.endLine == p.line) = true) (hst : noStar args = true) (hne : args ≠ []) (hn : args.length < 20) :
    PE X (.Call (.Attribute (.Name x xp) "append" ap) args [] p) (RdE X.K G A0 H0 false false (fun ρ k => getK ρ i fun d => (match d with
        | .lst _ => appE R C sc "append" i args ρ k
        | _ => .stuck))) := by
  cases args with
  | nil => exact absurd rfl hne
  | cons e es =>
    obtain ⟨h1, h2⟩ := star_cons hst X.env
    obtain ⟨x1, x2, x3, x4⟩ := o.toCok.visx hs
    refine PE.imp (pe_bm PySem.F.plainAttrs_list PySem.F.slot_list_append PySem.F.type_list_append mt_append (pe_var (i := i) x1 x2 x3 x4) (S.A o (e :: es)) rfl (all_few S o hst hn) hl h1 (star_any h2 _ _)) fun σ H Q ⟨ρ, k, F, k0, f0, en, g, q⟩ => ?_
    obtain ⟨d0, hd0, g⟩ := getK_of o.hG g
    cases d0 with
    | lst zs0 =>
      obtain ⟨v, hv, r⟩ := Ens.get _ _ _ _ _ en hd0
      obtain ⟨a, vs0, rfl, ha, _, _⟩ := r
      refine ⟨_, hv, .inl ⟨rfl, _, .inl (.inl ha)⟩, ρ, _, F, k0, f0, en, g, fun as ρ1 vs H1 Fe Fv c1 fr dj tr ar g1 => ?_⟩
      obtain ⟨ds, hds, g1⟩ := resP_of o.hG ar c1.en g1
      obtain ⟨y, hy, g1⟩ := oK_of o.hG g1
      cases as1_of hy
      obtain ⟨w, ws, G1, G2, rfl, rw_, hn', s1, s2, _⟩ := hds
      cases (show ws = [] from hn')
      obtain ⟨d1, hd1, g1⟩ := getK_of o.hG g1
      cases d1 with
      | lst zs =>
        obtain ⟨hz, g1⟩ := ckK_of o.hG g1
        obtain ⟨v', E1, E2, hv', r', en', t1, t2, d12⟩ := Ens.take _ _ _ _ _ c1.en hd1
        rw [hv] at hv'; cases hv'
        obtain ⟨a', us, e', ha', hE, hus⟩ := r'
        cases e'
        have hlen := Rps.length _ _ _ hus
        have kp : Keep (fun z => z = a) H1 (upd H1 a (.lst (us ++ [w]))) := Keep.set ha' rfl (fun z => z)
        have naF : ¬ Fv a := fun z => dj a (t1 a hE) z
        have na2 : ¬ E2 a := fun z => d12 a hE z
        have rp1 : Rps X.K (upd H1 a (.lst (us ++ [w]))) (zs ++ [y]) (us ++ [w]) (fun b => (E1 b ∨ G1 b) ∧ b ≠ a) := by
          have q1 := Rps.stay kp _ _ _ (fun b hb e => hb.2 e) hus
          have q2 := Rp.stay kp y w G1 (fun b hb e => naF (by rw [← show b = a from e]; exact s1 b hb)) rw_
          refine Rps.mono _ _ _ _ (fun b hb => ?_) (Rps.snoc _ _ _ _ _ _ q1 q2 fun b p q => dj b (t1 b p.1) (s1 b q))
          rcases hb with hb | hb
          · exact ⟨.inl hb.1, hb.2⟩
          · exact ⟨.inr hb, fun e => naF (by rw [← e]; exact s1 b hb)⟩
        have rp : Rp X.K (upd H1 a (.lst (us ++ [w]))) (.lst (zs ++ [y])) (.ref a) (fun b => E1 b ∨ G1 b) := ⟨a, us ++ [w], rfl, upd_same, .inl hE, rp1⟩
        have en2 := Ens.stay kp _ _ _ (fun b hb (e : b = a) => na2 (e ▸ hb)) en'
        have en3 := Ens.back en2 hv rp (fun b p q => q.elim (fun z => d12 b z p) fun z => dj b (t2 b p) (s1 b z))
        refine ⟨a, us, w, rfl, rfl, ha', by rw [hlen]; rw [← szLine_eq]; exact of_decide_eq_true hz, ?_⟩
        refine q .non _ .non _ _ ⟨c1.kp.trans (kp.mono fun b e => (show b = a from e) ▸ t1 a hE) c1.fr, c1.im.trans fun j d' e p' => ?_, fun b hb => ?_, Ens.trim _ _ _ en3, fun b hb => hb.2⟩ (.inr ⟨_, OwnV.pure (Fx := F0) rfl rfl⟩) (fun z => nomatch z) g1
        · by_cases hj : i = j
          · subst hj
            exact ⟨_, hd1, rfl⟩
          · rw [List.getElem?_set_ne hj] at e; exact ⟨d', e, p'⟩
        · rcases hb.1 with hb | hb | hb
          · exact c1.fr b (t2 b hb)
          · exact c1.fr b (t1 b hb)
          · exact fr b (s1 b hb)
      | _ => exact absurd g1 o.hG
    | _ => exact absurd g o.hG
theorem e_extend (x : Str) (xp : Pos) (args : List Expr) (ap p : Pos) (i : Nat) (hs : slotOf C sc x = some i) (hl : (ap.endLine == p.line) = true) (hst : noStar args = true) (hne : args ≠ []) (hn : args.length < 20) :
    PE X (.Call (.Attribute (.Name x xp) "extend" ap) args [] p) (RdE X.K G A0 H0 false false (fun ρ k => getK ρ i fun d => (match d with
        | .lst _ => appE R C sc "extend" i args ρ k
        | _ => .stuck))) := by
  cases args with
  | nil => exact absurd rfl hne
  | cons e es =>
    obtain ⟨h1, h2⟩ := star_cons hst X.env
    obtain ⟨x1, x2, x3, x4⟩ := o.toCok.visx hs
    refine PE.imp (pe_bm PySem.F.plainAttrs_list PySem.F.slot_list_extend PySem.F.type_list_extend mt_extend (pe_var (i := i) x1 x2 x3 x4) (S.A o (e :: es)) rfl (all_few S o hst hn) hl h1 (star_any h2 _ _)) fun σ H Q ⟨ρ, k, F, k0, f0, en, g, q⟩ => ?_
    obtain ⟨d0, hd0, g⟩ := getK_of o.hG g
    cases d0 with
    | lst zs0 =>
      obtain ⟨v, hv, r⟩ := Ens.get _ _ _ _ _ en hd0
      obtain ⟨a, vs0, rfl, ha, _, _⟩ := r
      refine ⟨_, hv, .inl ⟨rfl, _, .inl (.inl ha)⟩, ρ, _, F, k0, f0, en, g, fun as ρ1 vs H1 Fe Fv c1 fr dj tr ar g1 => ?_⟩
      obtain ⟨ds, hds, g1⟩ := resP_of o.hG ar c1.en g1
      obtain ⟨y, hy, g1⟩ := oK_of o.hG g1
      cases as1_of hy
      cases y with
      | lst es =>
        obtain ⟨pu, g1⟩ := pusK_of o.hG g1
        obtain ⟨w, ws, G1, G2, rfl, rw_, hn', s1, s2, _⟩ := hds
        cases (show ws = [] from hn')
        obtain ⟨b0, us2, rfl, hb0, hG0, hus2⟩ := rw_
        obtain ⟨d1, hd1, g1⟩ := getK_of o.hG g1
        cases d1 with
        | lst zs =>
          obtain ⟨hz, g1⟩ := ckK_of o.hG g1
          obtain ⟨v', E1, E2, hv', r', en', t1, t2, d12⟩ := Ens.take _ _ _ _ _ c1.en hd1
          rw [hv] at hv'; cases hv'
          obtain ⟨a', us, e', ha', hE, hus⟩ := r'
          cases e'
          have hlen := Rps.length _ _ _ hus
          have hlen2 := Rps.length _ _ _ hus2
          have kp : Keep (fun z => z = a) H1 (upd H1 a (.lst (us ++ us2))) := Keep.set ha' rfl (fun z => z)
          have na2 : ¬ E2 a := fun z => d12 a hE z
          have rp1 : Rps X.K (upd H1 a (.lst (us ++ us2))) (zs ++ es) (us ++ us2) (fun b => E1 b ∧ b ≠ a) := by
            have q1 := Rps.stay kp _ _ _ (fun b hb e => hb.2 e) hus
            have q2 := Rps.stay kp _ _ _ (fun b hb e => hb.elim) (Rps.pure _ _ _ pu hus2)
            exact Rps.mono _ _ _ _ (fun b hb => hb.elim id fun z => z.elim) (Rps.append _ _ _ _ _ _ q1 q2 fun b p q => q.elim)
          have rp : Rp X.K (upd H1 a (.lst (us ++ us2))) (.lst (zs ++ es)) (.ref a) E1 := ⟨a, us ++ us2, rfl, upd_same, hE, rp1⟩
          have en2 := Ens.stay kp _ _ _ (fun b hb (e : b = a) => na2 (e ▸ hb)) en'
          have en3 := Ens.back en2 hv rp (fun b p q => d12 b q p)
          refine ⟨a, b0, us, us2, rfl, rfl, ha', hb0, by rw [hlen, hlen2]; rw [← szLine_eq]; exact of_decide_eq_true hz, ?_⟩
          refine q .non _ .non _ _ ⟨c1.kp.trans (kp.mono fun b e => (show b = a from e) ▸ t1 a hE) c1.fr, c1.im.trans fun j d' e p' => ?_, fun b hb => ?_, Ens.trim _ _ _ en3, fun b hb => hb.2⟩ (.inr ⟨_, OwnV.pure (Fx := F0) rfl rfl⟩) (fun z => nomatch z) g1
          · by_cases hj : i = j
            · subst hj
              exact ⟨_, hd1, rfl⟩
            · rw [List.getElem?_set_ne hj] at e; exact ⟨d', e, p'⟩
          · rcases hb.1 with hb | hb
            · exact c1.fr b (t2 b hb)
            · exact c1.fr b (t1 b hb)
        | _ => exact absurd g1 o.hG
      | _ => exact absurd g1 o.hG
    | _ => exact absurd g o.hG
theorem e_meth (ob : Expr) (m : Str) (args : List Expr) (ap p : Pos) (hop : opG ob = true) (hl : (ap.endLine == p.line) = true) (hst : noStar args = true) (hne : args ≠ []) (hn : args.length < 20) :
    PE X (.Call (.Attribute ob m ap) args [] p) (RdE X.K G A0 H0 false false (methE R C sc ob m args)) := by
  by_cases h1 : m = "append"
  · subst h1
    cases ob with
    | Name x xp =>
      cases hs : slotOf C sc x with
      | some i =>
        refine PE.imp (e_append S o x xp args ap p i hs hl hst hne hn) fun σ H Q ⟨ρ, k, F, k0, f0, en, g, q⟩ => ?_
        unfold methE at g
        rw [if_pos (.inl rfl)] at g
        dsimp only at g
        rw [hs] at g
        exact ⟨ρ, k, F, k0, f0, en, g, q⟩
      | none =>
        refine pe_bad fun σ H Q ⟨ρ, k, F, k0, f0, en, g, q⟩ => ?_
        unfold methE at g
        rw [if_pos (.inl rfl)] at g
        dsimp only at g
        rw [hs] at g
        exact absurd g o.hG
    | _ => exact e_stuck o
  · by_cases h2 : m = "extend"
    · subst h2
      cases ob with
      | Name x xp =>
        cases hs : slotOf C sc x with
        | some i =>
          refine PE.imp (e_extend S o x xp args ap p i hs hl hst hne hn) fun σ H Q ⟨ρ, k, F, k0, f0, en, g, q⟩ => ?_
          unfold methE at g
          rw [if_pos (.inr rfl)] at g
          dsimp only at g
          rw [hs] at g
          exact ⟨ρ, k, F, k0, f0, en, g, q⟩
        | none =>
          refine pe_bad fun σ H Q ⟨ρ, k, F, k0, f0, en, g, q⟩ => ?_
          unfold methE at g
          rw [if_pos (.inr rfl)] at g
          dsimp only at g
          rw [hs] at g
          exact absurd g o.hG
      | _ => exact e_stuck o
    · refine PE.imp (e_strM S o ob m args ap p hop hl hst hne hn) fun σ H Q ⟨ρ, k, F, k0, f0, en, g, q⟩ => ?_
      unfold methE at g
      rw [if_neg (fun z => z.elim h1 h2)] at g
      exact ⟨ρ, k, F, k0, f0, en, g, q⟩
end
end TI
set_option Elab.async false
set_option linter.all false
set_option maxRecDepth 100000
set_option maxHeartbeats 4000000
/-! subscripts, tests -/
namespace TI
open PySem PySem.Spec PyProof.Rows L2


section
variable {K : PySem.W.Frag} {σ : L2.St} {F F1 F2 F3 : Fp} {H H1 H2 H3 : Hp} {ρ ρ1 ρ2 : Env} {d : D} {v : V}
theorem Val2.trans {pth : Bool} (c : Ch K σ F H ρ F1 H1 ρ1) (h : Val2 K pth F1 H1 F2 d v H2) : Val2 K pth F H F2 d v H2 :=
  h.imp id fun ⟨Fv, w⟩ => ⟨Fv, c.fr.trans c.kp w.fr, w.dj, w.rp, w.tr⟩
theorem Val2.wide {pth : Bool} (h : Val2 K pth F H F2 d v H2) : Val2 K true F H F2 d v H2 := h.imp (fun z => ⟨rfl, z.2⟩) id
theorem Val2.tf {pth : Bool} (h : Val2 K pth F H F2 d v H2) (p : d.pu = true) : Val2 K false F H F2 d v H2 := .inr (h.own fun _ => p)
/-- what one was written stays -/
theorem keep_pure {Fx : Fp} (h : Rp K H1 d v Fx) (p : d.pu = true) (c : Ch K σ F1 H1 ρ1 F2 H2 ρ2) : Rp K H2 d v F0 := Rp.stay c.kp _ _ _ (fun _ z => z.elim) (Rp.pure _ _ _ p h)
end
section
variable {X : Cx} {C : Cd} {sc : Scope} {cx : CXT} {er : Er} {EX : XK} {G : Res → Prop} {A0 : Fp} {H0 : Hp} {R : Fns} (S : Snd R) (o : Okx X C sc cx er EX G A0 H0)
include S o
/-! ### subscripts -/
def notSl : Expr → Bool
  | .Slice _ _ _ _ => false
  | _ => true
omit S o in
theorem plain_ix {i : Expr} (h : notSl i = true) : PlainIx i := by
  cases i <;> first
    | exact fun _ _ => rfl
    | cases h
theorem e_ix (b i : Expr) (p : Pos) (hi : notSl i = true) : PE X (.Subscript b i p) (RdE X.K G A0 H0 true false (fun ρ k => R.E C sc b ρ fun d ρ1 => holdK b d i (R.E C sc i ρ1 fun y ρ2 => dIx d y fun z => k z ρ2))) := by
  refine PE.imp (pe_ix (ix_D o.hG) (S.E o b) (S.E o i) (plain_ix hi)) fun σ H Q ⟨ρ, k, F, k0, f0, en, g, q⟩ => ?_
  refine ⟨ρ, _, F, k0, f0, en, g, fun d ρ1 v H1 Fe c1 v1 _ g1 => ?_⟩
  cases hp : (isPath b && !isCalm i) with
  | true =>
    unfold holdK at g1
    rw [hp] at g1
    obtain ⟨p, g1⟩ := puK_of o.hG g1
    obtain ⟨Fv, ow⟩ := v1.own fun _ => p
    refine ⟨ρ1, _, Fe, c1.keep k0 f0, c1.from k0 f0, c1.en, g1, fun d2 ρ2 v2 H2 Fe2 c2 v2' cal2 g2 => ?_⟩
    obtain ⟨Fy, hy⟩ := v2'.any
    exact ⟨d, d2, F0, Fy, _, keep_pure ow.rp p c2, hy, g2, fun r u ru g3 => q r ρ2 u H2 Fe2 (c1.trans c2) (.inl ⟨rfl, Rp.mono _ _ _ _ (fun _ z => z.elim) ru⟩) (fun z => nomatch z) g3⟩
  | false =>
    unfold holdK at g1
    rw [hp] at g1
    refine ⟨ρ1, _, Fe, c1.keep k0 f0, c1.from k0 f0, c1.en, g1, fun d2 ρ2 v2 H2 Fe2 c2 v2' cal2 g2 => ?_⟩
    obtain ⟨Fy, hy⟩ := v2'.any
    rcases v1 with ⟨hb, v1⟩ | ⟨Fv, v1⟩
    · have hc : isCalm i = true := by
        cases e : isCalm i with
        | true => rfl
        | false => rw [hb, e] at hp; cases hp
      obtain ⟨e1, e2⟩ := cal2 hc
      subst e1; subst e2
      refine ⟨d, d2, Fe, Fy, _, v1, hy, g2, fun r u ru g3 => q r ρ2 u H2 Fe c1 (.inl ⟨rfl, ru⟩) (fun z => nomatch z) g3⟩
    · have w := v1.held c2
      exact ⟨d, d2, Fv, Fy, _, w.rp, hy, g2, fun r u ru g3 => q r ρ2 u H2 Fe2 (c1.trans c2) (.inr ⟨Fv, w.fr, w.dj, ru, w.tr⟩) (fun z => nomatch z) g3⟩
theorem e_ixN (x : Str) (xp : Pos) (i : Expr) (p : Pos) (hi : notSl i = true) : PE X (.Subscript (.Name x xp) i p) (RdE X.K G A0 H0 true false (ixN1 R C sc x i)) := by
  cases hs : slotOf C sc x with
  | some j =>
    obtain ⟨x1, x2, x3, x4⟩ := o.toCok.visx hs
    refine PE.imp (pe_ix (ix_D o.hG) (pe_var (i := j) x1 x2 x3 x4) (S.E o i) (plain_ix hi)) fun σ H Q ⟨ρ, k, F, k0, f0, en, g, q⟩ => ?_
    unfold ixN1 at g
    rw [hs] at g
    obtain ⟨d0, hd0, g⟩ := getK_of o.hG g
    obtain ⟨v, hv, r⟩ := Ens.get _ _ _ _ _ en hd0
    refine ⟨v, hv, ρ, _, F, k0, f0, en, g, fun d2 ρ2 v2 H2 Fe2 c2 v2' cal2 g2 => ?_⟩
    obtain ⟨Fy, hy⟩ := v2'.any
    obtain ⟨d1, hd1, g2⟩ := getK_of o.hG g2
    obtain ⟨v', hv', r'⟩ := Ens.get _ _ _ _ _ c2.en hd1
    rw [hv] at hv'; cases hv'
    exact ⟨d1, d2, Fe2, Fy, _, r', hy, g2, fun r u ru g3 => q r ρ2 u H2 Fe2 c2 (.inl ⟨rfl, ru⟩) (fun z => nomatch z) g3⟩
  | none =>
    cases hg : globOf C sc x with
    | kd kvs =>
      obtain ⟨g1, g2, g3⟩ := globOf_of hg (fun z => nomatch z)
      obtain ⟨n1, n2, n3⟩ := okName_of g2
      obtain ⟨a, es, n, hm, D, ks⟩ := o.kd x kvs g3
      refine PE.imp (pe_ix ix_kdict (pe_glob (v := .ref a) (o.toCok.glx g1) hm rfl n1) (S.E o i) (plain_ix hi)) fun σ H Q ⟨ρ, k, F, k0, f0, en, g, q⟩ => ?_
      unfold ixN1 at g
      rw [hs, hg] at g
      refine ⟨ρ, _, F, k0, f0, en, g, fun d2 ρ2 v2 H2 Fe2 c2 v2' cal2 g2 => ?_⟩
      obtain ⟨Fy, hy⟩ := v2'.any
      obtain ⟨z, hz, g2⟩ := oK_of o.hG g2
      have hz' := asS_of hz
      cases hz'
      cases (show v2 = .str z from hy)
      obtain ⟨d, hd, g2⟩ := oK_of (α := TI.D) (o := kdGet kvs z) (k := fun d => k d ρ2) o.hG g2
      obtain ⟨r, hr, hw⟩ := ks z
      rw [show kvs.lookup z = some d from hd] at hw
      obtain ⟨pu, u, v, rfl, ru, rp⟩ := hw
      exact ⟨a, z, v, rfl, rfl, ⟨es, n, u, D.at_, D.lit, hr, ru⟩, q d ρ2 v H2 Fe2 c2 (.inr ⟨_, OwnV.pure (rp H2) pu⟩) (fun z => nomatch z) g2⟩
    | con d =>
      obtain ⟨g1, g2, g3⟩ := globOf_of hg (fun z => nomatch z)
      obtain ⟨n1, n2, n3⟩ := okName_of g2
      obtain ⟨pu, u, v, hm, rv, rp⟩ := o.con x d g3
      refine PE.imp (pe_ix (ix_D o.hG) (pe_glob (o.toCok.glx g1) hm rv n1) (S.E o i) (plain_ix hi)) fun σ H Q ⟨ρ, k, F, k0, f0, en, g, q⟩ => ?_
      unfold ixN1 at g
      rw [hs, hg] at g
      refine ⟨ρ, _, F, k0, f0, en, g, fun d2 ρ2 v2 H2 Fe2 c2 v2' cal2 g2 => ?_⟩
      obtain ⟨Fy, hy⟩ := v2'.any
      exact ⟨d, d2, F0, Fy, _, rp H2, hy, g2, fun r u ru g3 => q r ρ2 u H2 Fe2 c2 (.inl ⟨rfl, Rp.mono _ _ _ _ (fun _ z => z.elim) ru⟩) (fun z => nomatch z) g3⟩
    | _ =>
      refine pe_bad fun σ H Q ⟨ρ, k, F, k0, f0, en, g, q⟩ => ?_
      unfold ixN1 at g
      rw [hs, hg] at g
      exact absurd g o.hG
theorem e_addN (x : Str) (q : Pos) (op : Operator) (b : Expr) (p : Pos) : PE X (.BinOp (.Name x q) op b p) (RdE X.K G A0 H0 false false (addN R C sc x q op b)) := by
  cases hc : isCalm b with
  | true =>
    have e : addN R C sc x q op b = fun ρ k => R.E C sc (.Name x q) ρ fun d ρ1 => holdK (.Name x q) d b (R.E C sc b ρ1 fun y ρ2 => binD op d y fun z => k z ρ2) := by
      funext ρ k
      unfold addN
      rw [hc]
    rw [e]
    exact e_binop S o _ b op p
  | false =>
    cases hs : slotOf C sc x with
    | none =>
      have e : addN R C sc x q op b = fun ρ k => R.E C sc (.Name x q) ρ fun d ρ1 => holdK (.Name x q) d b (R.E C sc b ρ1 fun y ρ2 => binD op d y fun z => k z ρ2) := by
        funext ρ k
        unfold addN
        rw [hc, hs]
      rw [e]
      exact e_binop S o _ b op p
    | some j =>
      obtain ⟨x1, x2, x3, x4⟩ := o.toCok.visx hs
      refine PE.imp (pe_op (op_binD o.hG op) (pe_var (i := j) x1 x2 x3 x4) (S.E o b)) fun σ H Q ⟨ρ, k, F, k0, f0, en, g, q⟩ => ?_
      unfold addN at g
      rw [hc, hs] at g
      obtain ⟨d0, hd0, g⟩ := getK_of o.hG g
      obtain ⟨v, hv, r⟩ := Ens.get _ _ _ _ _ en hd0
      refine ⟨v, hv, ρ, _, F, k0, f0, en, g, fun d2 ρ2 v2 H2 Fe2 c2 v2' cal2 g2 => ?_⟩
      obtain ⟨Fy, hy⟩ := v2'.any
      obtain ⟨d1, hd1, g2⟩ := getK_of o.hG g2
      obtain ⟨v', hv', r'⟩ := Ens.get _ _ _ _ _ c2.en hd1
      rw [hv] at hv'; cases hv'
      exact ⟨d1, d2, Fe2, Fy, _, r', hy, g2, vend c2 q⟩
def RdO (K : PySem.W.Frag) (G : Res → Prop) (A0 : Fp) (H0 : Hp) (f : Env → (Option Int → Env → Res) → Res) : TO := fun σ H Q => ∃ ρ k F, Keep A0 H0 H ∧ Fr A0 H0 F ∧ Ens K H ρ σ F ∧ G (f ρ k) ∧
  ∀ b ρ' H' Fe, Ch K σ F H ρ Fe H' ρ' → G (k b ρ') → Q b H'
theorem o_opt (e : Option Expr) : PO X e (RdO X.K G A0 H0 (optE R C sc e)) := by
  cases e with
  | none => exact ⟨fun pins s σ H Q I ⟨ρ, k, F, k0, f0, en, g, q⟩ => po_none.run pins s σ H Q I (q none ρ H _ (Ch.refl en) g)⟩
  | some e =>
    refine ⟨fun pins s σ H Q I ⟨ρ, k, F, k0, f0, en, g, q⟩ => (po_some (S.E o e)).run pins s σ H Q I ⟨ρ, _, F, k0, f0, en, g, fun d2 ρ2 v2 H2 Fe2 c2 v2' cal2 g2 => ?_⟩⟩
    cases d2 with
    | int i =>
      obtain ⟨Fy, hy⟩ := v2'.any
      cases (show v2 = .int i from hy)
      exact ⟨i, rfl, q (some i) ρ2 H2 Fe2 c2 g2⟩
    | _ => exact absurd g2 o.hG
theorem e_slice (b : Expr) (lo hi : Option Expr) (p p2 : Pos) : PE X (.Subscript b (.Slice lo hi none p2) p) (RdE X.K G A0 H0 false false
    (fun ρ k => R.E C sc b ρ fun d ρ1 => puK d (optE R C sc lo ρ1 fun l ρ2 => optE R C sc hi ρ2 fun h ρ3 => dSl d l h fun z => k z ρ3))) := by
  refine PE.imp (pe_slice (sl_D o.hG) (S.E o b) (o_opt S o lo) (o_opt S o hi)) fun σ H Q ⟨ρ, k, F, k0, f0, en, g, q⟩ => ?_
  refine ⟨ρ, _, F, k0, f0, en, g, fun d ρ1 v H1 Fe c1 v1 _ g1 => ?_⟩
  obtain ⟨p, g1⟩ := puK_of o.hG g1
  obtain ⟨Fv, hv⟩ := v1.any
  refine ⟨ρ1, _, Fe, c1.keep k0 f0, c1.from k0 f0, c1.en, g1, fun l ρ2 H2 Fe2 c2 g2 => ?_⟩
  have c12 := c1.trans c2
  refine ⟨ρ2, _, Fe2, c12.keep k0 f0, c12.from k0 f0, c12.en, g2, fun h ρ3 H3 Fe3 c3 g3 => ?_⟩
  exact ⟨d, F0, _, keep_pure hv p (c2.trans c3), g3, vend (c12.trans c3) q⟩
theorem e_slN (x : Str) (q : Pos) (lo hi : Option Expr) (p p2 : Pos) : PE X (.Subscript (.Name x q) (.Slice lo hi none p2) p) (RdE X.K G A0 H0 false false (slN R C sc x q lo hi)) := by
  cases hs : slotOf C sc x with
  | none =>
    have e : slN R C sc x q lo hi = fun ρ k => R.E C sc (.Name x q) ρ fun d ρ1 => puK d (optE R C sc lo ρ1 fun l ρ2 => optE R C sc hi ρ2 fun h ρ3 => dSl d l h fun z => k z ρ3) := by
      funext ρ k
      unfold slN
      rw [hs]
    rw [e]
    exact e_slice S o _ lo hi p p2
  | some j =>
    obtain ⟨x1, x2, x3, x4⟩ := o.toCok.visx hs
    refine PE.imp (pe_slice (sl_D o.hG) (pe_var (i := j) x1 x2 x3 x4) (o_opt S o lo) (o_opt S o hi)) fun σ H Q ⟨ρ, k, F, k0, f0, en, g, q⟩ => ?_
    unfold slN at g
    rw [hs] at g
    obtain ⟨d0, hd0, g⟩ := getK_of o.hG g
    obtain ⟨v, hv, r⟩ := Ens.get _ _ _ _ _ en hd0
    refine ⟨v, hv, ρ, _, F, k0, f0, en, g, fun l ρ2 H2 Fe2 c2 g2 => ?_⟩
    refine ⟨ρ2, _, Fe2, c2.keep k0 f0, c2.from k0 f0, c2.en, g2, fun h ρ3 H3 Fe3 c3 g3 => ?_⟩
    obtain ⟨d1, hd1, g3⟩ := getK_of o.hG g3
    obtain ⟨v', hv', r'⟩ := Ens.get _ _ _ _ _ c3.en hd1
    rw [hv] at hv'; cases hv'
    exact ⟨d1, Fe3, _, r', g3, vend (c2.trans c3) q⟩
/-! ### comparisons -/
def RdC (K : PySem.W.Frag) (G : Res → Prop) (A0 : Fp) (H0 : Hp) (f : Env → (Bool → Env → Res) → Res) : TE := fun σ H Q => ∃ ρ k F, Keep A0 H0 H ∧ Fr A0 H0 F ∧ Ens K H ρ σ F ∧ G (f ρ k) ∧
  ∀ b ρ' H' Fe, Ch K σ F H ρ Fe H' ρ' → G (k b ρ') → Q (.bl b) H'
omit S o in
theorem nIn_of {op : CmpOp} (h : nIn op = true) (b : Expr) : behindInMarks op b = false := nobehind b (by rintro rfl; cases h) (by rintro rfl; cases h)
/-- both ways: value, test -/
theorem cmp_rel (a : Expr) (op : CmpOp) (b : Expr) (p : Pos) : (∀ t : TE, (∀ σ H Q, t σ H Q → RdC X.K G A0 H0 (cmpE R C sc a op b) σ H Q) → PE X (.Compare a [op] [b] p) t ∧ PT X (.Compare a [op] [b] p) (tTest t)) := by
  intro t ht
  have gen : (∀ ρ k, cmpE R C sc a op b ρ k = ckK (!behindInMarks op b) (match cmpJ C sc a b with
    | some j => getK ρ j fun _ => R.E C sc b ρ fun y ρ2 => getK ρ2 j fun x => cmpD op x y fun c => k c ρ2
    | none => R.E C sc a ρ fun x ρ1 => holdK a x b (R.E C sc b ρ1 fun y ρ2 => cmpD op x y fun c => k c ρ2))) → PE X (.Compare a [op] [b] p) t ∧ PT X (.Compare a [op] [b] p) (tTest t) := fun e => by
    cases hm : behindInMarks op b with
    | true =>
      have bad : ∀ σ H Q, t σ H Q → False := fun σ H Q h => by
        obtain ⟨ρ, k, F, k0, f0, en, g, q⟩ := ht σ H Q h
        rw [e, hm] at g
        exact absurd g o.hG
      exact ⟨pe_bad bad, pt_bad fun σ H Q h => bad σ H _ h⟩
    | false =>
     cases hj : cmpJ C sc a b with
     | some j =>
      obtain ⟨x, q, rfl, hs⟩ : ∃ x q, a = .Name x q ∧ slotOf C sc x = some j := by
        unfold cmpJ at hj
        split at hj
        · split at hj
          · exact ⟨_, _, rfl, hj⟩
          · cases hj
        · cases hj
      obtain ⟨x1, x2, x3, x4⟩ := o.toCok.visx hs
      have core : ∀ σ H Q, t σ H Q → tOp (rCmpD G X.K op) (tVar j) (RdE X.K G A0 H0 (isPath b) (isCalm b) (R.E C sc b)) σ H Q := fun σ H Q h => by
        obtain ⟨ρ, k, F, k0, f0, en, g, q⟩ := ht σ H Q h
        rw [e, hm, hj] at g
        obtain ⟨d0, hd0, g⟩ := getK_of o.hG (show G (getK ρ j _) from g)
        obtain ⟨v, hv, r⟩ := Ens.get _ _ _ _ _ en hd0
        refine ⟨v, hv, ρ, _, F, k0, f0, en, g, fun d2 ρ2 v2 H2 Fe2 c2 v2' cal2 g2 => ?_⟩
        obtain ⟨Fy, hy⟩ := v2'.any
        obtain ⟨d1, hd1, g2⟩ := getK_of o.hG g2
        obtain ⟨v', hv', r'⟩ := Ens.get _ _ _ _ _ c2.en hd1
        rw [hv] at hv'; cases hv'
        exact ⟨d1, d2, Fe2, Fy, _, r', hy, g2, fun b g3 => q b ρ2 H2 Fe2 c2 g3⟩
      exact ⟨PE.imp (pe_cmpR (op_cmpD o.hG o.room op) (pe_var (i := j) x1 x2 x3 x4) (S.E o b) hm) core, PT.imp (pt_cmpR (op_cmpD o.hG o.room op) (pe_var (i := j) x1 x2 x3 x4) (S.E o b) hm) fun σ H Q h => core σ H _ h⟩
     | none =>
      have core : ∀ σ H Q, t σ H Q → tOp (rCmpD G X.K op) (RdE X.K G A0 H0 (isPath a) (isCalm a) (R.E C sc a)) (RdE X.K G A0 H0 (isPath b) (isCalm b) (R.E C sc b)) σ H Q := fun σ H Q h => by
        obtain ⟨ρ, k, F, k0, f0, en, g, q⟩ := ht σ H Q h
        rw [e, hm, hj] at g
        refine ⟨ρ, _, F, k0, f0, en, g, fun d ρ1 v H1 Fe c1 v1 _ g1 => ?_⟩
        obtain ⟨g1, hh⟩ := Val2.hold (hG := o.hG) (σ := σ) (ρ1 := ρ1) v1 g1
        refine ⟨ρ1, _, Fe, c1.keep k0 f0, c1.from k0 f0, c1.en, g1, fun d2 ρ2 v2 H2 Fe2 c2 v2' cal2 g2 => ?_⟩
        obtain ⟨Fx, hx⟩ := kept2 hh c2 cal2
        obtain ⟨Fy, hy⟩ := v2'.any
        exact ⟨d, d2, Fx, Fy, _, hx, hy, g2, fun b g3 => q b ρ2 H2 Fe2 (c1.trans c2) g3⟩
      exact ⟨PE.imp (pe_cmpR (op_cmpD o.hG o.room op) (S.E o a) (S.E o b) hm) core, PT.imp (pt_cmpR (op_cmpD o.hG o.room op) (S.E o a) (S.E o b) hm) fun σ H Q h => core σ H _ h⟩
  cases hk : kdOf C sc b with
  | none =>
    refine gen fun ρ k => ?_
    unfold cmpE
    rw [hk]
    cases op <;> rfl
  | some kvs =>
    obtain ⟨y, yp, rfl, hs, hg⟩ : ∃ y yp, b = .Name y yp ∧ slotOf C sc y = none ∧ globOf C sc y = .kd kvs := by
      unfold kdOf at hk
      split at hk
      · split at hk
        · split at hk
          · cases hk; exact ⟨_, _, rfl, by assumption, by assumption⟩
          · cases hk
        · cases hk
      · cases hk
    obtain ⟨g1, g2, g3⟩ := globOf_of hg (fun z => nomatch z)
    obtain ⟨n1, n2, n3⟩ := okName_of g2
    obtain ⟨a', es, n, hm, D, ks⟩ := o.kd y kvs g3
    have pb := pe_glob (X := X) (v := .ref a') (pos := yp) (o.toCok.glx g1) hm rfl n1
    have look : ∀ z, ∃ r : Option Value, PySem.W.nsIn X.K a' z = some r ∧ r.isSome = (kdGet kvs z).isSome := fun z => by
      obtain ⟨r, hr, hw⟩ := ks z
      refine ⟨r, hr, ?_⟩
      unfold kdGet
      cases hl : kvs.lookup z with
      | none => rw [hl] at hw; rw [show r = none from hw]; rfl
      | some d =>
        rw [hl] at hw
        obtain ⟨_, u, _, hu, _⟩ := hw
        rw [hu]; rfl
    by_cases h1 : op = .In
    · subst h1
      have core : ∀ σ H Q, t σ H Q → tOp (fun x y H Q => ∃ (z : Str) (r : Option Value), x = .str z ∧ y = .ref a' ∧ PySem.W.nsIn X.K a' z = some r ∧ Q (.bl r.isSome) H) (RdE X.K G A0 H0 (isPath a) (isCalm a) (R.E C sc a)) (tC (.ref a')) σ H Q := fun σ H Q h => by
        obtain ⟨ρ, k, F, k0, f0, en, g, q⟩ := ht σ H Q h
        dsimp only [cmpE] at g
        rw [hk] at g
        dsimp only at g
        refine ⟨ρ, _, F, k0, f0, en, g, fun d2 ρ2 v2 H2 Fe2 c2 v2' cal2 g4 => ?_⟩
        obtain ⟨Fy, hy⟩ := v2'.any
        obtain ⟨z, hz, g4⟩ := oK_of o.hG g4
        have hz' := asS_of hz
        cases hz'
        cases (show v2 = .str z from hy)
        obtain ⟨r, hr, he⟩ := look z
        exact ⟨z, r, rfl, rfl, hr, by rw [he]; exact q _ ρ2 H2 Fe2 c2 g4⟩
      exact ⟨PE.imp (pe_cmpR (op_in_kd D) (S.E o a) pb rfl) core, PT.imp (pt_cmpR (op_in_kd D) (S.E o a) pb rfl) fun σ H Q h => core σ H _ h⟩
    by_cases h2 : op = .NotIn
    · subst h2
      have core : ∀ σ H Q, t σ H Q → tOp (fun x y H Q => ∃ (z : Str) (r : Option Value), x = .str z ∧ y = .ref a' ∧ PySem.W.nsIn X.K a' z = some r ∧ Q (.bl (!r.isSome)) H) (RdE X.K G A0 H0 (isPath a) (isCalm a) (R.E C sc a)) (tC (.ref a')) σ H Q := fun σ H Q h => by
        obtain ⟨ρ, k, F, k0, f0, en, g, q⟩ := ht σ H Q h
        dsimp only [cmpE] at g
        rw [hk] at g
        dsimp only at g
        refine ⟨ρ, _, F, k0, f0, en, g, fun d2 ρ2 v2 H2 Fe2 c2 v2' cal2 g4 => ?_⟩
        obtain ⟨Fy, hy⟩ := v2'.any
        obtain ⟨z, hz, g4⟩ := oK_of o.hG g4
        have hz' := asS_of hz
        cases hz'
        cases (show v2 = .str z from hy)
        obtain ⟨r, hr, he⟩ := look z
        exact ⟨z, r, rfl, rfl, hr, by rw [he]; exact q _ ρ2 H2 Fe2 c2 g4⟩
      exact ⟨PE.imp (pe_cmpR (op_notIn_kd D) (S.E o a) pb rfl) core, PT.imp (pt_cmpR (op_notIn_kd D) (S.E o a) pb rfl) fun σ H Q h => core σ H _ h⟩
    refine gen fun ρ k => ?_
    unfold cmpE
    rw [hk]
    cases op <;> first
      | rfl
      | exact absurd rfl h1
      | exact absurd rfl h2
theorem e_cmp (a : Expr) (op : CmpOp) (b : Expr) (p : Pos) : PE X (.Compare a [op] [b] p) (RdE X.K G A0 H0 false false (fun ρ k => cmpE R C sc a op b ρ fun c ρ1 => k (.bl c) ρ1)) :=
  (cmp_rel S o a op b p _ fun σ H Q ⟨ρ, k, F, k0, f0, en, g, q⟩ => ⟨ρ, _, F, k0, f0, en, g, fun b ρ' H' Fe c g1 => q (.bl b) ρ' (.bl b) H' Fe c (.inr ⟨_, OwnV.pure (Fx := F0) rfl rfl⟩) (fun z => nomatch z) g1⟩).1
theorem t_cmp (a : Expr) (op : CmpOp) (b : Expr) (p : Pos) : PT X (.Compare a [op] [b] p) (RdT X.K G A0 H0 (cmpE R C sc a op b)) :=
  PT.imp (cmp_rel S o a op b p _ fun _ _ _ h => h).2 fun σ H Q ⟨ρ, k, F, k0, f0, en, g, q⟩ => ⟨ρ, k, F, k0, f0, en, g, fun b ρ' H' Fe c g1 => ⟨b, rfl, q b ρ' H' Fe c g1⟩⟩
end
end TI
set_option Elab.async false
set_option linter.all false
set_option maxRecDepth 100000
set_option maxHeartbeats 4000000
/-! and, or, not; texts behind a written one -/
namespace TI
open PySem PySem.Spec PyProof.Rows L2



section
variable {X : Cx} {C : Cd} {sc : Scope} {cx : CXT} {er : Er} {EX : XK} {G : Res → Prop} {A0 : Fp} {H0 : Hp} {R : Fns} (S : Snd R) (o : Okx X C sc cx er EX G A0 H0)
include S o
theorem e_not (a : Expr) (p : Pos) : PE X (.UnaryOp .Not a p) (RdE X.K G A0 H0 false false (fun ρ k => R.E C sc a ρ fun x ρ1 => dTru x fun c => k (.bl (!c)) ρ1)) := by
  refine PE.imp (pe_notT (S.E o a)) fun σ H Q ⟨ρ, k, F, k0, f0, en, g, q⟩ => ?_
  refine ⟨ρ, _, F, k0, f0, en, g, fun d ρ1 v H1 Fe c1 v1 _ g1 => ?_⟩
  obtain ⟨Fv, hv⟩ := v1.any
  obtain ⟨b, tb, g1⟩ := tru_D o.hG hv g1
  exact ⟨b, tb, q _ ρ1 _ H1 Fe c1 (.inr ⟨_, OwnV.pure (d := .bl _) (Fx := F0) rfl rfl⟩) (fun z => nomatch z) g1⟩
omit S o in
theorem path0 {a : Expr} (h : isPath a = true) : isPath0 a = true := by
  cases a <;> first
    | exact h
    | rfl
omit S o in
theorem Val2.up {K : PySem.W.Frag} {p p' : Bool} {F Fe : Fp} {H H' : Hp} {d : D} {v : V} (h : Val2 K p F H Fe d v H') (w : p = true → p' = true) : Val2 K p' F H Fe d v H' := h.imp (fun z => ⟨w z.1, z.2⟩) id
theorem e_if (t a b : Expr) (p : Pos) : PE X (.IfExp t a b p) (RdE X.K G A0 H0 (isPath0 a || isPath0 b) false (fun ρ k => R.T C sc t ρ fun c ρ1 => match c with
    | true => R.E C sc a ρ1 k
    | false => R.E C sc b ρ1 k)) := by
  refine PE.imp (pe_ifExp (S.T o t) (S.E o a) (S.E o b)) fun σ H Q ⟨ρ, k, F, k0, f0, en, g, q⟩ => ?_
  refine ⟨ρ, _, F, k0, f0, en, g, fun c ρ1 H1 Fe c1 g1 => ?_⟩
  dsimp only
  have br : ∀ e : Expr, (isPath e = true → (isPath0 a || isPath0 b) = true) → G (R.E C sc e ρ1 k) → RdE X.K G A0 H0 (isPath e) (isCalm e) (R.E C sc e) σ H1 Q := fun e he g1 =>
    ⟨ρ1, _, Fe, c1.keep k0 f0, c1.from k0 f0, c1.en, g1, fun d ρ2 v H2 Fe2 c2 v2 _ g2 => q d ρ2 v H2 Fe2 (c1.trans c2) ((Val2.trans c1 v2).up he) (fun z => nomatch z) g2⟩
  cases c with
  | true => rw [if_pos rfl]; exact br a (fun z => by rw [path0 z]; rfl) g1
  | false => rw [if_neg (by decide)]; exact br b (fun z => by rw [path0 z, Bool.or_true]) g1
theorem e_and (a b : Expr) (r : List Expr) (p : Pos) : PE X (.BoolOp .And (a :: b :: r) p) (RdE X.K G A0 H0 true false (fun ρ k => R.E C sc a ρ fun x ρ1 => dTru x fun c => match c with
    | true => R.E C sc (.BoolOp .And (b :: r) p) ρ1 k
    | false => k x ρ1)) := by
  refine PE.imp (pe_andT (S.E o a) (S.E o (.BoolOp .And (b :: r) p))) fun σ H Q ⟨ρ, k, F, k0, f0, en, g, q⟩ => ?_
  refine ⟨ρ, _, F, k0, f0, en, g, fun d ρ1 v H1 Fe c1 v1 _ g1 => ?_⟩
  obtain ⟨Fv, hv⟩ := v1.any
  obtain ⟨c, tb, g1⟩ := tru_D o.hG hv g1
  refine ⟨c, tb, ?_⟩
  cases c with
  | true =>
    rw [if_pos rfl]
    exact ⟨ρ1, _, Fe, c1.keep k0 f0, c1.from k0 f0, c1.en, g1, fun d ρ2 v H2 Fe2 c2 v2 _ g2 => q d ρ2 v H2 Fe2 (c1.trans c2) (Val2.trans c1 v2).wide (fun z => nomatch z) g2⟩
  | false =>
    rw [if_neg (by decide)]
    exact q d ρ1 v H1 Fe c1 v1.wide (fun z => nomatch z) g1
theorem e_or (a b : Expr) (r : List Expr) (p : Pos) : PE X (.BoolOp .Or (a :: b :: r) p) (RdE X.K G A0 H0 true false (fun ρ k => R.E C sc a ρ fun x ρ1 => dTru x fun c => match c with
    | true => k x ρ1
    | false => R.E C sc (.BoolOp .Or (b :: r) p) ρ1 k)) := by
  refine PE.imp (pe_orT (S.E o a) (S.E o (.BoolOp .Or (b :: r) p))) fun σ H Q ⟨ρ, k, F, k0, f0, en, g, q⟩ => ?_
  refine ⟨ρ, _, F, k0, f0, en, g, fun d ρ1 v H1 Fe c1 v1 _ g1 => ?_⟩
  obtain ⟨Fv, hv⟩ := v1.any
  obtain ⟨c, tb, g1⟩ := tru_D o.hG hv g1
  refine ⟨c, tb, ?_⟩
  cases c with
  | false =>
    rw [if_neg (by decide)]
    exact ⟨ρ1, _, Fe, c1.keep k0 f0, c1.from k0 f0, c1.en, g1, fun d ρ2 v H2 Fe2 c2 v2 _ g2 => q d ρ2 v H2 Fe2 (c1.trans c2) (Val2.trans c1 v2).wide (fun z => nomatch z) g2⟩
  | true =>
    rw [if_pos rfl]
    exact q d ρ1 v H1 Fe c1 v1.wide (fun z => nomatch z) g1
theorem e_chain (a : Expr) (op op' : CmpOp) (b c : Expr) (p : Pos) : PE X (.Compare a [op, op'] [b, c] p) (RdE X.K G A0 H0 false false (stepE R C sc (.Compare a [op, op'] [b, c] p))) := by
  cases hop : nIn op' && nIn op with
  | false =>
    refine pe_bad fun σ H Q ⟨ρ, k, F, k0, f0, en, g, q⟩ => ?_
    dsimp only [stepE] at g
    rw [hop] at g
    exact absurd g o.hG
  | true =>
    have hop' := hop
    rw [Bool.and_eq_true] at hop'
    refine PE.imp (pe_chain (op_cmpD o.hG o.room op) (op_cmpD o.hG o.room op') (S.E o a) (S.E o b) (S.E o c) (nIn_of hop'.1 c)) fun σ H Q ⟨ρ, k, F, k0, f0, en, g, q⟩ => ?_
    dsimp only [stepE] at g
    rw [hop] at g
    replace g : G (R.E C sc a ρ _) := g
    refine ⟨ρ, _, F, k0, f0, en, g, fun d ρ1 v H1 Fe c1 v1 _ g1 => ?_⟩
    obtain ⟨pd, g1⟩ := puK_of o.hG g1
    obtain ⟨Fv, hv⟩ := v1.any
    refine ⟨ρ1, _, Fe, c1.keep k0 f0, c1.from k0 f0, c1.en, g1, fun d2 ρ2 v2 H2 Fe2 c2 v2' _ g2 => ?_⟩
    obtain ⟨p2, g2⟩ := puK_of o.hG g2
    obtain ⟨Fy, hy⟩ := v2'.any
    have c12 := c1.trans c2
    have fin : ∀ (u : Bool) {ρ' : Env} {H' : Hp} {F' : Fp}, Ch X.K σ F H ρ F' H' ρ' → G (k (.bl u) ρ') → Q (.bl u) H' := fun u {ρ' H' F'} c g => q (.bl u) ρ' (.bl u) H' F' c (.inr ⟨F0, OwnV.pure (Fx := F0) rfl rfl⟩) (fun z => nomatch z) g
    refine ⟨d, d2, F0, Fy, _, keep_pure hv pd c2, hy, g2, fun t g3 => ⟨t, rfl, ?_⟩⟩
    cases t with
    | true =>
      rw [if_pos rfl]
      refine ⟨ρ2, _, Fe2, c12.keep k0 f0, c12.from k0 f0, c12.en, g3, fun d3 ρ3 v3 H3 Fe3 c3 v3' _ g4 => ?_⟩
      obtain ⟨Fz, hz⟩ := v3'.any
      exact ⟨d2, d3, F0, Fz, _, keep_pure hy p2 c3, hz, g4, fun u g5 => fin u (c12.trans c3) g5⟩
    | false =>
      rw [if_neg (by decide)]
      exact fin false c12 g3
theorem e_one (op : BoolOp) (a : Expr) (p : Pos) : PE X (.BoolOp op [a] p) (RdE X.K G A0 H0 true false (fun ρ k => R.E C sc a ρ k)) :=
  PE.imp (pe_one (S.E o a)) fun σ H Q ⟨ρ, k, F, k0, f0, en, g, q⟩ => ⟨ρ, k, F, k0, f0, en, g, fun d ρ1 v H1 Fe c1 v1 _ g1 => q d ρ1 v H1 Fe c1 v1.wide (fun z => nomatch z) g1⟩
/-! ### tests -/
omit S in
theorem t_stuck {e : Expr} : PT X e (RdT X.K G A0 H0 (fun _ _ => .stuck)) := pt_bad fun σ H Q ⟨ρ, k, F, k0, f0, en, g, q⟩ => absurd g o.hG
theorem t_not (a : Expr) (p : Pos) : PT X (.UnaryOp .Not a p) (RdT X.K G A0 H0 (fun ρ k => R.T C sc a ρ fun b ρ1 => k (!b) ρ1)) :=
  PT.imp (pt_not (S.T o a)) fun σ H Q ⟨ρ, k, F, k0, f0, en, g, q⟩ => ⟨ρ, _, F, k0, f0, en, g, fun b ρ1 H1 Fe c1 g1 => q (!b) ρ1 H1 Fe c1 g1⟩
theorem w_one (op : BoolOp) (a : Expr) (p : Pos) : PW X (.BoolOp op [a] p) (RdT X.K G A0 H0 (R.T C sc a)) := by
  cases op with
  | And => exact pw_and1 (S.T o a)
  | Or => exact pw_or1 (S.T o a)
theorem w_and (a b : Expr) (r : List Expr) (p : Pos) : PW X (.BoolOp .And (a :: b :: r) p) (RdT X.K G A0 H0 (fun ρ k => R.T C sc a ρ fun c ρ1 => match c with
    | true => R.T C sc (.BoolOp .And (b :: r) p) ρ1 k
    | false => k false ρ1)) := by
  refine PW.imp (pw_and (S.T o a) (S.W o .And (b :: r) p)) fun σ H Q ⟨ρ, k, F, k0, f0, en, g, q⟩ => ⟨ρ, _, F, k0, f0, en, g, fun c ρ1 H1 Fe c1 g1 => ?_⟩
  cases c with
  | true =>
    rw [if_pos rfl]
    exact ⟨ρ1, _, Fe, c1.keep k0 f0, c1.from k0 f0, c1.en, g1, fun d ρ2 H2 Fe2 c2 g2 => q d ρ2 H2 Fe2 (c1.trans c2) g2⟩
  | false =>
    rw [if_neg (by decide)]
    exact q false ρ1 H1 Fe c1 g1
theorem w_or (a b : Expr) (r : List Expr) (p : Pos) : PW X (.BoolOp .Or (a :: b :: r) p) (RdT X.K G A0 H0 (fun ρ k => R.T C sc a ρ fun c ρ1 => match c with
    | true => k true ρ1
    | false => R.T C sc (.BoolOp .Or (b :: r) p) ρ1 k)) := by
  refine PW.imp (pw_or (S.T o a) (S.W o .Or (b :: r) p)) fun σ H Q ⟨ρ, k, F, k0, f0, en, g, q⟩ => ⟨ρ, _, F, k0, f0, en, g, fun c ρ1 H1 Fe c1 g1 => ?_⟩
  cases c with
  | false =>
    rw [if_neg (by decide)]
    exact ⟨ρ1, _, Fe, c1.keep k0 f0, c1.from k0 f0, c1.en, g1, fun d ρ2 H2 Fe2 c2 g2 => q d ρ2 H2 Fe2 (c1.trans c2) g2⟩
  | true =>
    rw [if_pos rfl]
    exact q true ρ1 H1 Fe c1 g1
omit S in
theorem w_bad {op : BoolOp} {vs : List Expr} {p : Pos} : PW X (.BoolOp op vs p) (RdT X.K G A0 H0 (fun _ _ => .stuck)) := ⟨fun wh pins s σ H Q I ⟨ρ, k, F, k0, f0, en, g, q⟩ => absurd g o.hG⟩
theorem w_step (op : BoolOp) (vs : List Expr) (p : Pos) : PW X (.BoolOp op vs p) (RdT X.K G A0 H0 (stepT R C sc (.BoolOp op vs p))) := by
  cases op with
  | And =>
    match vs with
    | [] => exact w_bad o
    | [a] => exact w_one S o .And a p
    | a :: b :: r => exact w_and S o a b r p
  | Or =>
    match vs with
    | [] => exact w_bad o
    | [a] => exact w_one S o .Or a p
    | a :: b :: r => exact w_or S o a b r p
theorem t_chain (a : Expr) (op op' : CmpOp) (b c : Expr) (p : Pos) : PT X (.Compare a [op, op'] [b, c] p) (RdT X.K G A0 H0 (stepT R C sc (.Compare a [op, op'] [b, c] p))) := by
  cases hop : nIn op' && nIn op with
  | false =>
    refine pt_bad fun σ H Q ⟨ρ, k, F, k0, f0, en, g, q⟩ => ?_
    dsimp only [stepT] at g
    rw [hop] at g
    exact absurd g o.hG
  | true =>
    have hop' := hop
    rw [Bool.and_eq_true] at hop'
    refine PT.imp (pt_chain (op_cmpD o.hG o.room op) (op_cmpD o.hG o.room op') (S.E o a) (S.E o b) (S.E o c) (nIn_of hop'.1 c)) fun σ H Q ⟨ρ, k, F, k0, f0, en, g, q⟩ => ?_
    dsimp only [stepT] at g
    rw [hop] at g
    replace g : G (R.E C sc a ρ _) := g
    refine ⟨ρ, _, F, k0, f0, en, g, fun d ρ1 v H1 Fe c1 v1 _ g1 => ?_⟩
    obtain ⟨pd, g1⟩ := puK_of o.hG g1
    obtain ⟨Fv, hv⟩ := v1.any
    refine ⟨ρ1, _, Fe, c1.keep k0 f0, c1.from k0 f0, c1.en, g1, fun d2 ρ2 v2 H2 Fe2 c2 v2' _ g2 => ?_⟩
    obtain ⟨p2, g2⟩ := puK_of o.hG g2
    obtain ⟨Fy, hy⟩ := v2'.any
    have c12 := c1.trans c2
    refine ⟨d, d2, F0, Fy, _, keep_pure hv pd c2, hy, g2, fun t g3 => ⟨t, rfl, ?_⟩⟩
    cases t with
    | true =>
      rw [if_pos rfl]
      refine ⟨ρ2, _, Fe2, c12.keep k0 f0, c12.from k0 f0, c12.en, g3, fun d3 ρ3 v3 H3 Fe3 c3 v3' _ g4 => ?_⟩
      obtain ⟨Fz, hz⟩ := v3'.any
      exact ⟨d2, d3, F0, Fz, _, keep_pure hy p2 c3, hz, g4, fun u g5 => ⟨u, rfl, q u ρ3 H3 Fe3 (c12.trans c3) g5⟩⟩
    | false =>
      rw [if_neg (by decide)]
      exact ⟨false, rfl, q false ρ2 H2 Fe2 c12 g3⟩
theorem t_val (e : Expr) (he : ∀ whole, isTrue e X.env whole = (do let v ← whole; standAt e.pos; holding [v] (truthy v))) : PT X e (RdT X.K G A0 H0 (fun ρ k => R.E C sc e ρ fun d ρ1 => dTru d fun b => k b ρ1)) := by
  refine PT.imp (pt_truth (S.E o e) he) fun σ H Q ⟨ρ, k, F, k0, f0, en, g, q⟩ => ⟨ρ, _, F, k0, f0, en, g, fun d ρ1 v H1 Fe c1 v1 _ g1 => ?_⟩
  obtain ⟨Fv, hv⟩ := v1.any
  obtain ⟨b, tb, g1⟩ := tru_D o.hG hv g1
  exact ⟨b, tb, q b ρ1 H1 Fe c1 g1⟩
theorem t_step (e : Expr) : PT X e (RdT X.K G A0 H0 (stepT R C sc e)) := by
  cases e with
  | BoolOp op vs p => exact (w_step S o op vs p).pt
  | IfExp t a b p => exact t_stuck o
  | UnaryOp op a p =>
    cases op with
    | Not => exact t_not S o a p
    | _ => exact t_val S o _ (fun _ => rfl)
  | Compare a ops bs p =>
    match ops, bs with
    | [], _ => exact t_stuck o
    | [op], [] => exact t_stuck o
    | [op], [b] => exact t_cmp S o a op b p
    | [op], _ :: _ :: _ => exact t_stuck o
    | [op, op'], [] => exact t_stuck o
    | [op, op'], [b] => exact t_stuck o
    | [op, op'], [b, c] => exact t_chain S o a op op' b c p
    | [op, op'], _ :: _ :: _ :: _ => exact t_stuck o
    | _ :: _ :: _ :: _, _ => exact t_stuck o
  | _ => exact t_val S o _ (fun _ => rfl)
/-! ### behind a written text -/
theorem p_step (e : Expr) : PET X e (RdE X.K G A0 H0 (isPath e) (isCalm e) (stepP R C sc e)) := by
  have dflt : (∀ ρ k, stepP R C sc e ρ k = R.E C sc e ρ k) → PET X e (RdE X.K G A0 H0 (isPath e) (isCalm e) (stepP R C sc e)) := fun h =>
    CwR.PET.of (PE.imp (S.E o e) fun σ H Q ⟨ρ, k, F, k0, f0, en, g, q⟩ => ⟨ρ, k, F, k0, f0, en, by rw [← h]; exact g, q⟩)
  by_cases hh : ∃ ob m ap y j c0 z j2 c1 p, e = .Call (.Attribute ob m ap) [.Constant (.str y) j c0, .Constant (.str z) j2 c1] [] p
  · obtain ⟨ob, m, ap, y, j, c0, z, j2, c1, p, rfl⟩ := hh
    by_cases hm : m = "replace"
    · subst hm
      by_cases hg : (opG ob && (ap.endLine == p.line) && !(y == z)) = true
      · have hg' := hg
        rw [Bool.and_eq_true, Bool.and_eq_true, Bool.not_eq_true'] at hg'
        intro pins s σ H Q h0 I ⟨ρ, k, F, k0, f0, en, g, q⟩
        refine CwR.pet_replT (S.P o ob) hg'.2 rfl (base_ok hg'.1.1 _ _ _) hg'.1.2 pins s σ H Q h0 I ?_
        dsimp only [stepP] at g
        rw [if_pos rfl, hg] at g
        replace g : G (R.P C sc ob ρ _) := g
        refine ⟨ρ, _, F, k0, f0, en, g, fun d ρ1 v H1 Fe c1 v1 _ g1 => ?_⟩
        obtain ⟨Fv, hv⟩ := v1.any
        obtain ⟨x, hx, g1⟩ := oK_of o.hG g1
        have hd := asS_of hx
        cases hd
        obtain ⟨hl, g1⟩ := ckK_of o.hG g1
        exact ⟨x, hv, of_decide_eq_true hl, q _ ρ1 _ H1 Fe c1 (.inr ⟨_, OwnV.pure (d := .str _) (Fx := F0) rfl rfl⟩) (fun z => nomatch z) g1⟩
      · intro pins s σ H Q h0 I ⟨ρ, k, F, k0, f0, en, g, q⟩
        dsimp only [stepP] at g
        rw [if_pos rfl, Bool.eq_false_iff.mpr hg] at g
        exact absurd g o.hG
    · refine dflt fun ρ k => ?_
      dsimp only [stepP]
      rw [if_neg hm]
  · refine dflt fun ρ k => ?_
    unfold stepP
    split
    · exact absurd ⟨_, _, _, _, _, _, _, _, _, _, rfl⟩ hh
    · rfl
theorem e_wrt (x : Str) (j : Nat) (c0 : Pos) (b : Expr) (p : Pos) : PE X (.BinOp (.Constant (.str x) j c0) .Add b p) (RdE X.K G A0 H0 false false (fun ρ k => R.P C sc b ρ fun y ρ2 => binD .Add (.str x) y fun z => k z ρ2)) := by
  refine ⟨fun pins s σ H Q I ⟨ρ, k, F, k0, f0, en, g, q⟩ => ?_⟩
  refine wpAny_BinOp (Calls.Constant_str ?_)
  refine thn (S.P o b pins { s with toks := s.toks + 1 } σ H _ (Nat.le_add_left _ _) (I.tok _) ⟨ρ, _, F, k0, f0, en, g, fun d ρ1 v H1 Fe c1 v1 _ g1 => ?_⟩) fun u s2 ⟨y, H2, I2, r2, q2⟩ => op_binD o.hG .Add pins s2 σ H2 (.str x) y _ u Q I2 ⟨_, rfl⟩ r2 q2
  obtain ⟨Fy, hy⟩ := v1.any
  exact ⟨.str x, d, F0, Fy, _, rfl, hy, g1, vend c1 q⟩
end
end TI
set_option Elab.async false
set_option linter.all false
set_option maxRecDepth 100000
set_option maxHeartbeats 4000000
/-! list displays with stars -/
namespace TI
open PySem PySem.Spec PyProof.Rows L2
def RdL (K : PySem.W.Frag) (G : Res → Prop) (A0 : Fp) (H0 : Hp) (f : Env → (List D → Env → Res) → Res) : TA := fun σ H Q => ∃ ρ k F, Keep A0 H0 H ∧ Fr A0 H0 F ∧ Ens K H ρ σ F ∧ G (f ρ k) ∧
  ∀ ds ρ' vs H' Fe, Ch K σ F H ρ Fe H' ρ' → Rps K H' ds vs F0 → D.pus ds = true → G (k ds ρ') → Q vs H'
theorem revF_of {e a : Expr} (h : revF e = some a) : ∃ p pos, e = .Call (.Name "reversed" p) [a] [] pos := by
  unfold revF at h
  split at h
  · split at h
    · rename_i hf
      cases h
      subst hf
      exact ⟨_, _, rfl⟩
    · cases h
  · cases h
theorem itsK_of {K : PySem.W.Frag} {G : Res → Prop} {H : Hp} {d : D} {x : V} {F : Fp} {k : List D → Res} (hG : ¬ G .stuck) (hx : Rp K H d x F) (g : G (itsK d k)) : ∃ a ds vs, x = .ref a ∧ (SqT K H a vs ∨ SqL K H a vs) ∧ Rps K H ds vs F0 ∧ D.pus ds = true ∧ G (k ds) := by
  cases d with
  | tup ds =>
    obtain ⟨p, vs, rfl, hs, pu, rv⟩ := hx
    exact ⟨p, ds, vs, rfl, .inl hs, Rps.pure _ _ _ pu rv, pu, g⟩
  | rol ds =>
    obtain ⟨p, vs, rfl, hs, pu, rv⟩ := hx
    exact ⟨p, ds, vs, rfl, .inr hs.sq, Rps.pure _ _ _ pu rv, pu, g⟩
  | lck ds =>
    obtain ⟨p, vs, rfl, hs, pu, rv⟩ := hx
    exact ⟨p, ds, vs, rfl, .inr hs.sq, Rps.pure _ _ _ pu rv, pu, g⟩
  | lst ds =>
    obtain ⟨p, vs, rfl, hs, _, rv⟩ := hx
    obtain ⟨pu, g⟩ := pusK_of hG g
    exact ⟨p, ds, vs, rfl, .inr (SqL.of hs), Rps.pure _ _ _ pu rv, pu, g⟩
  | _ => exact absurd g hG
theorem Rps.app0 {K : PySem.W.Frag} {H : Hp} {ds es : List D} {vs ws : List V} (h1 : Rps K H ds vs F0) (h2 : Rps K H es ws F0) : Rps K H (ds ++ es) (vs ++ ws) F0 :=
  Rps.mono _ _ _ _ (fun _ z => z.elim id id) (Rps.append _ _ _ _ _ _ h1 h2 fun _ z => z.elim)
theorem pus_rev {ds : List D} (h : D.pus ds = true) : D.pus ds.reverse = true := by
  rw [pus_all] at h ⊢
  intro d hd
  exact h d (List.mem_reverse.mp hd)
section
variable {X : Cx} {C : Cd} {sc : Scope} {cx : CXT} {er : Er} {EX : XK} {G : Res → Prop} {A0 : Fp} {H0 : Hp} {R : Fns} (S : Snd R) (o : Okx X C sc cx er EX G A0 H0)
include S o
/-- the first part's values, then the rest -/
theorem l_go {r : List Expr} {σ : L2.St} {H H1 : Hp} {Q : List V → Hp → Prop} {ρ ρ1 : Env} {k : List D → Env → Res} {F Fe : Fp} {ds : List D} {vs : List V} (k0 : Keep A0 H0 H) (f0 : Fr A0 H0 F) (c1 : Ch X.K σ F H ρ Fe H1 ρ1) (hv : Rps X.K H1 ds vs F0) (pu : D.pus ds = true)
    (g : G (lsE R C sc r ρ1 fun es ρ2 => k (ds ++ es) ρ2)) (q : ∀ ds ρ' vs H' Fe, Ch X.K σ F H ρ Fe H' ρ' → Rps X.K H' ds vs F0 → D.pus ds = true → G (k ds ρ') → Q vs H') :
    RdL X.K G A0 H0 (lsE R C sc r) σ H1 fun ws H2 => Q (vs ++ ws) H2 := by
  refine ⟨ρ1, _, Fe, c1.keep k0 f0, c1.from k0 f0, c1.en, g, fun es ρ2 ws H2 Fe2 c2 hw pw g2 => ?_⟩
  exact q (ds ++ es) ρ2 (vs ++ ws) H2 Fe2 (c1.trans c2) (Rps.app0 (Rps.stay c2.kp _ _ _ (fun _ z => z.elim) hv) hw) (pus_append pu pw) g2
omit S o in
/-- a new list is locked -/
theorem pe_frz {e : Expr} {te : TE} (h : PE X e te) : PE X e (fun σ H Q => te σ H fun v H1 => Q v H1 ∨ ∃ a vs, v = V.ref a ∧ H1 a = some (.lst vs) ∧ ∀ ob, Q v (upd H1 a (.frz ob (.lst vs)))) := by
  refine ⟨fun pins s σ H Q I q => ?_⟩
  refine thn (h.run pins s σ H _ I q) fun u s1 ⟨v, H1, I1, r1, q1⟩ => ?_
  rcases q1 with q1 | ⟨a, vs, e, ha, q1⟩
  · exact ⟨v, H1, I1, r1, q1⟩
  · obtain ⟨ob, I2⟩ := I1.lock ha trivial
    exact ⟨v, _, I2, r1, q1 ob⟩
theorem l_one {e : Expr} {r : List Expr} (ih : PA X r (RdL X.K G A0 H0 (lsE R C sc r))) (hs : starEach (e :: r) X.env = (false, eval e X.env) :: starEach r X.env) :
    PA X (e :: r) (RdL X.K G A0 H0 (fun ρ k => R.E C sc e ρ fun d ρ1 => frzK (isPath e) d fun d' => lsE R C sc r ρ1 fun es ρ2 => k (d' :: es) ρ2)) := by
  refine PA.imp (pa_cons (pe_frz (S.E o e)) ih hs) fun σ H Q ⟨ρ, k, F, k0, f0, en, g, q⟩ => ?_
  refine ⟨ρ, _, F, k0, f0, en, g, fun d ρ1 v H1 Fe c1 v1 _ g1 => ?_⟩
  have plain : d.pu = true → G (lsE R C sc r ρ1 fun es ρ2 => k (d :: es) ρ2) → RdL X.K G A0 H0 (lsE R C sc r) σ H1 fun ws H2 => Q (v :: ws) H2 := fun p g1 => by
    obtain ⟨F', hv⟩ := v1.any
    exact l_go (ds := [d]) (vs := [v]) S o k0 f0 c1 ⟨v, [], F0, F0, rfl, Rp.pure _ _ _ p hv, rfl, fun _ z => z, fun _ z => z, fun _ z => z.elim⟩ (by rw [D.pus, p]; rfl) g1 q
  cases d with
  | lst ds =>
    obtain ⟨hp, g1⟩ := ckK_of o.hG g1
    obtain ⟨pu, g1⟩ := pusK_of o.hG g1
    obtain ⟨Fv, ow⟩ := v1.own fun z => by rw [z] at hp; cases hp
    obtain ⟨a, vs, rfl, ha, hF, hr⟩ := ow.rp
    refine .inr ⟨a, vs, rfl, ha, fun ob => ?_⟩
    have kp : Keep (fun b => b = a) H1 (upd H1 a (.frz ob (.lst vs))) := Keep.set ha rfl fun z => z
    have c2 : Ch X.K σ F H ρ Fe (upd H1 a (.frz ob (.lst vs))) ρ1 := by
      refine ⟨c1.kp.trans kp fun b z => by rw [z]; exact ow.fr a hF, c1.im, c1.fr, Ens.stay kp _ _ _ (fun b h1 h2 => ow.dj b h1 (by rw [show b = a from h2]; exact hF)) c1.en, fun b hb => ?_⟩
      by_cases e : b = a
      · subst e; rw [upd_same]; exact fun z => nomatch z
      · rw [upd_ne e]; exact c1.tr b hb
    have rp : Rp X.K (upd H1 a (.frz ob (.lst vs))) (.rol ds) (.ref a) F0 := ⟨a, vs, rfl, .inl ⟨ob, upd_same⟩, pu, Rps.stay kp _ _ _ (fun _ z => z.elim) (Rps.pure _ _ _ pu hr)⟩
    exact l_go (ds := [.rol ds]) (vs := [.ref a]) S o k0 f0 c2 ⟨.ref a, [], F0, F0, rfl, rp, rfl, fun _ z => z, fun _ z => z, fun _ z => z.elim⟩ rfl g1 q
  | _ =>
    dsimp only [frzK] at g1
    obtain ⟨p, g1⟩ := puK_of o.hG g1
    exact .inl (plain p g1)
theorem l_all : ∀ es : List Expr, PA X es (RdL X.K G A0 H0 (lsE R C sc es))
  | [] => PA.imp pa_nil fun σ H Q ⟨ρ, k, F, k0, f0, en, g, q⟩ => q [] ρ [] H _ (Ch.refl en) rfl rfl g
  | e :: r => by
    have ih := l_all r
    cases e with
    | Starred e p =>
      cases hr : revF e with
      | none =>
        refine PA.imp (StX.pa_star (S.E o e) ih) fun σ H Q ⟨ρ, k, F, k0, f0, en, g, q⟩ => ?_
        rw [lsE, hr] at g
        refine ⟨ρ, _, F, k0, f0, en, g, fun d ρ1 v H1 Fe c1 v1 _ g1 => ?_⟩
        obtain ⟨F', hv⟩ := v1.any
        obtain ⟨a, ds, vs, rfl, hs, hvs, pu, g1⟩ := itsK_of o.hG hv g1
        exact ⟨a, vs, rfl, hs, l_go S o k0 f0 c1 hvs pu g1 q⟩
      | some a =>
        obtain ⟨p2, pos2, rfl⟩ := revF_of hr
        cases hb : (isBi C sc "reversed" && noStar [a]) with
        | false =>
          refine ⟨fun pos pins s σ H Q I ⟨ρ, k, F, k0, f0, en, g, q⟩ => ?_⟩
          rw [lsE, hr] at g
          dsimp only at g
          rw [hb] at g
          exact absurd g o.hG
        | true =>
          have hb' := hb
          rw [Bool.and_eq_true] at hb'
          obtain ⟨f1, f2, f3⟩ := isBi_of hb'.1
          obtain ⟨s1, s2⟩ := star_cons hb'.2 X.env
          refine PA.imp (StR.pa_starRev o.calm (o.toCok.glx f1) (o.bi _ f3) (S.E o a) ih s1) fun σ H Q ⟨ρ, k, F, k0, f0, en, g, q⟩ => ?_
          rw [lsE, hr] at g
          dsimp only at g
          rw [hb] at g
          refine ⟨ρ, _, F, k0, f0, en, g, fun d ρ1 v H1 Fe c1 v1 _ g1 => ?_⟩
          obtain ⟨F', hv⟩ := v1.any
          obtain ⟨b, ds, vs, F2, rfl, hs, hvs, g1⟩ := lstK_of o.hG hv g1
          obtain ⟨pu, g1⟩ := pusK_of o.hG g1
          exact ⟨b, vs, rfl, hs, l_go S o k0 f0 c1 (Rps.mono _ _ _ _ (fun _ z => z.elim) (Rps.reverse _ _ _ (Rps.pure _ _ _ pu hvs))) (pus_rev pu) g1 q⟩
    | _ => exact l_one S o ih rfl
theorem e_tupS (es : List Expr) (n : Nat) (p : Pos) (hst : anyStar es = true) : PE X (.Tuple es n p) (RdE X.K G A0 H0 false false (fun ρ k => lsE R C sc es ρ fun ds ρ1 => ckK (decide (ds.length ≤ szLine)) (k (.tup ds) ρ1))) := by
  refine PE.imp (pe_tup (l_all S o es)) fun σ H Q ⟨ρ, k, F, k0, f0, en, g, q⟩ => ?_
  refine ⟨ρ, _, F, k0, f0, en, g, fun ds ρ1 vs H1 Fe c1 hv pu g1 => ?_⟩
  obtain ⟨hb, g1⟩ := ckK_of o.hG g1
  refine ⟨by rw [Rps.length _ _ _ hv, ← szLine_eq]; exact of_decide_eq_true hb, fun a ha => ?_⟩
  exact (vend c1 q).new ha (Rp.tup_new ha pu hv) g1
theorem e_listS (es : List Expr) (p : Pos) (hst : anyStar es = true) : PE X (.List es p) (RdE X.K G A0 H0 false false (fun ρ k => lsE R C sc es ρ fun ds ρ1 => ckK (decide (ds.length ≤ szLine)) (k (.lst ds) ρ1))) := by
  refine PE.imp (pe_lst (l_all S o es)) fun σ H Q ⟨ρ, k, F, k0, f0, en, g, q⟩ => ?_
  refine ⟨ρ, _, F, k0, f0, en, g, fun ds ρ1 vs H1 Fe c1 hv pu g1 => ?_⟩
  obtain ⟨hb, g1⟩ := ckK_of o.hG g1
  refine ⟨by rw [Rps.length _ _ _ hv, ← szLine_eq]; exact of_decide_eq_true hb, fun a ha => ?_⟩
  exact (vend c1 q).new ha (Rp.lst_new ha pu hv) g1
end
end TI
set_option Elab.async false
set_option linter.all false
set_option maxRecDepth 100000
set_option maxHeartbeats 4000000
/-! written dicts, and what is read of them -/
namespace TI
open PySem PySem.Spec PyProof.Rows L2
theorem merge_fresh : ∀ (more kvs : List (Key × V)), (more.map (·.1)).Nodup → (∀ p ∈ more, p.1 ∉ kvs.map (·.1)) → mergeK kvs more = kvs ++ more
  | [], kvs, _, _ => by unfold mergeK; simp
  | p :: r, kvs, nd, hd => by
    rw [List.map_cons, List.nodup_cons] at nd
    have h0 : (kvs.any fun kv => decide (kv.1 = p.1)) = false := by
      rw [List.any_eq_false]
      intro x hx e
      exact hd p List.mem_cons_self (of_decide_eq_true e ▸ List.mem_map.mpr ⟨x, hx, rfl⟩)
    have hp : putK kvs p.1 p.2 = kvs ++ [p] := by
      unfold putK
      rw [h0, if_neg (by decide)]
    show mergeK (putK kvs p.1 p.2) r = _
    rw [hp, merge_fresh r _ nd.2 fun x hx hm => ?_, List.append_assoc]
    · rfl
    · rw [List.map_append, List.mem_append] at hm
      rcases hm with hm | hm
      · exact hd x (List.mem_cons_of_mem _ hx) hm
      · have e : x.1 = p.1 := by simpa using hm
        exact nd.1 (e ▸ List.mem_map.mpr ⟨x, hx, rfl⟩)
theorem dup_nodup : ∀ {xs : List Str}, dupS xs = false → xs.Nodup
  | [], _ => List.nodup_nil
  | x :: xs, h => by
    unfold dupS at h
    rw [Bool.or_eq_false_iff] at h
    refine List.nodup_cons.mpr ⟨fun hm => ?_, dup_nodup h.2⟩
    rw [List.contains_iff_mem.mpr hm] at h
    cases h.1
theorem nodup_inr : ∀ {xs : List Str}, xs.Nodup → (xs.map Sum.inr : List Key).Nodup
  | [], _ => List.nodup_nil
  | x :: xs, h => by
    rw [List.nodup_cons] at h
    rw [List.map_cons, List.nodup_cons]
    refine ⟨fun hm => ?_, nodup_inr h.2⟩
    obtain ⟨y, hy, e⟩ := List.mem_map.mp hm
    cases e
    exact h.1 hy
theorem keys_of : ∀ {ks : List (Option Expr)} {xs : List Str}, dcK ks = some xs → ks.all (·.isSome) = true ∧ ks.length = xs.length
  | [], xs, h => by cases h; exact ⟨rfl, rfl⟩
  | none :: r, xs, h => by cases h
  | some e :: r, xs, h => by
    unfold dcK at h
    split at h
    · rename_i heq; cases heq
    · rename_i x j c r' heq
      cases heq
      cases q : dcK r with
      | none => rw [q] at h; cases h
      | some ys =>
        rw [q] at h; cases h
        obtain ⟨h1, h2⟩ := keys_of q
        exact ⟨by rw [List.all_cons, h1]; rfl, by rw [List.length_cons, List.length_cons, h2]⟩
    · cases h
theorem vals_of {K : PySem.W.Frag} : ∀ {vs : List Expr} {ds : List D}, dcV vs = some ds → ∃ ws : List V, (∀ H, Rps K H ds ws F0) ∧ D.pus ds = true ∧ vs.length = ds.length
  | [], ds, h => by cases h; exact ⟨[], fun _ => rfl, rfl, rfl⟩
  | e :: r, ds, h => by
    have go : ∀ {d : D} {v : V}, (∀ H, Rp K H d v F0) → d.pu = true → (dcV r).map (d :: ·) = some ds → ∃ ws : List V, (∀ H, Rps K H ds ws F0) ∧ D.pus ds = true ∧ (e :: r).length = ds.length := fun {d v} hr hp h => by
      cases q : dcV r with
      | none => rw [q] at h; cases h
      | some ys =>
        rw [q] at h; cases h
        obtain ⟨ws, h1, h2, h3⟩ := vals_of (K := K) q
        exact ⟨v :: ws, fun H => ⟨v, ws, F0, F0, rfl, hr H, h1 H, fun _ z => z, fun _ z => z, fun _ z => z.elim⟩, by rw [D.pus, hp, h2]; rfl, by rw [List.length_cons, List.length_cons, h3]⟩
    unfold dcV at h
    split at h
    · rename_i heq; cases heq
    · rename_i i j c r' heq; cases heq; exact go (d := .int i) (v := .int i) (fun _ => rfl) rfl h
    · rename_i i j c r' heq; cases heq; exact go (d := .bl i) (v := .bl i) (fun _ => rfl) rfl h
    · rename_i j c r' heq; cases heq; exact go (d := .non) (v := .non) (fun _ => rfl) rfl h
    · rename_i i j c r' heq; cases heq; exact go (d := .str i) (v := .str i) (fun _ => rfl) rfl h
    · cases h
theorem disp_pairs {X : Cx} {pos : Pos} : ∀ {ks : List (Option Expr)} {vs : List Expr} {xs : List Str} {ds : List D}, dcK ks = some xs → dcV vs = some ds → xs.length = ds.length →
    ∃ ws : List V, (∀ H, Rps X.K H ds ws F0) ∧ PPs X pos ks vs ((xs.zip ws).map fun q => (tC (.str q.1), tC q.2))
  | [], [], xs, ds, h1, h2, _ => by cases h1; cases h2; exact ⟨[], fun _ => rfl, pps_nil⟩
  | none :: r, vs, xs, ds, h1, _, _ => by cases h1
  | [], v :: vs, xs, ds, h1, h2, hl => by
    cases h1
    obtain ⟨ws, _, _, h3⟩ := vals_of (K := X.K) h2
    rw [← hl] at h3; cases h3
  | some e :: r, [], xs, ds, h1, h2, hl => by
    cases h2
    obtain ⟨_, h3⟩ := keys_of h1
    rw [hl] at h3; cases h3
  | some e :: r, v :: vs, xs, ds, h1, h2, hl => by
    unfold dcK at h1
    split at h1
    · rename_i heq; cases heq
    · rename_i x j c r' heq
      cases heq
      cases q : dcK r with
      | none => rw [q] at h1; cases h1
      | some ys =>
        rw [q] at h1; cases h1
        have go : ∀ {d : D} {w : V}, PE X v (tC w) → (∀ H, Rp X.K H d w F0) → (dcV vs).map (d :: ·) = some ds → ∃ ws : List V, (∀ H, Rps X.K H ds ws F0) ∧ PPs X pos (some (.Constant (.str x) j c) :: r) (v :: vs) (((x :: ys).zip ws).map fun q => (tC (.str q.1), tC q.2)) := fun {d w} hp hr h => by
          cases q2 : dcV vs with
          | none => rw [q2] at h; cases h
          | some es =>
            rw [q2] at h; cases h
            obtain ⟨ws, r1, r2⟩ := disp_pairs (X := X) (pos := pos) q q2 (by simpa using hl)
            exact ⟨w :: ws, fun H => ⟨w, ws, F0, F0, rfl, hr H, r1 H, fun _ z => z, fun _ z => z, fun _ z => z.elim⟩, pps_cons pe_str hp r2⟩
        unfold dcV at h2
        split at h2
        · rename_i heq; cases heq
        · rename_i i j c r' heq; cases heq; exact go (d := .int i) (w := .int i) pe_int (fun _ => rfl) h2
        · rename_i i j c r' heq; cases heq; exact go (d := .bl i) (w := .bl i) pe_bl (fun _ => rfl) h2
        · rename_i j c r' heq; cases heq; exact go (d := .non) (w := .non) pe_non (fun _ => rfl) h2
        · rename_i i j c r' heq; cases heq; exact go (d := .str i) (w := .str i) pe_str (fun _ => rfl) h2
        · cases h2
    · cases h1
theorem pairs_run : ∀ (l : List (Str × V)) {σ : L2.St} {H : Hp} {Q : List (V × V) → Hp → Prop}, Q (l.map fun q => (V.str q.1, q.2)) H → tPairs (l.map fun q => (tC (.str q.1), tC q.2)) σ H Q
  | [], _, _, _, h => h
  | q :: l, σ, H, Q, h => pairs_run l (Q := fun ps H3 => Q ((V.str q.1, q.2) :: ps) H3) h
theorem dct_val {K : PySem.W.Frag} {H : Hp} {key : Key} : ∀ {ks : List Key} {ds : List D} {vs : List V} {F : Fp}, ks.length = ds.length → Rps K H ds vs F → (∀ z, dctGet ks ds key = some z → ∃ v, valV (ks.zip vs) key = some v ∧ Rp K H z v F) ∧ (dctGet ks ds key = none → valV (ks.zip vs) key = none)
  | [], ds, vs, F, hl, h => ⟨fun z e => (by cases e), fun _ => rfl⟩
  | k :: ks, [], vs, F, hl, h => by cases hl
  | k :: ks, d :: ds, vs, F, hl, h => by
    obtain ⟨v, ws, G1, G2, rfl, h1, h2, s1, s2, _⟩ := h
    obtain ⟨r1, r2⟩ := dct_val (key := key) (ks := ks) (by simpa using hl) h2
    rw [List.zip_cons_cons]
    by_cases e : k = key
    · refine ⟨fun z ez => ?_, fun en => ?_⟩
      · unfold dctGet at ez
        rw [decide_eq_true e, if_pos rfl] at ez
        cases ez
        exact ⟨v, valV_pos e, Rp.mono _ _ _ _ s1 h1⟩
      · unfold dctGet at en
        rw [decide_eq_true e, if_pos rfl] at en
        cases en
    · rw [valV_neg (p := (k, v)) e]
      refine ⟨fun z ez => ?_, fun en => ?_⟩
      · unfold dctGet at ez
        rw [decide_eq_false e, if_neg (by decide)] at ez
        obtain ⟨w, w1, w2⟩ := r1 z ez
        exact ⟨w, w1, Rp.mono _ _ _ _ s2 w2⟩
      · unfold dctGet at en
        rw [decide_eq_false e, if_neg (by decide)] at en
        exact r2 en
theorem dctGet_pu {key : Key} : ∀ {ks : List Key} {ds : List D} {z : D}, D.pus ds = true → dctGet ks ds key = some z → z.pu = true
  | [], ds, z, _, e => by cases e
  | k :: ks, [], z, _, e => by cases e
  | k :: ks, d :: ds, z, h, e => by
    rw [D.pus, Bool.and_eq_true] at h
    unfold dctGet at e
    split at e
    · cases e; exact h.1
    · exact dctGet_pu h.2 e
theorem keyD_of {K : PySem.W.Frag} {H : Hp} {y : D} {key : Key} {v : V} {F : Fp} (h : keyD y = some key) (r : Rp K H y v F) : v = kV key := by
  cases y with
  | int i => cases h; exact r
  | str i => cases h; exact r
  | _ => cases h
section
variable {X : Cx} {C : Cd} {sc : Scope} {cx : CXT} {er : Er} {EX : XK} {G : Res → Prop} {A0 : Fp} {H0 : Hp} {R : Fns} (S : Snd R) (o : Okx X C sc cx er EX G A0 H0)
include S o
omit S in
theorem e_dict (ks : List (Option Expr)) (vs : List Expr) (p : Pos) : PE X (.Dict ks vs p) (RdE X.K G A0 H0 false false (fun ρ k => dctE ks vs fun d => k d ρ)) := by
  cases hk : dcK ks with
  | none =>
    refine pe_bad fun σ H Q ⟨ρ, k, F, k0, f0, en, g, q⟩ => ?_
    unfold dctE at g
    rw [hk] at g
    exact absurd g o.hG
  | some xs =>
    cases hv : dcV vs with
    | none =>
      refine pe_bad fun σ H Q ⟨ρ, k, F, k0, f0, en, g, q⟩ => ?_
      unfold dctE at g
      rw [hk, hv] at g
      exact absurd g o.hG
    | some ds =>
      cases hc : (decide (xs.length = ds.length) && !dupS xs && decide (0 < xs.length) && decide (xs.length ≤ 15)) with
      | false =>
        refine pe_bad fun σ H Q ⟨ρ, k, F, k0, f0, en, g, q⟩ => ?_
        unfold dctE at g
        rw [hk, hv] at g
        unfold oK at g
        dsimp only at g
        rw [hc] at g
        exact absurd g o.hG
      | true =>
        have hc' := hc
        rw [Bool.and_eq_true, Bool.and_eq_true, Bool.and_eq_true, decide_eq_true_eq, Bool.not_eq_true', decide_eq_true_eq, decide_eq_true_eq] at hc'
        obtain ⟨⟨⟨hl, hdup⟩, hpos⟩, h15⟩ := hc'
        obtain ⟨ka, kl⟩ := keys_of hk
        obtain ⟨_, _, pu, vl⟩ := vals_of (K := X.K) hv
        obtain ⟨ws, r1, pp⟩ := disp_pairs (X := X) (pos := p) hk hv hl
        refine PE.imp (pe_disp pp ka (by rw [kl, vl, hl]) (fun e => by rw [e] at kl; simp at kl; omega) (by omega)) fun σ H Q ⟨ρ, k, F, k0, f0, en, g, q⟩ => ?_
        unfold dctE at g
        rw [hk, hv] at g
        unfold oK at g
        dsimp only at g
        rw [hc] at g
        replace g : G (k (.dct (xs.map .inr) ds) ρ) := g
        intro a ha
        have wl : ws.length = ds.length := Rps.length _ _ _ (r1 H)
        refine pairs_run (xs.zip ws) ⟨upd_same, (xs.map .inr).zip ws, ?_, ?_, ?_⟩
        · rw [List.zip_map_left, List.map_map]
          rfl
        · rw [List.length_zip, List.length_map]; omega
        · have nd : (((xs.map Sum.inr : List Key).zip ws).map (·.1)).Nodup := by
            rw [List.map_fst_zip (by rw [List.length_map]; omega)]
            exact nodup_inr (dup_nodup hdup)
          rw [merge_fresh _ [] nd (fun _ _ z => by simp at z), List.nil_append, upd_upd]
          have kp : Keep F H (upd H a (.dK ((xs.map Sum.inr).zip ws))) := Keep.new ha
          have kp0 : Keep F0 H (upd H a (.dK ((xs.map Sum.inr).zip ws))) := Keep.new ha
          have c := (Ch.refl en).grow kp0
          refine q (.dct (xs.map .inr) ds) ρ (.ref a) _ _ c (.inr ⟨fun b => b = a, fun b e => .inr (by rw [e]; exact ha), fun b z e => z.2 (by rw [show b = a from e]; exact ha), ⟨a, ws, rfl, upd_same, by rw [List.length_map]; exact hl, rfl, Rps.mono _ _ _ _ (fun _ z => z.elim) (r1 _)⟩, fun b e => by rw [show b = a from e, upd_same]; exact fun z => nomatch z⟩) (fun z => nomatch z) g
theorem e_dctIx (ks : List (Option Expr)) (vs : List Expr) (dp : Pos) (i : Expr) (p : Pos) (hi : notSl i = true) : PE X (.Subscript (.Dict ks vs dp) i p) (RdE X.K G A0 H0 true false (fun ρ k => R.E C sc (.Dict ks vs dp) ρ fun d ρ1 => (match d with
    | .dct ks ds => pusK ds (R.E C sc i ρ1 fun y ρ2 => oK (keyD y) fun key => oK (dctGet ks ds key) fun z => k z ρ2)
    | _ => .stuck))) := by
  have ns : NoSl i := by
    cases i <;> first
      | exact fun _ _ => rfl
      | cases hi
  refine PE.imp (pe_dget (by have := o.room; omega) (S.E o (.Dict ks vs dp)) (S.E o i) ns) fun σ H Q ⟨ρ, k, F, k0, f0, en, g, q⟩ => ?_
  refine ⟨ρ, _, F, k0, f0, en, g, fun d ρ1 v H1 Fe c1 v1 _ g1 => ?_⟩
  cases d with
  | dct ks ds =>
    obtain ⟨pu, g1⟩ := pusK_of o.hG g1
    obtain ⟨Fv, ow⟩ := v1.own fun z => nomatch z
    refine ⟨ρ1, _, Fe, c1.keep k0 f0, c1.from k0 f0, c1.en, g1, fun y ρ2 w H2 Fe2 c2 v2 _ g2 => ?_⟩
    obtain ⟨key, hk, g2⟩ := oK_of o.hG g2
    obtain ⟨z, hz, g2⟩ := oK_of o.hG g2
    obtain ⟨Fy, hy⟩ := v2.any
    have ey := keyD_of hk hy
    obtain ⟨a, us, rfl, ha, hl, hF, hus⟩ := (ow.held c2).rp
    obtain ⟨u, hu, ru⟩ := (dct_val hl hus).1 z hz
    refine ⟨a, u, rfl, .inl ⟨_, key, .inl ha, ey, hu.symm⟩, q z ρ2 u H2 Fe2 (c1.trans c2) (.inr ⟨_, OwnV.pure ru (dctGet_pu pu hz)⟩) (fun z => nomatch z) g2⟩
  | _ => exact absurd g1 o.hG
theorem e_get2 (ks : List (Option Expr)) (vs : List Expr) (dp : Pos) (a e : Expr) (ap p : Pos) (hl : (ap.endLine == p.line) = true) (hst : noStar [a, e] = true) : PE X (.Call (.Attribute (.Dict ks vs dp) "get" ap) [a, e] [] p) (RdE X.K G A0 H0 false false (get2E R C sc (.Dict ks vs dp) a e)) := by
  obtain ⟨h1, h2⟩ := star_cons hst X.env
  obtain ⟨h3, _⟩ := star_cons h2 X.env
  have m : M2 X (.Dict ks vs dp) "get" ap a e p := ⟨rfl, all_few S o hst (by show 2 < 20; decide), hl, by rw [h1, h3]; rfl⟩
  refine PE.imp (pe_dget2 (by have := o.room; omega) (S.E o (.Dict ks vs dp)) (S.E o a) (S.E o e) m) fun σ H Q ⟨ρ, k, F, k0, f0, en, g, q⟩ => ?_
  unfold get2E at g
  refine ⟨ρ, _, F, k0, f0, en, g, fun d ρ1 v H1 Fe c1 v1 _ g1 => ?_⟩
  cases d with
  | dct ks ds =>
    obtain ⟨_, g1⟩ := ckK_of o.hG g1
    obtain ⟨pu, g1⟩ := pusK_of o.hG g1
    obtain ⟨Fv, ow⟩ := v1.own fun z => nomatch z
    obtain ⟨b, us, rfl, hb, hlen, hF, hus⟩ := ow.rp
    refine ⟨b, rfl, .inl ⟨_, .inl hb⟩, ρ1, _, Fe, c1.keep k0 f0, c1.from k0 f0, c1.en, g1, fun y ρ2 w H2 Fe2 c2 v2 _ g2 => ?_⟩
    have c12 := c1.trans c2
    refine ⟨ρ2, _, Fe2, c12.keep k0 f0, c12.from k0 f0, c12.en, g2, fun z ρ3 zv H3 Fe3 c3 v3 _ g3 => ?_⟩
    obtain ⟨key, hk, g3⟩ := oK_of o.hG g3
    obtain ⟨pz, g3⟩ := puK_of o.hG g3
    obtain ⟨Fy, hy⟩ := v2.any
    have ey := keyD_of hk hy
    obtain ⟨b', us', e', hb', hl', _, hus'⟩ := ((ow.held c2).held c3).rp
    cases e'
    obtain ⟨Fz, rz⟩ := v3.any
    cases hg : dctGet ks ds key with
    | some x =>
      rw [hg] at g3
      obtain ⟨u, hu, ru⟩ := (dct_val hl' hus').1 x hg
      exact ⟨some u, .inl ⟨_, key, .inl hb', ey, hu.symm⟩, q x ρ3 u H3 Fe3 (c12.trans c3) (.inr ⟨_, OwnV.pure ru (dctGet_pu pu hg)⟩) (fun z => nomatch z) g3⟩
    | none =>
      rw [hg] at g3
      exact ⟨none, .inl ⟨_, key, .inl hb', ey, ((dct_val hl' hus').2 hg).symm⟩, q z ρ3 zv H3 Fe3 (c12.trans c3) (.inr ⟨_, OwnV.pure rz pz⟩) (fun z => nomatch z) g3⟩
  | _ => exact absurd g1 o.hG
end
end TI
set_option Elab.async false
set_option linter.all false
set_option maxRecDepth 100000
set_option maxHeartbeats 4000000
/-! f-strings -/
namespace TI
open PySem PySem.Spec PyProof.Rows L2
theorem pe_fmtI {X : Cx} {e : Expr} {te : TE} {spec : Str} {j : Nat} {p1 p2 pos : Pos} (hns : PySem.W.nsIn X.K cStatics "sys.int_max_str_digits" = some none) (he : PE X e te) (hok : intSpecOk spec = true) (hsz : spec.length ≤ sizeLine) :
    PE X (.FormattedValue e (-1) (some (.JoinedStr [.Constant (.str spec) j p1] p2)) pos) (fun σ H Q => te σ H fun x H1 => ∃ i : Int, x = .int i ∧ 0 ≤ i ∧ i < 10 ^ 10 ∧ Q (.str (intSpecTextOf spec i)) H1) := by
  refine ⟨fun pins s σ H Q I h => ?_⟩
  refine wpAny_FormattedValue_spec (thn (he.run pins s σ H _ I h) fun v s1 hv => ?_)
  obtain ⟨x, H1, I1, r1, i, rfl, h0, h1, q⟩ := hv
  obtain ⟨t, rfl⟩ := r1
  refine thn ((pe_joined1 (pos := p2) (pe_str (x := spec) (j := j) (pos := p1))).run pins s1 σ H1 (fun y H2 => y = .str spec ∧ H2 = H1) I1 ⟨rfl, rfl⟩) fun r s2 hr => ?_
  obtain ⟨y, H2, I2, r2, rfl, rfl⟩ := hr
  obtain ⟨t2, rfl⟩ := r2
  refine ⟨spec, t2, rfl, ?_⟩
  obtain ⟨mc, n1, _⟩ := I2.nolimit
  exact PySem.W.KXf.field_sym ⟨mc, n1, ns_none I2.kIn n1 hns⟩ h0 h1 hok rfl hsz fun t' k _ _ _ => ⟨.str _, H2, I2.tok k, ⟨_, rfl⟩, q⟩
def RdF (K : PySem.W.Frag) (G : Res → Prop) (A0 : Fp) (H0 : Hp) (f : Env → (Str → Env → Res) → Res) : TE := fun σ H Q => ∃ ρ k F, Keep A0 H0 H ∧ Fr A0 H0 F ∧ Ens K H ρ σ F ∧ G (f ρ k) ∧
  ∀ y ρ' H' Fe, Ch K σ F H ρ Fe H' ρ' → G (k y ρ') → Q (.str y) H'
section
variable {X : Cx} {C : Cd} {sc : Scope} {cx : CXT} {er : Er} {EX : XK} {G : Res → Prop} {A0 : Fp} {H0 : Hp} {R : Fns} (S : Snd R) (o : Okx X C sc cx er EX G A0 H0)
include S o
theorem f_one (e : Expr) : PE X e (RdF X.K G A0 H0 (fvE R C sc e)) := by
  have bad : ∀ {e : Expr}, (∀ ρ k, fvE R C sc e ρ k = .stuck) → PE X e (RdF X.K G A0 H0 (fvE R C sc e)) := fun h => ⟨fun pins s σ H Q I ⟨ρ, k, F, k0, f0, en, g, q⟩ => by
    rw [h] at g
    exact absurd g o.hG⟩
  cases e with
  | Constant c j p =>
    cases c with
    | str x => exact PE.imp pe_str fun σ H Q ⟨ρ, k, F, k0, f0, en, g, q⟩ => q x ρ H _ (Ch.refl en) g
    | _ => exact bad fun _ _ => rfl
  | FormattedValue e c sp p =>
    cases c with
    | ofNat n => cases sp <;> exact bad fun _ _ => rfl
    | negSucc n =>
      cases n with
      | succ n => cases sp <;> exact bad fun _ _ => rfl
      | zero =>
        cases sp with
        | none =>
          refine PE.imp (pe_fmt (S.E o e)) fun σ H Q ⟨ρ, k, F, k0, f0, en, g, q⟩ => ?_
          refine ⟨ρ, _, F, k0, f0, en, g, fun d ρ1 v H1 Fe c1 v1 _ g1 => ?_⟩
          obtain ⟨y, hy, g2⟩ := oK_of o.hG g1
          obtain ⟨Fv, hv⟩ := v1.any
          cases d with
          | str z =>
            replace hy : (if z.length ≤ szLine then some z else none) = some y := hy
            by_cases hz : z.length ≤ szLine
            · rw [if_pos hz] at hy
              obtain rfl := Option.some.inj hy
              cases (show v = .str z from hv)
              exact .inl ⟨z, rfl, by rw [← szLine_eq]; exact hz, q z ρ1 H1 Fe c1 g2⟩
            · rw [if_neg hz] at hy; cases hy
          | int i =>
            replace hy : (if i.natAbs.log2 < 1920 then some (Str.ofString (toString i)) else none) = some y := hy
            by_cases hz : i.natAbs.log2 < 1920
            · rw [if_pos hz] at hy
              obtain rfl := Option.some.inj hy
              cases (show v = .int i from hv)
              exact .inr ⟨i, rfl, hz, q _ ρ1 H1 Fe c1 g2⟩
            · rw [if_neg hz] at hy; cases hy
          | _ => cases hy
        | some sp =>
          by_cases hh : ∃ z j p1 p2, sp = .JoinedStr [.Constant (.str z) j p1] p2
          · obtain ⟨z, j, p1, p2, rfl⟩ := hh
            cases hc : (decide (640 < C.lim) && (intSpecOk z && decide (z.length ≤ szLine))) with
            | false =>
              refine bad fun ρ k => ?_
              show ckK (decide (640 < C.lim) && (intSpecOk z && decide (z.length ≤ szLine))) _ = _
              rw [hc]
              rfl
            | true =>
              have hc' := hc
              rw [Bool.and_eq_true, Bool.and_eq_true, decide_eq_true_eq, decide_eq_true_eq] at hc'
              have hns : PySem.W.nsIn X.K cStatics "sys.int_max_str_digits" = some none := by
                rcases o.lim with h | h
                · omega
                · exact h.2
              refine PE.imp (pe_fmtI hns (S.E o e) hc'.2.1 (by rw [← szLine_eq]; exact hc'.2.2)) fun σ H Q ⟨ρ, k, F, k0, f0, en, g, q⟩ => ?_
              replace g : G (ckK (decide (640 < C.lim) && (intSpecOk z && decide (z.length ≤ szLine))) (R.E C sc e ρ fun d ρ1 => oK (fmtI z d) fun y => k y ρ1)) := g
              rw [hc] at g
              replace g : G (R.E C sc e ρ _) := g
              refine ⟨ρ, _, F, k0, f0, en, g, fun d ρ1 v H1 Fe c1 v1 _ g1 => ?_⟩
              obtain ⟨y, hy, g2⟩ := oK_of o.hG g1
              obtain ⟨Fv, hv⟩ := v1.any
              cases d with
              | int i =>
                replace hy : (if 0 ≤ i ∧ i < 10 ^ 10 then some (intSpecTextOf z i) else none) = some y := hy
                by_cases hz : 0 ≤ i ∧ i < 10 ^ 10
                · rw [if_pos hz] at hy
                  obtain rfl := Option.some.inj hy
                  cases (show v = .int i from hv)
                  exact ⟨i, rfl, hz.1, hz.2, q _ ρ1 H1 Fe c1 g2⟩
                · rw [if_neg hz] at hy; cases hy
              | _ => cases hy
          · refine bad fun ρ k => ?_
            unfold fvE
            split
            · rename_i h; cases h
            · rename_i h; cases h
            · rename_i h; cases h; exact absurd ⟨_, _, _, _, rfl⟩ hh
            · rfl
  | _ => exact bad fun _ _ => rfl
theorem f_all : ∀ es : List Expr, PJ X es (es.map fun e => RdF X.K G A0 H0 (fvE R C sc e))
  | [] => .nil
  | e :: es => .cons (f_one S o e) (f_all es)
omit S in
theorem f_rd : ∀ (es : List Expr) (acc : Str) (ρ : Env) (k : Str → Env → Res) (F : Fp) (σ : L2.St) (H : Hp) (Q : Str → Hp → Prop), Keep A0 H0 H → Fr A0 H0 F → Ens X.K H ρ σ F → G (fsE R C sc es acc ρ k) →
    (∀ out ρ' H' Fe, Ch X.K σ F H ρ Fe H' ρ' → G (k out ρ') → Q out H') → tJs (es.map fun e => RdF X.K G A0 H0 (fvE R C sc e)) acc σ H Q
  | [], acc, ρ, k, F, σ, H, Q, k0, f0, en, g, q => q acc ρ H _ (Ch.refl en) g
  | e :: es, acc, ρ, k, F, σ, H, Q, k0, f0, en, g, q => ⟨ρ, _, F, k0, f0, en, g, fun y ρ1 H1 Fe c1 g1 => by
      obtain ⟨hl, g1⟩ := ckK_of o.hG g1
      refine ⟨y, rfl, ?_, f_rd es (acc ++ y) ρ1 k Fe σ H1 Q (c1.keep k0 f0) (c1.from k0 f0) c1.en g1 fun out ρ' H' Fe' c2 g2 => q out ρ' H' Fe' (c1.trans c2) g2⟩
      have : (acc ++ y).length = acc.length + y.length := by
        show (acc.cps ++ y.cps).size = acc.cps.size + y.cps.size
        simp
      rw [this, ← szLine_eq]
      exact of_decide_eq_true hl⟩
theorem e_joined (a : Expr) (r : List Expr) (p : Pos) : PE X (.JoinedStr (a :: r) p) (RdE X.K G A0 H0 false false (fun ρ k => fsE R C sc (a :: r) Str.empty ρ fun y ρ1 => k (.str y) ρ1)) := by
  have fin : ∀ {σ : L2.St} {H : Hp} {Q : VK}, RdE X.K G A0 H0 false false (fun ρ k => fsE R C sc (a :: r) Str.empty ρ fun y ρ1 => k (.str y) ρ1) σ H Q → tJs ((a :: r).map fun e => RdF X.K G A0 H0 (fvE R C sc e)) Str.empty σ H fun out H1 => Q (.str out) H1 := fun ⟨ρ, k, F, k0, f0, en, g, q⟩ =>
    f_rd o (a :: r) Str.empty ρ _ F _ _ _ k0 f0 en g fun out ρ' H' Fe c g2 => q (.str out) ρ' (.str out) H' Fe c (.inr ⟨F0, OwnV.pure (Fx := F0) rfl rfl⟩) (fun z => nomatch z) g2
  cases r with
  | nil =>
    refine PE.imp (pe_joined1 (f_one S o a)) fun σ H Q h => ?_
    obtain ⟨ρ, k, F, k0, f0, en, g, q⟩ := h
    refine ⟨ρ, _, F, k0, f0, en, g, fun y ρ1 H1 Fe c1 g1 => ?_⟩
    obtain ⟨hl, g1⟩ := ckK_of o.hG g1
    have e0 : Str.empty ++ y = y := by
      show (⟨Str.empty.cps ++ y.cps⟩ : Str) = y
      have : Str.empty.cps ++ y.cps = y.cps := by show (#[] : Array Nat) ++ y.cps = y.cps; simp
      rw [this]
    rw [e0] at g1
    exact q (.str y) ρ1 (.str y) H1 Fe c1 (.inr ⟨F0, OwnV.pure (Fx := F0) rfl rfl⟩) (fun z => nomatch z) g1
  | cons b r => exact PE.imp (pe_joined (f_all S o (a :: b :: r))) fun σ H Q h => fin h
end
end TI
set_option Elab.async false
set_option linter.all false
set_option maxRecDepth 100000
set_option maxHeartbeats 4000000
/-! what is walked; targets -/
namespace TI
open PySem PySem.Spec PyProof.Rows L2



/-- what a walk yields, as long as what B holds is kept -/
structure Src (K : PySem.W.Frag) (J : It) (ds : List D) (B : Fp) (H0 : Hp) : Prop where
  go : ∀ H, Keep (fun a => ¬ B a) H0 H → ∀ i, i < ds.length → J.go i H
  yld : ∀ H, Keep (fun a => ¬ B a) H0 H → ∀ i x H', J.yld i H x H' → i < ds.length → Keep F0 H H' ∧ ∃ d, ds[i]? = some d ∧ Rp K H' d x F0
  stop : ∀ H, Keep (fun a => ¬ B a) H0 H → J.stop ds.length H
def RdI (K : PySem.W.Frag) (G : Res → Prop) (A0 : Fp) (H0 : Hp) (f : Env → (List D → Env → Res) → Res) : L2.TI := fun σ H R => ∃ ρ k F, Keep A0 H0 H ∧ Fr A0 H0 F ∧ Ens K H ρ σ F ∧ G (f ρ k) ∧
  ∀ ds ρ' J H' Fe B, Ch K σ F H ρ Fe H' ρ' → Src K J ds B H' → (∀ a, B a → H' a ≠ none) → Dis Fe B → D.pus ds = true → G (k ds ρ') → R J H'
def iSeq (K : PySem.W.Frag) (tl : TE) : L2.TI := fun σ H R => tl σ H fun x H1 => ∃ a, x = .ref a ∧ (((∃ xs, SqL K H1 a xs) ∧ R (Itl K a) H1) ∨ ((∃ xs, SqT K H1 a xs) ∧ R (Itt K a) H1))
theorem pi_seq {X : Cx} {tg l : Expr} {tl : TE} (hl : PE X l tl) : PI X tg l (iSeq X.K tl) := by
  refine ⟨fun pins s σ H R I h => ?_⟩
  refine thn (hl.run pins s σ H _ I h) fun v s1 ⟨x, H1, I1, r1, q1⟩ => ?_
  obtain ⟨a, e, q⟩ := q1
  subst e
  cases r1
  rcases q with ⟨⟨xs, hq⟩, q⟩ | ⟨⟨xs, hq⟩, q⟩
  · obtain ⟨its, rv, p, hz⟩ := I1.list hq
    refine wpAny_pyIter_list p.isList ?_
    refine ⟨s1.heap.objs.size, [s1.heap.objs.size], _, _, H1, rfl, I1.kept (t' := s1.toks) fun b o e => Heap.get?_push_of_some _ e, turn_list a _, ⟨_, Heap.get?_push_size _ rfl, rfl, rfl⟩, fun b hb => ?_, q⟩
    have e : b = s1.heap.objs.size := by simpa using hb
    subst e
    exact I1.fpOk (Nat.le_refl _) (I1.hok.fresh (Nat.le_refl _))
  · obtain ⟨its, rv, p, hz⟩ := I1.tuple hq
    refine wpAny_pyIter_tuple (show s1.heap.IsTuple a its.toArray from p) ?_
    refine ⟨s1.heap.objs.size, [s1.heap.objs.size], _, _, H1, rfl, I1.kept (t' := s1.toks) fun b o e => Heap.get?_push_of_some _ e, turn_tuple a _, ⟨_, Heap.get?_push_size _ rfl, rfl, rfl⟩, fun b hb => ?_, q⟩
    have e : b = s1.heap.objs.size := by simpa using hb
    subst e
    exact I1.fpOk (Nat.le_refl _) (I1.hok.fresh (Nat.le_refl _))
theorem Rps.idx {K : PySem.W.Frag} {H : Hp} {ds : List D} {vs : List V} {F : Fp} (h : Rps K H ds vs F) {i : Nat} {x : V} (e : vs[i]? = some x) : ∃ d, ds[i]? = some d ∧ Rp K H d x F := by
  have hl := Rps.length _ _ _ h
  have hi : i < vs.length := (List.getElem?_eq_some_iff.mp e).1
  have hi2 : i < ds.length := by omega
  obtain ⟨v, hv, r⟩ := Rps.get _ _ _ i ds[i] h (List.getElem?_eq_getElem hi2)
  rw [e] at hv; cases hv
  exact ⟨_, List.getElem?_eq_getElem hi2, r⟩
theorem src_list {K : PySem.W.Frag} {ds : List D} {B : Fp} {H0 : Hp} {a : Addr} {vs : List V} (hq : ∀ H, Keep (fun a => ¬ B a) H0 H → SqL K H a vs) (hr : Rps K H0 ds vs F0) : Src K (Itl K a) ds B H0 := by
  have hl := Rps.length _ _ _ hr
  refine ⟨fun H k i hi => ?_, fun H k i x H' hy hi => ?_, fun H k => ⟨vs, hq H k, by omega⟩⟩
  · have : i < vs.length := by omega
    exact ⟨vs, vs[i], hq H k, List.getElem?_eq_getElem this⟩
  · obtain ⟨e, hx⟩ := hy
    subst e
    obtain ⟨d, hd, rp⟩ := Rps.idx (Rps.stay k _ _ _ (fun _ z => z.elim) hr) (hx vs (hq _ k))
    exact ⟨Keep.refl _ _, d, hd, rp⟩
theorem src_tup {K : PySem.W.Frag} {ds : List D} {B : Fp} {H0 : Hp} {a : Addr} {vs : List V} (hq : ∀ H, Keep (fun a => ¬ B a) H0 H → SqT K H a vs) (hr : Rps K H0 ds vs F0) : Src K (Itt K a) ds B H0 := by
  have hl := Rps.length _ _ _ hr
  refine ⟨fun H k i hi => ?_, fun H k i x H' hy hi => ?_, fun H k => ⟨vs, hq H k, by omega⟩⟩
  · have : i < vs.length := by omega
    exact ⟨vs, vs[i], hq H k, List.getElem?_eq_getElem this⟩
  · obtain ⟨e, hx⟩ := hy
    subst e
    obtain ⟨d, hd, rp⟩ := Rps.idx (Rps.stay k _ _ _ (fun _ z => z.elim) hr) (hx vs (hq _ k))
    exact ⟨Keep.refl _ _, d, hd, rp⟩
theorem rngL_length (lo : Int) (n : Nat) : (rngL lo n).length = n := by unfold rngL; simp
theorem rngL_get (lo : Int) (n i : Nat) (h : i < n) : (rngL lo n)[i]? = some (.int (lo + i)) := by unfold rngL; simp [h]
theorem rngL_pus (lo : Int) (n : Nat) : D.pus (rngL lo n) = true := by
  have : ∀ l : List Nat, D.pus (l.map fun (i : Nat) => D.int (lo + (i : Int))) = true := fun l => by
    induction l with
    | nil => rfl
    | cons a l ih => rw [List.map_cons, D.pus, ih]; rfl
  exact this _
theorem src_rng {K : PySem.W.Frag} {lo : Int} {n : Nat} {B : Fp} {H0 : Hp} : Src K (Itr lo n) (rngL lo n) B H0 := by
  refine ⟨fun H k i hi => ?_, fun H k i x H' hy hi => ?_, fun H k => ?_⟩
  · rw [rngL_length] at hi; exact hi
  · rw [rngL_length] at hi
    obtain ⟨e, hx⟩ := hy
    subst e
    exact ⟨Keep.refl _ _, _, rngL_get lo n i hi, by rw [hx]; rfl⟩
  · show n ≤ _
    rw [rngL_length]; exact Nat.le_refl _
section
variable {X : Cx} {C : Cd} {sc : Scope} {cx : CXT} {er : Er} {EX : XK} {G : Res → Prop} {A0 : Fp} {H0 : Hp} {R : Fns} (S : Snd R) (o : Okx X C sc cx er EX G A0 H0)
include S o
omit S o in
theorem pi_imp {X : Cx} {tg e : Expr} {t t' : L2.TI} (h : PI X tg e t) (w : ∀ σ H R, t' σ H R → t σ H R) : PI X tg e t' := ⟨fun pins s σ H R I q => h.run pins s σ H R I (w σ H R q)⟩
omit S o in
theorem pi_bad {X : Cx} {tg e : Expr} {t : L2.TI} (h : ∀ σ H R, t σ H R → False) : PI X tg e t := ⟨fun pins s σ H R I q => (h σ H R q).elim⟩
theorem i_val (tg e : Expr) : PI X tg e (RdI X.K G A0 H0 (fun ρ k => R.E C sc e ρ fun d ρ1 => seqK e d fun ds => k ds ρ1)) := by
  refine pi_imp (pi_seq (S.E o e)) fun σ H R' ⟨ρ, k, F, k0, f0, en, g, q⟩ => ?_
  refine ⟨ρ, _, F, k0, f0, en, g, fun d ρ1 v H1 Fe c1 v1 _ g1 => ?_⟩
  cases d with
  | tup ds =>
    obtain ⟨Fv, a, vs, rfl, hq, pu, hr⟩ := v1.any
    refine ⟨a, rfl, .inr ⟨⟨vs, hq⟩, q ds ρ1 _ H1 Fe F0 c1 (src_tup (fun H k => sqt_keep k hq) (Rps.pure _ _ _ pu hr)) (fun _ z => z.elim) (fun _ _ z => z) pu g1⟩⟩
  | rol ds =>
    obtain ⟨Fv, a, vs, rfl, hq, pu, hr⟩ := v1.any
    refine ⟨a, rfl, .inl ⟨⟨vs, hq.sq⟩, q ds ρ1 _ H1 Fe F0 c1 (src_list (fun H k => (sqf_keep k hq).sq) (Rps.pure _ _ _ pu hr)) (fun _ z => z.elim) (fun _ _ z => z) pu g1⟩⟩
  | lck ds =>
    obtain ⟨Fv, a, vs, rfl, hq, pu, hr⟩ := v1.any
    refine ⟨a, rfl, .inl ⟨⟨vs, hq.sq⟩, q ds ρ1 _ H1 Fe F0 c1 (src_list (fun H k => (sqf_keep k hq).sq) (Rps.pure _ _ _ pu hr)) (fun _ z => z.elim) (fun _ _ z => z) pu g1⟩⟩
  | lst ds =>
    obtain ⟨hp, g1⟩ := ckK_of o.hG g1
    rw [Bool.not_eq_true'] at hp
    obtain ⟨pu, g1⟩ := pusK_of o.hG g1
    obtain ⟨Fv, ow⟩ := v1.own fun z => by rw [hp] at z; cases z
    obtain ⟨a, vs, rfl, hq, ha, hr⟩ := ow.rp
    refine ⟨a, rfl, .inl ⟨⟨vs, .inl (.inl hq)⟩, q ds ρ1 _ H1 Fe Fv c1 (src_list (fun H k => .inl (.inl (k.k _ _ hq (.inl fun z => z ha)))) (Rps.pure _ _ _ pu hr)) ow.tr ow.dj pu g1⟩⟩
  | _ => exact absurd g1 o.hG
theorem i_rng (tg : Expr) (fp p : Pos) (args : List Expr) (hb : isBi C sc "range" = true) (hst : noStar args = true) : PI X tg (.Call (.Name "range" fp) args [] p) (RdI X.K G A0 H0 (rngE R C sc args)) := by
  obtain ⟨f1, f2, f3⟩ := isBi_of hb
  match args, hst with
  | [], _ => exact pi_bad fun σ H R' ⟨ρ, k, F, k0, f0, en, g, q⟩ => absurd g o.hG
  | _ :: _ :: _ :: _, _ => exact pi_bad fun σ H R' ⟨ρ, k, F, k0, f0, en, g, q⟩ => absurd g o.hG
  | [a], hst =>
    obtain ⟨h1, h2⟩ := star_cons hst X.env
    refine pi_imp (pi_range1 (o.toCok.glx f1) (o.bi _ f3) (S.A o [a]) h1) fun σ H R' ⟨ρ, k, F, k0, f0, en, g, q⟩ => ?_
    refine ⟨ρ, _, F, k0, f0, en, g, fun as ρ1 vs H1 Fe Fv c1 fr dj tr ar g1 => ?_⟩
    obtain ⟨ds, hds, g1⟩ := resB_of o.hG ar c1.en g1
    have key : ∃ hi, ds = [.int hi] ∧ G (ckK (smallI hi) (k (rngL 0 hi.toNat) ρ1)) := by
      split at g1
      · exact ⟨_, rfl, g1⟩
      · exact absurd g1 o.hG
    obtain ⟨hi, rfl, g1⟩ := key
    obtain ⟨w, ws, F', rfl, hw, hn⟩ := hds
    cases (show ws = [] from hn)
    cases (show w = .int hi from hw)
    obtain ⟨hs, g1⟩ := ckK_of o.hG g1
    unfold smallI at hs
    rw [decide_eq_true_eq] at hs
    exact ⟨hi, rfl, by omega, by omega, q _ ρ1 _ H1 Fe F0 c1 src_rng (fun _ z => z.elim) (fun _ _ z => z) (rngL_pus _ _) g1⟩
  | [a, b], hst =>
    obtain ⟨h1, h2⟩ := star_cons hst X.env
    obtain ⟨h3, h4⟩ := star_cons h2 X.env
    refine pi_imp (pi_range2 (o.toCok.glx f1) (o.bi _ f3) (S.A o [a, b]) (by rw [h1, h3]; rfl) h3) fun σ H R' ⟨ρ, k, F, k0, f0, en, g, q⟩ => ?_
    refine ⟨ρ, _, F, k0, f0, en, g, fun as ρ1 vs H1 Fe Fv c1 fr dj tr ar g1 => ?_⟩
    obtain ⟨ds, hds, g1⟩ := resB_of o.hG ar c1.en g1
    have key : ∃ lo hi, ds = [.int lo, .int hi] ∧ G (ckK (smallI lo && smallI hi) (k (rngL lo (hi - lo).toNat) ρ1)) := by
      split at g1
      · exact ⟨_, _, rfl, g1⟩
      · exact absurd g1 o.hG
    obtain ⟨lo, hi, rfl, g1⟩ := key
    obtain ⟨w, ws, F', rfl, hw, hn⟩ := hds
    obtain ⟨w2, ws2, F2, rfl, hw2, hn2⟩ := hn
    cases (show ws2 = [] from hn2)
    cases (show w = .int lo from hw)
    cases (show w2 = .int hi from hw2)
    obtain ⟨hs, g1⟩ := ckK_of o.hG g1
    unfold smallI at hs
    rw [Bool.and_eq_true, decide_eq_true_eq, decide_eq_true_eq] at hs
    exact ⟨lo, hi, rfl, ⟨by omega, by omega, by omega, by omega⟩, q _ ρ1 _ H1 Fe F0 c1 src_rng (fun _ z => z.elim) (fun _ _ z => z) (rngL_pus _ _) g1⟩
omit S in
/-- a list that a name holds, read alone from here on -/
theorem i_lock {tg e e1 : Expr} {f : Env → (List D → Env → Res) → Res} (h : PI X tg e (RdI X.K G A0 H0 f)) : PI X tg e (RdI X.K G A0 H0 (fun ρ k => lockE C sc e1 ρ fun ρ1 => f ρ1 k)) := by
  refine ⟨fun pins s σ H R' I ⟨ρ, k, F, k0, f0, en, g, q⟩ => ?_⟩
  have plain : G (f ρ k) → wpAny (model X.prog X.w) X.A (eval e X.env) (fun v s1 => wpAny (model X.prog X.w) X.A (pyIter v) (PIE X pins σ tg R') X.xe s1) X.xe s := fun g => h.run pins s σ H R' I ⟨ρ, k, F, k0, f0, en, g, q⟩
  replace g : G (lockE C sc e1 ρ fun ρ1 => f ρ1 k) := g
  unfold lockE at g
  cases hj : nmSlot C sc e1 with
  | none => rw [hj] at g; exact plain g
  | some j =>
    rw [hj] at g
    dsimp only at g
    cases ho : ρ[j]? with
    | none => rw [ho] at g; exact absurd g o.hG
    | some od =>
      rw [ho] at g
      replace g : G (lockO od fun o' => f (ρ.set j o') k) := g
      have same : ρ.set j od = ρ := by
        apply List.ext_getElem?
        intro i
        by_cases hij : j = i
        · subst hij
          rw [List.getElem?_set, if_pos rfl, ho]
          have : j < ρ.length := (List.getElem?_eq_some_iff.mp ho).1
          rw [if_pos this]
        · rw [List.getElem?_set_ne hij]
      have back : (lockO od fun o' => f (ρ.set j o') k) = f (ρ.set j od) k → G (f ρ k) := fun z => by rw [z, same] at g; exact g
      cases od with
      | none => exact plain (back rfl)
      | some d =>
        cases d with
        | lst ds =>
          replace g : G (pusK ds (f (ρ.set j (some (.lck ds))) k)) := g
          obtain ⟨pu, g⟩ := pusK_of o.hG g
          obtain ⟨v, G1, G2, hv, hr, en2, s1, s2, dj⟩ := Ens.take _ _ _ _ _ en ho
          obtain ⟨a, vs, rfl, ha, hF, hr⟩ := hr
          obtain ⟨ob, I2⟩ := I.lock ha trivial
          have kp : Keep (fun b => b = a) H (upd H a (.frz ob (.lst vs))) := Keep.set ha rfl fun z => z
          have rp : Rp X.K (upd H a (.frz ob (.lst vs))) (.lck ds) (.ref a) F0 := ⟨a, vs, rfl, .inl ⟨ob, upd_same⟩, pu, Rps.stay kp _ _ _ (fun _ z => z.elim) (Rps.pure _ _ _ pu hr)⟩
          have en3 := Ens.back (Ens.stay kp _ _ _ (fun b h1 h2 => dj b (by rw [show b = a from h2]; exact hF) h1) en2) hv rp (fun _ _ z => z)
          have im : Imp ρ (ρ.set j (some (.lck ds))) := fun i d' e p' => by
            by_cases hij : j = i
            · subst hij
              exact ⟨_, ho, rfl⟩
            · rw [List.getElem?_set_ne hij] at e; exact ⟨d', e, p'⟩
          have c : Ch X.K σ F H ρ (fun b => (G2 b ∨ F0 b) ∧ upd H a (.frz ob (.lst vs)) b ≠ none) (upd H a (.frz ob (.lst vs))) (ρ.set j (some (.lck ds))) :=
            ⟨kp.mono fun b z => by rw [show b = a from z]; exact s1 a hF, im, fun b z => .inl (z.1.elim (s2 b) fun z => z.elim), Ens.trim _ _ _ en3, fun _ z => z.2⟩
          exact h.run pins s σ _ R' I2 ⟨_, k, _, c.keep k0 f0, c.from k0 f0, c.en, g, fun ds' ρ' J H' Fe B c1 => q ds' ρ' J H' Fe B (c.trans c1)⟩
        | _ => exact plain (back rfl)
def iterN (R : Fns) (C : Cd) (sc : Scope) (e : Expr) (ρ : Env) (k : List D → Env → Res) : Res := match rngF e with
  | some (f, args) => if f = "range" then ckK (isBi C sc f && noStar args) (rngE R C sc args ρ k) else R.E C sc e ρ fun d ρ1 => seqK e d fun ds => k ds ρ1
  | none => R.E C sc e ρ fun d ρ1 => seqK e d fun ds => k ds ρ1
theorem i_iterN (tg e : Expr) : PI X tg e (RdI X.K G A0 H0 (iterN R C sc e)) := by
  have dflt : (∀ ρ k, iterN R C sc e ρ k = R.E C sc e ρ fun d ρ1 => seqK e d fun ds => k ds ρ1) → PI X tg e (RdI X.K G A0 H0 (iterN R C sc e)) := fun h =>
    pi_imp (i_val S o tg e) fun σ H R' ⟨ρ, k, F, k0, f0, en, g, q⟩ => ⟨ρ, k, F, k0, f0, en, by have g' := g; rw [h] at g'; exact g', q⟩
  cases hf : rngF e with
  | none =>
    refine dflt fun ρ k => ?_
    unfold iterN
    rw [hf]
  | some fa =>
    obtain ⟨f, args⟩ := fa
    by_cases hr : f = "range"
    · subst hr
      obtain ⟨fp, p, rfl⟩ : ∃ fp p, e = .Call (.Name "range" fp) args [] p := by
        unfold rngF at hf
        split at hf
        · cases hf; exact ⟨_, _, rfl⟩
        · cases hf
      cases hb : isBi C sc "range" && noStar args with
      | false =>
        refine pi_bad fun σ H R' ⟨ρ, k, F, k0, f0, en, g, q⟩ => ?_
        unfold iterN at g
        rw [hf] at g
        dsimp only at g
        rw [if_pos rfl, hb] at g
        exact absurd g o.hG
      | true =>
        rw [Bool.and_eq_true] at hb
        refine pi_imp (i_rng S o tg fp p args hb.1 hb.2) fun σ H R' ⟨ρ, k, F, k0, f0, en, g, q⟩ => ⟨ρ, k, F, k0, f0, en, ?_, q⟩
        unfold iterN at g
        rw [hf] at g
        dsimp only at g
        rw [if_pos rfl, hb.1, hb.2] at g
        exact g
    · refine dflt fun ρ k => ?_
      unfold iterN
      rw [hf]
      dsimp only
      rw [if_neg hr]
theorem i_iter (tg e : Expr) : PI X tg e (RdI X.K G A0 H0 (iterE R C sc e)) := by
  cases hs : isSet e with
  | true =>
    refine pi_bad fun σ H R' ⟨ρ, k, F, k0, f0, en, g, q⟩ => ?_
    unfold iterE at g
    rw [hs] at g
    exact absurd g o.hG
  | false =>
    refine pi_imp (i_lock (e1 := e) o (i_iterN S o tg e)) fun σ H R' ⟨ρ, k, F, k0, f0, en, g, q⟩ => ⟨ρ, k, F, k0, f0, en, ?_, q⟩
    unfold iterE at g
    rw [hs] at g
    exact g
/-! ### targets -/
def RdGs (K : PySem.W.Frag) (G : Res → Prop) (C : Cd) (sc : Scope) (f : List D → Env → (Env → Res) → Res) : TGs := fun vs σ H Q => ∃ ρ k F ds, Ens K H ρ σ F ∧ Rps K H ds vs F0 ∧ D.pus ds = true ∧ G (f ds ρ k) ∧
  ∀ ρ' σ' F', (∀ a, F' a → F a) → Ens K H ρ' σ' F' → Sl C sc σ σ' → Imp ρ ρ' → (∀ vs, Par C.np vs σ ρ → Par C.np vs σ' ρ') → G (k ρ') → Q σ' H
omit S o in
theorem asg_cons {e : Expr} {es : List Expr} (h : noStar (e :: es) = true) (env : PySem.Env) : assignEach (e :: es) env = (false, assign e env) :: assignEach es env := by
  cases e <;> first
    | rfl
    | cases h
omit S o in
theorem asg_len : ∀ {es : List Expr} (h : noStar es = true) (env : PySem.Env), (assignEach es env).length = es.length ∧ (assignEach es env).findIdx? (·.1) = none
  | [], _, _ => ⟨rfl, rfl⟩
  | e :: es, h, env => by
    obtain ⟨h1, h2⟩ := asg_len (star_cons h env).2 env
    rw [asg_cons h]
    refine ⟨by rw [List.length_cons, List.length_cons, h1], ?_⟩
    rw [List.findIdx?_cons]
    simp [h2]
omit S o in
theorem Sl.refl (σ : L2.St) : Sl C sc σ σ := ⟨rfl, fun j h => absurd rfl h⟩
omit S o in
theorem Sl.trans {a b c : L2.St} (h : Sl C sc a b) (g : Sl C sc b c) : Sl C sc a c := ⟨g.1.trans h.1, fun j n => by
  by_cases e : c[j]? = b[j]?
  · exact h.2 j (by rw [← e]; exact n)
  · exact g.2 j e⟩
theorem g_list : ∀ (es : List Expr), noStar es = true → PGs X es (RdGs X.K G C sc (tgsE R C sc es))
  | [], _ => by
    refine ⟨fun pins s σ H vs us Q I r ⟨ρ, k, F, ds, en, hr, pu, g, q⟩ => pgs_nil.run pins s σ H vs us Q I r ?_⟩
    cases ds with
    | nil => exact ⟨hr, q ρ σ F (fun _ z => z) en (Sl.refl σ) (Imp.refl _) (fun _ z => z) g⟩
    | cons d ds => exact absurd g o.hG
  | e :: es, h => by
    obtain ⟨_, h2⟩ := star_cons h X.env
    refine ⟨fun pins s σ H vs us Q I r ⟨ρ, k, F, ds, en, hr, pu, g, q⟩ => (pgs_cons (S.G o e) (g_list es h2) (by rw [asg_cons h]; rfl)).run pins s σ H vs us Q I r ?_⟩
    cases ds with
    | nil => exact absurd g o.hG
    | cons d ds =>
      obtain ⟨v, ws, G1, G2, rfl, h1, hr, s1, s2, _⟩ := hr
      rw [D.pus, Bool.and_eq_true] at pu
      refine ⟨v, ws, rfl, ρ, _, F, d, F0, en, Rp.mono _ _ _ _ s1 h1, fun _ _ z => z, g, fun ρ1 σ1 F1 f1 en1 sl1 im1 pa1 g1 => ?_⟩
      refine ⟨ρ1, _, F1, ds, en1, Rps.mono _ _ _ _ s2 hr, pu.2, g1, fun ρ2 σ2 F2 f2 en2 sl2 im2 pa2 g2 => ?_⟩
      exact q ρ2 σ2 F2 (fun a z => (f1 a (f2 a z)).elim id fun z => z.elim) en2 (sl1.trans sl2) ((im1 pu.1).trans im2) (fun vs z => pa2 vs (pa1 vs z)) g2
theorem g_step (e : Expr) : PG X e (RdG X.K G C sc (stepG R C sc e)) := by
  cases e with
  | Name x p =>
    cases hs : slotOf C sc x with
    | none =>
      refine pg_bad fun v σ H Q ⟨ρ, k, F, d, Fv, en, rp, dj, g, q⟩ => ?_
      dsimp only [stepG] at g
      rw [hs] at g
      exact absurd g o.hG
    | some i =>
      cases hc : C.own x && locl sc x with
      | false =>
        refine pg_bad fun v σ H Q ⟨ρ, k, F, d, Fv, en, rp, dj, g, q⟩ => ?_
        dsimp only [stepG] at g
        rw [hs] at g
        dsimp only at g
        rw [hc] at g
        exact absurd g o.hG
      | true =>
        rw [Bool.and_eq_true] at hc
        obtain ⟨x1, x2, x3, x4⟩ := o.toCok.visx hs
        have hl : Loc X.env.scope x := by rw [o.hsc]; exact locl_of hc.2
        refine ⟨fun pins s σ H v u Q I r ⟨ρ, k, F, d, Fv, en, rp, dj, g, q⟩ => (pg_name (pos := p) o.nd x1 hl (o.own x hc.1 hc.2)).run pins s σ H v u Q I r ?_⟩
        show Q (σ.set i (some v)) H
        dsimp only [stepG] at g
        rw [hs] at g
        dsimp only at g
        rw [hc.1, hc.2] at g
        replace g : G (setK C i d ρ k) := g
        have sl : Sl C sc σ (σ.set i (some v)) := ⟨List.length_set, fun j hj => by
          by_cases e : i = j
          · subst e; exact ⟨x, hc.1, hc.2, hs⟩
          · rw [List.getElem?_set_ne e] at hj; exact absurd rfl hj⟩
        have im : d.pu = true → Imp ρ (ρ.set i (some d)) := fun pu j d' e p' => by
          by_cases hj : i = j
          · subst hj
            rw [List.getElem?_set] at e
            rw [if_pos rfl] at e
            split at e
            · cases e; rw [pu] at p'; cases p'
            · cases e
          · rw [List.getElem?_set_ne hj] at e; exact ⟨d', e, p'⟩
        have pa : (i < C.np → d.pu = true) → ∀ vs, Par C.np vs σ ρ → Par C.np vs (σ.set i (some v)) (ρ.set i (some d)) := fun hd vs hp j d' hj e p' => by
          by_cases hij : i = j
          · subst hij
            rw [List.getElem?_set] at e
            rw [if_pos rfl] at e
            split at e
            · cases e; rw [hd hj] at p'; cases p'
            · cases e
          · rw [List.getElem?_set_ne hij] at e
            rw [List.getElem?_set_ne hij]
            exact hp j d' hj e p'
        unfold setK at g
        by_cases hnp : i < C.np
        · rw [if_pos hnp] at g
          obtain ⟨pu, g⟩ := puK_of o.hG g
          split at g
          · obtain ⟨_, g⟩ := puK_of o.hG g
            exact q _ _ _ (fun a z => z) (Ens.put _ _ _ _ i d v en rp dj) sl im (pa fun _ => pu) g
          · exact absurd g o.hG
        · rw [if_neg hnp] at g
          exact q _ _ _ (fun a z => z) (Ens.put _ _ _ _ i d v en rp dj) sl im (pa fun z => absurd z hnp) g
  | Tuple es n p =>
    cases hst : noStar es with
    | false =>
      refine pg_bad fun v σ H Q ⟨ρ, k, F, d, Fv, en, rp, dj, g, q⟩ => ?_
      dsimp only [stepG] at g
      rw [hst] at g
      exact absurd g o.hG
    | true =>
      obtain ⟨l1, l2⟩ := asg_len hst X.env
      refine ⟨fun pins s σ H v u Q I r ⟨ρ, k, F, d, Fv, en, rp, dj, g, q⟩ => ?_⟩
      dsimp only [stepG] at g
      rw [hst] at g
      cases d with
      | tup ds =>
        replace g : G (ckK (decide (ds.length = es.length)) (tgsE R C sc es ds ρ k)) := g
        obtain ⟨hl, g⟩ := ckK_of o.hG g
        obtain ⟨a, vs, rfl, hq, pu, hr⟩ := rp
        refine (pg_tup (k := n) (pos := p) o.calm (g_list S o es hst) l1 l2).run pins s σ H _ u Q I r ?_
        refine ⟨a, vs, rfl, hq, by rw [Rps.length _ _ _ hr]; exact of_decide_eq_true hl, ρ, k, F, ds, en, Rps.pure _ _ _ pu hr, pu, g, fun ρ' σ' F' f' en' sl im pa g' => ?_⟩
        exact q ρ' σ' F' (fun a z => .inl (f' a z)) en' sl (fun _ => im) pa g'
      | lst ds =>
        replace g : G (ckK (decide (ds.length = es.length)) (pusK ds (tgsE R C sc es ds ρ k))) := g
        obtain ⟨hl, g⟩ := ckK_of o.hG g
        obtain ⟨pu, g⟩ := pusK_of o.hG g
        obtain ⟨a, vs, rfl, hq, _, hr⟩ := rp
        refine (pg_lst (k := n) (pos := p) o.calm (g_list S o es hst) l1 l2).run pins s σ H _ u Q I r ?_
        refine ⟨a, vs, rfl, .inl (.inl hq), by rw [Rps.length _ _ _ hr]; exact of_decide_eq_true hl, ρ, k, F, ds, en, Rps.pure _ _ _ pu hr, pu, g, fun ρ' σ' F' f' en' sl im pa g' => ?_⟩
        exact q ρ' σ' F' (fun a z => .inl (f' a z)) en' sl (fun _ => im) pa g'
      | _ => exact absurd g o.hG
  | _ => exact pg_bad fun v σ H Q ⟨ρ, k, F, d, Fv, en, rp, dj, g, q⟩ => absurd g o.hG
omit S o in
theorem enF_of {e : Expr} {t : Expr × Int} (h : enF e = some t) : ∃ (p cp kp pos : Pos) (j : Nat), e = .Call (.Name "enumerate" p) [t.1] [⟨some "start", .Constant (.int t.2) j cp, kp⟩] pos := by
  unfold enF at h
  split at h
  · split at h
    · rename_i hh
      obtain ⟨rfl, rfl⟩ := hh
      cases h
      exact ⟨_, _, _, _, _, rfl⟩
    · cases h
  · cases h
omit S o in
theorem enD_len : ∀ (c : Int) (ds : List D), (enD c ds).length = ds.length
  | _, [] => rfl
  | c, d :: ds => by show (enD (c + 1) ds).length + 1 = _; rw [enD_len (c + 1) ds]; rfl
omit S o in
theorem enD_pus : ∀ (c : Int) (ds : List D), D.pus (enD c ds) = true
  | _, [] => rfl
  | c, d :: ds => enD_pus (c + 1) ds
omit S o in
theorem enD_get : ∀ (c : Int) (ds : List D) (i : Nat) (d : D), ds[i]? = some d → (enD c ds)[i]? = some (.tup [.int (c + (i : Nat)), d])
  | _, [], i, d, h => by simp at h
  | c, x :: ds, 0, d, h => by
    simp at h
    subst h
    show some _ = some _
    rw [show c + ((0 : Nat) : Int) = c from by omega]
  | c, x :: ds, i + 1, d, h => by
    show (enD (c + 1) ds)[i]? = _
    rw [enD_get (c + 1) ds i d (by simpa using h), show c + 1 + ((i : Nat) : Int) = c + ((i + 1 : Nat) : Int) from by omega]
omit S o in
theorem src_en {K : PySem.W.Frag} {ds : List D} {B : Fp} {H0 : Hp} {a : Addr} {vs : List V} {c : Int} (hq : ∀ H, Keep (fun a => ¬ B a) H0 H → SqL K H a vs) (hr : Rps K H0 ds vs F0) (pu : D.pus ds = true) : Src K (TEn.IteS K a c) (enD c ds) B H0 := by
  have hl := Rps.length _ _ _ hr
  refine ⟨fun H k i hi => ?_, fun H k i x H' hy hi => ?_, fun H k => ⟨vs, hq H k, by rw [enD_len]; omega⟩⟩
  · rw [enD_len] at hi
    have : i < vs.length := by omega
    exact ⟨vs, vs[i], hq H k, List.getElem?_eq_getElem this⟩
  · obtain ⟨T, y, rfl, hT, rfl, hx⟩ := hy
    obtain ⟨d, hd, rp⟩ := Rps.idx (Rps.stay k _ _ _ (fun _ z => z.elim) hr) (hx vs (hq _ k))
    have hp : D.pus [.int (c + (i : Nat)), d] = true := by show (true && (d.pu && true)) = true; rw [pus_get pu hd]; rfl
    refine ⟨Keep.new hT, _, enD_get c ds i d hd, T, [.int (c + (i : Nat)), y], rfl, .inl (.inl upd_same), hp, ?_⟩
    exact ⟨.int (c + (i : Nat)), [y], F0, F0, rfl, rfl, ⟨y, [], F0, F0, rfl, Rp.stay (Keep.new (F := F0) hT) _ _ _ (fun _ z => z.elim) rp, rfl, fun _ z => z, fun _ z => z, fun _ z => False.elim z⟩, fun _ z => z, fun _ z => z, fun _ z => False.elim z⟩
omit S o in
theorem enF2_of {e : Expr} {t : Expr × Expr} (h : enF2 e = some t) : ∃ (p kp pos : Pos), e = .Call (.Name "enumerate" p) [t.1] [⟨some "start", t.2, kp⟩] pos := by
  unfold enF2 at h
  split at h
  · split at h
    · rename_i hh
      obtain ⟨rfl, rfl⟩ := hh
      cases h
      exact ⟨_, _, _, rfl⟩
    · cases h
  · cases h
omit S o in
theorem zipF_of {e : Expr} {t : Expr × Expr} (h : zipF e = some t) : ∃ (p pos : Pos), e = .Call (.Name "zip" p) [t.1, t.2] [] pos := by
  unfold zipF at h
  split at h
  · split at h
    · rename_i hh
      subst hh
      cases h
      exact ⟨_, _, rfl⟩
    · cases h
  · cases h
omit S o in
theorem src_enT {K : PySem.W.Frag} {ds : List D} {B : Fp} {H0 : Hp} {a : Addr} {vs : List V} {c : Int} (hq : ∀ H, Keep (fun a => ¬ B a) H0 H → SqT K H a vs) (hr : Rps K H0 ds vs F0) (pu : D.pus ds = true) : Src K (TEn.IteT K a c) (enD c ds) B H0 := by
  have hl := Rps.length _ _ _ hr
  refine ⟨fun H k i hi => ?_, fun H k i x H' hy hi => ?_, fun H k => ⟨vs, hq H k, by rw [enD_len]; omega⟩⟩
  · rw [enD_len] at hi
    have : i < vs.length := by omega
    exact ⟨vs, vs[i], hq H k, List.getElem?_eq_getElem this⟩
  · obtain ⟨T, y, rfl, hT, rfl, hx⟩ := hy
    obtain ⟨d, hd, rp⟩ := Rps.idx (Rps.stay k _ _ _ (fun _ z => z.elim) hr) (hx vs (hq _ k))
    have hp : D.pus [.int (c + (i : Nat)), d] = true := by show (true && (d.pu && true)) = true; rw [pus_get pu hd]; rfl
    refine ⟨Keep.new hT, _, enD_get c ds i d hd, T, [.int (c + (i : Nat)), y], rfl, .inl (.inl upd_same), hp, ?_⟩
    exact ⟨.int (c + (i : Nat)), [y], F0, F0, rfl, rfl, ⟨y, [], F0, F0, rfl, Rp.stay (Keep.new (F := F0) hT) _ _ _ (fun _ z => z.elim) rp, rfl, fun _ z => z, fun _ z => z, fun _ z => False.elim z⟩, fun _ z => z, fun _ z => z, fun _ z => False.elim z⟩
omit S o in
theorem zipD_get : ∀ (xs ys : List D) (i : Nat) (x y : D), xs[i]? = some x → ys[i]? = some y → (zipD xs ys)[i]? = some (.tup [x, y])
  | [], _, i, _, _, h, _ => by simp at h
  | _ :: _, [], i, _, _, _, h => by simp at h
  | a :: xs, b :: ys, 0, x, y, h1, h2 => by
    simp at h1 h2
    subst h1; subst h2
    rfl
  | a :: xs, b :: ys, i + 1, x, y, h1, h2 => by
    show (zipD xs ys)[i]? = _
    exact zipD_get xs ys i x y (by simpa using h1) (by simpa using h2)
omit S o in
theorem zipD_len : ∀ (xs ys : List D), (zipD xs ys).length = min xs.length ys.length
  | [], _ => by simp [zipD]
  | _ :: _, [] => by simp [zipD]
  | a :: xs, b :: ys => by
    show (zipD xs ys).length + 1 = _
    rw [zipD_len xs ys, List.length_cons, List.length_cons]
    omega
omit S o in
theorem zipD_pus : ∀ (xs ys : List D), D.pus (zipD xs ys) = true
  | [], _ => rfl
  | _ :: _, [] => rfl
  | a :: xs, b :: ys => zipD_pus xs ys
omit S o in
theorem src_zip {K : PySem.W.Frag} {xs ys : List D} {B : Fp} {H0 : Hp} {a b : Addr} {vs us : List V} (hq : ∀ H, Keep (fun a => ¬ B a) H0 H → SqT K H a vs) (hr : Rps K H0 xs vs F0) (pu : D.pus xs = true) (hq2 : ∀ H, Keep (fun a => ¬ B a) H0 H → SqT K H b us) (hr2 : Rps K H0 ys us F0) (pu2 : D.pus ys = true) : Src K (RZ.ItzT K a b) (zipD xs ys) B H0 := by
  have hl := Rps.length _ _ _ hr
  have hl2 := Rps.length _ _ _ hr2
  refine ⟨fun H k i hi => ?_, fun H k i x H' hy hi => ?_, fun H k => ⟨vs, us, hq H k, hq2 H k, by rw [zipD_len]; omega⟩⟩
  · rw [zipD_len] at hi
    have h1 : i < vs.length := by omega
    have h2 : i < us.length := by omega
    exact ⟨vs, us, vs[i], us[i], hq H k, hq2 H k, List.getElem?_eq_getElem h1, List.getElem?_eq_getElem h2⟩
  · obtain ⟨T, y, z, rfl, hT, rfl, hx, hx2⟩ := hy
    obtain ⟨d, hd, rp⟩ := Rps.idx (Rps.stay k _ _ _ (fun _ z => z.elim) hr) (hx vs (hq _ k))
    obtain ⟨d2, hd2, rp2⟩ := Rps.idx (Rps.stay k _ _ _ (fun _ z => z.elim) hr2) (hx2 us (hq2 _ k))
    have hp : D.pus [d, d2] = true := by show (d.pu && (d2.pu && true)) = true; rw [pus_get pu hd, pus_get pu2 hd2]; rfl
    refine ⟨Keep.new hT, _, zipD_get xs ys i d d2 hd hd2, T, [y, z], rfl, .inl (.inl upd_same), hp, ?_⟩
    exact ⟨y, [z], F0, F0, rfl, Rp.stay (Keep.new (F := F0) hT) _ _ _ (fun _ z => z.elim) rp, ⟨z, [], F0, F0, rfl, Rp.stay (Keep.new (F := F0) hT) _ _ _ (fun _ z => z.elim) rp2, rfl, fun _ z => z, fun _ z => z, fun _ z => False.elim z⟩, fun _ z => z, fun _ z => z, fun _ z => False.elim z⟩
omit S o in
theorem src_enZ {K : PySem.W.Frag} {xs ys : List D} {B : Fp} {H0 : Hp} {a b : Addr} {vs us : List V} {c : Int} (hq : ∀ H, Keep (fun a => ¬ B a) H0 H → SqT K H a vs) (hr : Rps K H0 xs vs F0) (pu : D.pus xs = true) (hq2 : ∀ H, Keep (fun a => ¬ B a) H0 H → SqT K H b us) (hr2 : Rps K H0 ys us F0) (pu2 : D.pus ys = true) : Src K (TEz.IteZ K a b c) (enD c (zipD xs ys)) B H0 := by
  have hl := Rps.length _ _ _ hr
  have hl2 := Rps.length _ _ _ hr2
  refine ⟨fun H k i hi => ?_, fun H k i x H' hy hi => ?_, fun H k => ⟨vs, us, hq H k, hq2 H k, by rw [enD_len, zipD_len]; omega⟩⟩
  · rw [enD_len, zipD_len] at hi
    have h1 : i < vs.length := by omega
    have h2 : i < us.length := by omega
    exact ⟨vs, us, vs[i], us[i], hq H k, hq2 H k, List.getElem?_eq_getElem h1, List.getElem?_eq_getElem h2⟩
  · obtain ⟨T1, T2, y, z, rfl, hT, hT2, rfl, hx, hx2⟩ := hy
    obtain ⟨d, hd, rp⟩ := Rps.idx (Rps.stay k _ _ _ (fun _ z => z.elim) hr) (hx vs (hq _ k))
    obtain ⟨d2, hd2, rp2⟩ := Rps.idx (Rps.stay k _ _ _ (fun _ z => z.elim) hr2) (hx2 us (hq2 _ k))
    have hp : D.pus [d, d2] = true := by show (d.pu && (d2.pu && true)) = true; rw [pus_get pu hd, pus_get pu2 hd2]; rfl
    have k1 : Keep F0 H (upd H T1 (.tup [y, z])) := Keep.new hT
    have k2 : Keep F0 (upd H T1 (.tup [y, z])) (upd (upd H T1 (.tup [y, z])) T2 (.tup [.int (c + (i : Nat)), .ref T1])) := Keep.new hT2
    have k12 := k1.trans k2 (fun _ z => z.elim)
    refine ⟨k12, _, enD_get c _ i _ (zipD_get xs ys i d d2 hd hd2), T2, [.int (c + (i : Nat)), .ref T1], rfl, .inl (.inl upd_same), rfl, ?_⟩
    have inner : Rp K (upd (upd H T1 (.tup [y, z])) T2 (.tup [.int (c + (i : Nat)), .ref T1])) (.tup [d, d2]) (.ref T1) F0 :=
      ⟨T1, [y, z], rfl, sqt_keep k2 (.inl (.inl upd_same)), hp, y, [z], F0, F0, rfl, Rp.stay k12 _ _ _ (fun _ z => z.elim) rp, ⟨z, [], F0, F0, rfl, Rp.stay k12 _ _ _ (fun _ z => z.elim) rp2, rfl, fun _ z => z, fun _ z => z, fun _ z => False.elim z⟩, fun _ z => z, fun _ z => z, fun _ z => False.elim z⟩
    exact ⟨.int (c + (i : Nat)), [.ref T1], F0, F0, rfl, rfl, ⟨.ref T1, [], F0, F0, rfl, inner, rfl, fun _ z => z, fun _ z => z, fun _ z => False.elim z⟩, fun _ z => z, fun _ z => z, fun _ z => False.elim z⟩
theorem i_iterF (tg e : Expr) : PI X tg e (RdI X.K G A0 H0 (iterF R C sc tg e)) := by
  cases hf : enF e with
  | none =>
    cases hf2 : enF2 e with
    | none =>
      cases hz : zipF e with
      | none => exact pi_imp (i_iter S o tg e) fun σ H R' ⟨ρ, k, F, k0, f0, en, g, q⟩ => ⟨ρ, k, F, k0, f0, en, by unfold iterF at g; rw [hf] at g; dsimp only at g; rw [hf2] at g; dsimp only at g; rw [hz] at g; exact g, q⟩
      | some t =>
        cases hc : isTupE tg && (isBi C sc "zip" && noStar [t.1, t.2]) with
        | false =>
          refine pi_bad fun σ H R' ⟨ρ, k, F, k0, f0, en, g, q⟩ => ?_
          unfold iterF at g
          rw [hf] at g; dsimp only at g; rw [hf2] at g; dsimp only at g; rw [hz] at g; dsimp only at g
          rw [hc] at g
          exact absurd g o.hG
        | true =>
          have hc' := hc
          rw [Bool.and_eq_true, Bool.and_eq_true] at hc'
          obtain ⟨h1, h2, h3⟩ := hc'
          obtain ⟨a, b⟩ := t
          obtain ⟨p, pos, rfl⟩ := zipF_of hz
          obtain ⟨elts, kk, tpos, rfl⟩ : ∃ elts kk tpos, tg = .Tuple elts kk tpos := by
            cases tg <;> first
              | exact ⟨_, _, _, rfl⟩
              | cases h1
          obtain ⟨f1, f2, f3⟩ := isBi_of h2
          obtain ⟨s1, s2⟩ := star_cons h3 X.env
          obtain ⟨s3, s4⟩ := star_cons s2 X.env
          refine pi_imp (RZ.pi_zipA (o.toCok.glx f1) (o.bi _ f3) (S.A o [a, b]) (by rw [s1, s3]) (by rw [s3]; rfl)) fun σ H R' ⟨ρ, k, F, k0, f0, en, g, q⟩ => ?_
          unfold iterF at g
          rw [hf] at g; dsimp only at g; rw [hf2] at g; dsimp only at g; rw [hz] at g; dsimp only at g
          rw [hc] at g
          replace g : G (R.A C sc [a, b] ρ _) := g
          refine ⟨ρ, _, F, k0, f0, en, g, fun as ρ1 vs H1 Fe Fv c1 fr dj tr ar g1 => ?_⟩
          obtain ⟨ds, hds, g1⟩ := resB_of o.hG ar c1.en g1
          have key : ∃ xs ys, ds = [.tup xs, .tup ys] ∧ G (k (zipD xs ys) ρ1) := by
            split at g1
            · exact ⟨_, _, rfl, g1⟩
            · exact absurd g1 o.hG
          obtain ⟨xs, ys, rfl, g1⟩ := key
          obtain ⟨w, ws, F', rfl, hw, hn⟩ := hds
          obtain ⟨w2, ws2, F2, rfl, hw2, hn2⟩ := hn
          cases (show ws2 = [] from hn2)
          obtain ⟨a1, vs1, rfl, hq1, pu1, hr1⟩ := hw
          obtain ⟨a2, vs2, rfl, hq2, pu2, hr2⟩ := hw2
          exact ⟨a1, a2, vs1, vs2, rfl, .inr ⟨hq1, hq2, q _ ρ1 _ H1 Fe F0 c1 (src_zip (fun H k => sqt_keep k hq1) (Rps.pure _ _ _ pu1 hr1) pu1 (fun H k => sqt_keep k hq2) (Rps.pure _ _ _ pu2 hr2) pu2) (fun _ z => z.elim) (fun _ _ z => z) (zipD_pus _ _) g1⟩⟩
    | some t =>
      cases hzz : zipF t.1 with
      | some u =>
        cases hc : isTupE tg && (isBi C sc "enumerate" && (isBi C sc "zip" && (noStar [t.1] && noStar [u.1, u.2]))) with
        | false =>
          refine pi_bad fun σ H R' ⟨ρ, k, F, k0, f0, en, g, q⟩ => ?_
          unfold iterF at g
          rw [hf] at g; dsimp only at g; rw [hf2] at g; dsimp only at g; rw [hzz] at g; dsimp only at g
          rw [hc] at g
          exact absurd g o.hG
        | true =>
          have hc' := hc
          rw [Bool.and_eq_true, Bool.and_eq_true, Bool.and_eq_true, Bool.and_eq_true] at hc'
          obtain ⟨h1, h2, h3, h4, h5⟩ := hc'
          obtain ⟨e1, e2⟩ := t
          obtain ⟨a, b⟩ := u
          obtain ⟨p, kp, pos, rfl⟩ := enF2_of hf2
          obtain ⟨pz, posz, rfl⟩ := zipF_of hzz
          obtain ⟨elts, kk, tpos, rfl⟩ : ∃ elts kk tpos, tg = .Tuple elts kk tpos := by
            cases tg <;> first
              | exact ⟨_, _, _, rfl⟩
              | cases h1
          obtain ⟨f1, f2, f3⟩ := isBi_of h2
          obtain ⟨g1', g2', g3'⟩ := isBi_of h3
          obtain ⟨s1, s2⟩ := star_cons h4 X.env
          obtain ⟨s3, s4⟩ := star_cons h5 X.env
          obtain ⟨s5, s6⟩ := star_cons s4 X.env
          refine pi_imp (TEz.pi_enZ (o.toCok.glx f1) (o.bi _ f3) (o.toCok.glx g1') (o.bi _ g3') (S.A o [a, b]) (S.E o e2) s1 (by rw [s3, s5]) (by rw [s5]; rfl)) fun σ H R' ⟨ρ, k, F, k0, f0, en, g, q⟩ => ?_
          unfold iterF at g
          rw [hf] at g; dsimp only at g; rw [hf2] at g; dsimp only at g; rw [hzz] at g; dsimp only at g
          rw [hc] at g
          replace g : G (R.A C sc [a, b] ρ _) := g
          refine ⟨ρ, _, F, k0, f0, en, g, fun as ρ1 vs H1 Fe Fv c1 fr dj tr ar g1 => ?_⟩
          obtain ⟨ds, hds, g1⟩ := resB_of o.hG ar c1.en g1
          have key : ∃ xs ys, ds = [.tup xs, .tup ys] ∧ G (R.E C sc e2 ρ1 fun z ρ2 => (match z with | .int c => ckK (Builtin.SmallTypes.fitsIndex c) (k (enD c (zipD xs ys)) ρ2) | _ => .stuck)) := by
            split at g1
            · exact ⟨_, _, rfl, g1⟩
            · exact absurd g1 o.hG
          obtain ⟨xs, ys, rfl, g1⟩ := key
          obtain ⟨w, ws, F', rfl, hw, hn⟩ := hds
          obtain ⟨w2, ws2, F2, rfl, hw2, hn2⟩ := hn
          cases (show ws2 = [] from hn2)
          obtain ⟨a1, vs1, rfl, hq1, pu1, hr1⟩ := hw
          obtain ⟨a2, vs2, rfl, hq2, pu2, hr2⟩ := hw2
          refine ⟨a1, a2, vs1, vs2, rfl, hq1, hq2, ρ1, _, Fe, c1.keep k0 f0, c1.from k0 f0, c1.en, g1, fun z ρ2 v2 H2 Fe2 c2 v2' _ g2 => ?_⟩
          cases z with
          | int c =>
            obtain ⟨hfit, g2⟩ := ckK_of o.hG g2
            obtain ⟨F3, rz⟩ := v2'.any
            cases (show v2 = .int c from rz)
            exact ⟨c, rfl, hfit, sqt_keep c2.kp hq1, sqt_keep c2.kp hq2, q _ ρ2 _ H2 Fe2 F0 (c1.trans c2) (src_enZ (fun H k => sqt_keep k (sqt_keep c2.kp hq1)) (Rps.stay c2.kp _ _ _ (fun _ z => z.elim) (Rps.pure _ _ _ pu1 hr1)) pu1 (fun H k => sqt_keep k (sqt_keep c2.kp hq2)) (Rps.stay c2.kp _ _ _ (fun _ z => z.elim) (Rps.pure _ _ _ pu2 hr2)) pu2) (fun _ z => z.elim) (fun _ _ z => z) (enD_pus _ _) g2⟩
          | _ => exact absurd g2 o.hG
      | none =>
        cases hc : isTupE tg && (isBi C sc "enumerate" && noStar [t.1]) with
        | false =>
          refine pi_bad fun σ H R' ⟨ρ, k, F, k0, f0, en, g, q⟩ => ?_
          unfold iterF at g
          rw [hf] at g; dsimp only at g; rw [hf2] at g; dsimp only at g; rw [hzz] at g; dsimp only at g
          rw [hc] at g
          exact absurd g o.hG
        | true =>
          have hc' := hc
          rw [Bool.and_eq_true, Bool.and_eq_true] at hc'
          obtain ⟨h1, h2, h3⟩ := hc'
          obtain ⟨a, b⟩ := t
          obtain ⟨p, kp, pos, rfl⟩ := enF2_of hf2
          obtain ⟨elts, kk, tpos, rfl⟩ : ∃ elts kk tpos, tg = .Tuple elts kk tpos := by
            cases tg <;> first
              | exact ⟨_, _, _, rfl⟩
              | cases h1
          obtain ⟨f1, f2, f3⟩ := isBi_of h2
          obtain ⟨s1, s2⟩ := star_cons h3 X.env
          refine pi_imp (TEn.pi_enT (o.toCok.glx f1) (o.bi _ f3) (pa_cons (S.E o a) pa_nil s1) (S.E o b) s1) fun σ H R' ⟨ρ, k, F, k0, f0, en, g, q⟩ => ?_
          unfold iterF at g
          rw [hf] at g; dsimp only at g; rw [hf2] at g; dsimp only at g; rw [hzz] at g; dsimp only at g
          rw [hc] at g
          replace g : G (R.E C sc a ρ _) := g
          refine ⟨ρ, _, F, k0, f0, en, g, fun d ρ1 v H1 Fe c1 v1 _ g1 => ?_⟩
          cases d with
          | tup ds =>
            obtain ⟨Fv, b1, vs, rfl, hq, pu, hr⟩ := v1.any
            refine ⟨b1, vs, rfl, hq, ρ1, _, Fe, c1.keep k0 f0, c1.from k0 f0, c1.en, g1, fun z ρ2 v2 H2 Fe2 c2 v2' _ g2 => ?_⟩
            cases z with
            | int c =>
              obtain ⟨hfit, g2⟩ := ckK_of o.hG g2
              obtain ⟨F2, rz⟩ := v2'.any
              cases (show v2 = .int c from rz)
              exact ⟨c, rfl, hfit, sqt_keep c2.kp hq, q _ ρ2 _ H2 Fe2 F0 (c1.trans c2) (src_enT (fun H k => sqt_keep k (sqt_keep c2.kp hq)) (Rps.stay c2.kp _ _ _ (fun _ z => z.elim) (Rps.pure _ _ _ pu hr)) pu) (fun _ z => z.elim) (fun _ _ z => z) (enD_pus _ _) g2⟩
            | _ => exact absurd g2 o.hG
          | _ => exact absurd g1 o.hG
  | some t =>
    cases hc : isTupE tg && (isBi C sc "enumerate" && (noStar [t.1] && Builtin.SmallTypes.fitsIndex t.2)) with
    | false =>
      refine pi_bad fun σ H R' ⟨ρ, k, F, k0, f0, en, g, q⟩ => ?_
      unfold iterF at g
      rw [hf] at g
      dsimp only at g
      rw [hc] at g
      exact absurd g o.hG
    | true =>
      have hc' := hc
      rw [Bool.and_eq_true, Bool.and_eq_true, Bool.and_eq_true] at hc'
      obtain ⟨h1, h2, h3, h4⟩ := hc'
      obtain ⟨a, c⟩ := t
      obtain ⟨p, cp, kp, pos, j, rfl⟩ := enF_of hf
      obtain ⟨elts, kk, tpos, rfl⟩ : ∃ elts kk tpos, tg = .Tuple elts kk tpos := by
        cases tg <;> first
          | exact ⟨_, _, _, rfl⟩
          | cases h1
      obtain ⟨f1, f2, f3⟩ := isBi_of h2
      obtain ⟨hs1, hs2⟩ := star_cons h3 X.env
      have core : PI X (.Tuple elts kk tpos) (.Call (.Name "enumerate" p) [a] [⟨some "start", .Constant (.int c) j cp, kp⟩] pos) (RdI X.K G A0 H0 (fun ρ k => R.E C sc a ρ fun d ρ1 => (match d with
        | .rol ds => k (enD c ds) ρ1
        | .lck ds => k (enD c ds) ρ1
        | .lst ds => ckK (!isPath a) (pusK ds (k (enD c ds) ρ1))
        | _ => .stuck))) := by
        refine pi_imp (TEn.pi_enS h4 (o.toCok.glx f1) (o.bi _ f3) (pa_cons (S.E o a) pa_nil hs1) hs1) fun σ H R' ⟨ρ, k, F, k0, f0, en, g, q⟩ => ?_
        refine ⟨ρ, _, F, k0, f0, en, g, fun d ρ1 v H1 Fe c1 v1 _ g1 => ?_⟩
        cases d with
        | rol ds =>
          obtain ⟨Fv, b, vs, rfl, hq, pu, hr⟩ := v1.any
          exact ⟨b, vs, rfl, hq.sq, q _ ρ1 _ H1 Fe F0 c1 (src_en (fun H k => (sqf_keep k hq).sq) (Rps.pure _ _ _ pu hr) pu) (fun _ z => z.elim) (fun _ _ z => z) (enD_pus _ _) g1⟩
        | lck ds =>
          obtain ⟨Fv, b, vs, rfl, hq, pu, hr⟩ := v1.any
          exact ⟨b, vs, rfl, hq.sq, q _ ρ1 _ H1 Fe F0 c1 (src_en (fun H k => (sqf_keep k hq).sq) (Rps.pure _ _ _ pu hr) pu) (fun _ z => z.elim) (fun _ _ z => z) (enD_pus _ _) g1⟩
        | lst ds =>
          obtain ⟨hp, g1⟩ := ckK_of o.hG g1
          rw [Bool.not_eq_true'] at hp
          obtain ⟨pu, g1⟩ := pusK_of o.hG g1
          obtain ⟨Fv, ow⟩ := v1.own fun z => by rw [hp] at z; cases z
          obtain ⟨b, vs, rfl, hq, hb, hr⟩ := ow.rp
          exact ⟨b, vs, rfl, .inl (.inl hq), q _ ρ1 _ H1 Fe Fv c1 (src_en (fun H k => .inl (.inl (k.k _ _ hq (.inl fun z => z hb)))) (Rps.pure _ _ _ pu hr) pu) ow.tr ow.dj (enD_pus _ _) g1⟩
        | _ => exact absurd g1 o.hG
      refine pi_imp (i_lock (e1 := a) o core) fun σ H R' ⟨ρ, k, F, k0, f0, en, g, q⟩ => ⟨ρ, k, F, k0, f0, en, ?_, q⟩
      unfold iterF at g
      rw [hf] at g
      dsimp only at g
      rw [hc] at g
      exact g
end
end TI
set_option Elab.async false
set_option linter.all false
set_option maxRecDepth 100000
set_option maxHeartbeats 4000000
/-! list comprehensions -/
namespace TI
open PySem PySem.Spec PyProof.Rows L2



section
variable {K : PySem.W.Frag} {H H' : Hp}
theorem ens_wipe {ρ : Env} {σ : L2.St} {F : Fp} (h : Ens K H ρ σ F) : ∀ vs : List Nat, Ens K H (wipeE ρ vs) σ F
  | [] => h
  | v :: vs => Ens.forget _ _ _ v (ens_wipe h vs)
/-- a slot of which nothing is known -/
theorem ens_any {ρ : Env} {σ : L2.St} {F : Fp} (h : Ens K H ρ σ F) (v : Nat) (x : Option V) : Ens K H (ρ.set v none) (σ.set v x) F := by
  have h1 := Ens.forget _ _ _ v h
  have hl := Ens.length _ _ _ h
  by_cases hv : v < ρ.length
  · exact Ens.other _ _ _ v x h1 (by rw [List.getElem?_set_self hv]; exact fun z => nomatch z) (by rw [List.getElem?_set_self hv]; exact fun d z => nomatch z)
  · rw [List.set_eq_of_length_le (by omega)] at h1
    rw [List.set_eq_of_length_le (by omega), List.set_eq_of_length_le (by omega)]
    exact h1
theorem ens_wipe2 {ρ : Env} {σ : L2.St} {F : Fp} (h : Ens K H ρ σ F) : ∀ vs : List Nat, Ens K H (wipeE ρ vs) (L2.wipe σ vs) F
  | [] => h
  | v :: vs => ens_any (ens_wipe2 h vs) v none
theorem ens_back {ρ0 : Env} {σ : L2.St} (hl : σ.length = ρ0.length) : ∀ (vs : List Nat) (ρ : Env) (τ : L2.St) (F : Fp), hidOk ρ0 vs = true → (∀ v d, v ∈ vs → ρ0[v]? = some (some d) → ∃ x, σ[v]? = some (some x) ∧ Rp K H d x F0) → τ.length = σ.length → (∀ j : Nat, j ∉ vs → τ[j]? = σ[j]?) →
    Ens K H ρ τ F → Ens K H (wipeB ρ ρ0 vs) σ F
  | [], ρ, τ, F, _, _, _, ag, h => by
    have : τ = σ := List.ext_getElem? fun j => ag j (by simp)
    rw [← this]; exact h
  | v :: vs, ρ, τ, F, hid, hv, le, ag, h => by
    unfold hidOk at hid
    rw [Bool.and_eq_true] at hid
    unfold wipeB
    have hlt : v < σ.length := by
      rw [hl]
      cases e : ρ0[v]? with
      | none => rw [e] at hid; cases hid.1
      | some o => exact (List.getElem?_eq_some_iff.mp e).1
    have ag' : ∀ x : Option V, σ[v]? = some x → ∀ j : Nat, j ∉ vs → (τ.set v x)[j]? = σ[j]? := fun x hx j hj => by
      by_cases e : v = j
      · subst e
        rw [List.getElem?_set_self (by omega), hx]
      · rw [List.getElem?_set_ne e]
        exact ag j (by simp; exact ⟨fun z => e z.symm, hj⟩)
    cases e : ρ0[v]? with
    | none => rw [e] at hid; cases hid.1
    | some o =>
      rw [e] at hid
      cases o with
      | none =>
        refine ens_back hl vs _ (τ.set v (σ[v])) F hid.2 (fun u d hu => hv u d (List.mem_cons_of_mem _ hu)) (by rw [List.length_set, le]) (ag' _ (List.getElem?_eq_getElem hlt)) ?_
        exact ens_any h v _
      | some d =>
        obtain ⟨x, hx, r⟩ := hv v d List.mem_cons_self e
        refine ens_back hl vs _ (τ.set v (some x)) F hid.2 (fun u d hu => hv u d (List.mem_cons_of_mem _ hu)) (by rw [List.length_set, le]) (ag' _ hx) ?_
        exact Ens.mono _ _ _ _ (fun a z => z.elim id fun z => z.elim) (Ens.put _ _ _ F0 v d x h r fun _ _ z => z)
theorem wipeE_get {ρ : Env} : ∀ {vs : List Nat} {i : Nat} {d : D}, (wipeE ρ vs)[i]? = some (some d) → ρ[i]? = some (some d)
  | [], i, d, h => h
  | v :: vs, i, d, h => by
    unfold wipeE at h
    by_cases e : v = i
    · subst e
      rw [List.getElem?_set] at h
      rw [if_pos rfl] at h
      split at h <;> cases h
    · rw [List.getElem?_set_ne e] at h
      exact wipeE_get h
theorem wipeE_imp (ρ : Env) (vs : List Nat) : Imp ρ (wipeE ρ vs) := fun i d h p => ⟨d, wipeE_get h, p⟩
theorem hidOk_of {ρ0 : Env} : ∀ {vs : List Nat} {v : Nat} {d : D}, hidOk ρ0 vs = true → v ∈ vs → ρ0[v]? = some (some d) → d.pu = true
  | w :: vs, v, d, h, hm, e => by
    unfold hidOk at h
    rw [Bool.and_eq_true] at h
    rcases List.mem_cons.mp hm with rfl | hm
    · rw [e] at h; exact h.1
    · exact hidOk_of h.2 hm e
theorem wipeB_imp {ρ0 : Env} : ∀ (vs : List Nat) (ρ : Env), hidOk ρ0 vs = true → Imp ρ (wipeB ρ ρ0 vs)
  | [], ρ, _ => Imp.refl _
  | v :: vs, ρ, h => by
    have h' := h
    unfold hidOk at h
    rw [Bool.and_eq_true] at h
    unfold wipeB
    refine Imp.trans (fun i d e p => ?_) (wipeB_imp vs _ h.2)
    by_cases hv : v = i
    · subst hv
      rw [List.getElem?_set] at e
      rw [if_pos rfl] at e
      split at e
      · cases q : ρ0[v]? with
        | none => rw [q] at e; cases e
        | some oo =>
          rw [q] at e
          cases oo with
          | none => cases e
          | some d' =>
            cases e
            rw [hidOk_of h' List.mem_cons_self q] at p; cases p
      · cases e
    · rw [List.getElem?_set_ne hv] at e
      exact ⟨d, e, p⟩
theorem keep_laid {F : Fp} {H0 H : Hp} {a : Addr} {o : HO} (k : Keep F H0 H) (hn : H0 a = none) (ha : H a ≠ none) : Keep F H0 (upd H a o) :=
  ⟨fun x u e hn' => by
    rw [upd_ne (fun z => by subst z; rw [hn] at e; cases e)]
    exact k.k x u e hn', fun x e => by
    by_cases q : x = a
    · subst q; exact hn
    · rw [upd_ne q] at e; exact k.g x e⟩
theorem keep_one {H : Hp} {a : Addr} {vs : List V} {o : HO} (h : H a = some (.lst vs)) : Keep (fun x => x = a) H (upd H a o) := Keep.set h rfl (fun z => z)
end
theorem wipe_agree {σ τ : L2.St} (hl : τ.length = σ.length) : ∀ (vs : List Nat), (∀ j : Nat, τ[j]? ≠ σ[j]? → j ∈ vs) → L2.wipe τ vs = L2.wipe σ vs := fun vs h => by
  apply List.ext_getElem?
  intro j
  by_cases hj : j ∈ vs
  · have key : ∀ (ρ : L2.St) (ws : List Nat), j ∈ ws → (L2.wipe ρ ws)[j]? = if j < ρ.length then some none else none := fun ρ ws => by
      induction ws with
      | nil => intro z; simp at z
      | cons w ws ih =>
        intro z
        unfold L2.wipe
        by_cases e : w = j
        · subst e
          rw [List.getElem?_set, if_pos rfl, L2.wipe_length]
        · rw [List.getElem?_set_ne e]
          rcases List.mem_cons.mp z with z | z
          · exact absurd z.symm e
          · exact ih z
    rw [key τ vs hj, key σ vs hj, hl]
  · rw [L2.wipe_out hj, L2.wipe_out hj]
    by_cases e : τ[j]? = σ[j]?
    · exact e
    · exact absurd (h j e) hj
theorem mem_of_lookup' {l : List (Str × NameKind)} {x : Str} {k : NameKind} (h : l.lookup x = some k) : (x, k) ∈ l := by
  induction l with
  | nil => simp at h
  | cons y l ih =>
    obtain ⟨n, k'⟩ := y
    cases e : x == n with
    | true =>
      simp only [List.lookup_cons, e] at h
      cases h
      rw [eq_of_beq e]
      exact List.mem_cons_self
    | false =>
      simp only [List.lookup_cons, e] at h
      exact List.mem_cons_of_mem _ (ih h)
theorem ownOf_mem {N : List Str} {scope : Scope} {x : Str} {j : Nat} (h : locl scope x = true) (hj : ixOf N x = some j) : j ∈ (ownOf N scope).map (·.2) := by
  have : (x, j) ∈ ownOf N scope := by
    unfold ownOf
    rw [List.mem_filterMap]
    rcases locl_of h with q | q
    · exact ⟨(x, .local), mem_of_lookup' q, by show (ixOf N x).map _ = _; rw [hj]; rfl⟩
    · exact ⟨(x, .cell), mem_of_lookup' q, by show (ixOf N x).map _ = _; rw [hj]; rfl⟩
  exact List.mem_map.mpr ⟨_, this, rfl⟩
section
variable {X : Cx} {C : Cd} {sc : Scope} {cx : CXT} {er : Er} {EX : XK} {G : Res → Prop} {A0 : Fp} {H0 : Hp} {R : Fns} (S : Snd R) (o : Okx X C sc cx er EX G A0 H0)
include S o
omit S o in
theorem noCls_con {g : Glo} {d : D} (h : noCls g = .con d) : g = .con d := by cases g <;> first | exact h | cases h
omit S o in
theorem noCls_kd {g : Glo} {d : List (Str × D)} (h : noCls g = .kd d) : g = .kd d := by cases g <;> first | exact h | cases h
omit S o in
theorem noCls_bi {g : Glo} (h : noCls g = .bi) : g = .bi := by cases g <;> first | exact h | cases h
omit S o in
theorem noCls_fn {g : Glo} {n : Nat} (h : noCls g = .fn n) : g = .fn n := by cases g <;> first | exact h | cases h
omit S o in
theorem noCls_mth {g : Glo} {n : String} (h : noCls g = .mth n) : g = .mth n := by cases g <;> first | exact h | cases h
omit S o in
theorem noCls_cls {g : Glo} {n : List Str} (h : noCls g = .cls n) : False := by cases g <;> cases h
omit S in
theorem okx_blk (scope : Scope) (s : Shared) (H : Hp) (Ce : Addr) (cl : List (Str × Addr)) (fp : List Addr) : Okx (X.blk s H scope (compEnvC scope cl Ce X.env) fp) (lcCd C scope) (relS scope sc) cx er (fun _ _ _ => False) G A0 H0 where
  hN := o.hN
  nd := o.nd
  hsc := by rw [← o.hsc]; rfl
  calm := o.calm
  own := fun x h1 h2 => by
    rcases locl_of h1 with q | q
    · refine .inr ?_
      show (relS scope X.env.scope).names.lookup x = _
      exact lookup_relS_keep (fun z => nomatch z) q
    · refine .inl ?_
      show (scope.names.lookup x == some .cell) = true
      rw [q]; rfl
  bi := fun x h => o.bi x (noCls_bi h)
  con := fun x d h => o.con x d (noCls_con h)
  kd := fun x d h => o.kd x d (noCls_kd h)
  fn := fun x n h => o.fn x n (noCls_fn h)
  mth := fun x n h => o.mth x n (noCls_mth h)
  pas := PassesOwn.never
  thr := fun pins σ H s e s' I h => o.cxn _ _ _ _ _ h
  cxn := o.cxn
  room := o.room
  lim := o.lim
  cls := fun x ps h => (noCls_cls h).elim
  hG := o.hG
  xco := fun c fs ρ h => absurd h o.hG
omit S in
theorem lc_sl {scope : Scope} {σ τ : L2.St} (h : Sl (lcCd C scope) (relS scope sc) σ τ) : L2.wipe τ ((ownOf C.N scope).map (·.2)) = L2.wipe σ ((ownOf C.N scope).map (·.2)) := by
  refine wipe_agree h.1 _ fun j hj => ?_
  obtain ⟨x, h1, h2, h3⟩ := h.2 j hj
  refine ownOf_mem (x := x) h1 ?_
  unfold slotOf at h3
  split at h3
  · exact h3
  · cases h3
theorem ifs_ok {ifs : List Expr} (hf : few ifs = true) : PTs X ifs (RdT X.K G A0 H0 (ifsE R C sc ifs)) := by
  match ifs, hf with
  | [], _ => exact ⟨fun pins s σ H Q I ⟨ρ, k, F, k0, f0, en, g, q⟩ => pts_nil.run pins s σ H Q I (q true ρ H _ (Ch.refl en) g)⟩
  | [c], _ => exact pts_one (S.T o c)
abbrev ownI (C : Cd) (scope : Scope) : List Nat := (ownOf C.N scope).map (·.2)
def lcW (K : PySem.W.Frag) (G : Res → Prop) (step : D → Env → (Option D → Env → Res) → Res) (own : List Nat) (σ : L2.St) (ρ1 : Env) (Fe : Fp) (H1 : Hp) (D0 : Addr) (ds : List D) (k : List D → Env → Res) (i m : Nat) (H : Hp) : Prop :=
  i ≤ ds.length ∧ m = ds.length - i ∧ ∃ acc vs ρa τ Fa Fv, H D0 = some (.lst vs) ∧ Keep Fe H1 H ∧ (L2.wipe τ own = L2.wipe σ own ∧ τ.length = σ.length ∧ Ens K H ρa τ Fa) ∧ Fr Fe H1 Fa ∧ (∀ a, Fa a → a ≠ D0 ∧ H a ≠ none) ∧ Imp ρ1 ρa ∧ Rps K H acc vs Fv ∧ (∀ a, Fv a → (Fe a ∨ H1 a = none) ∧ a ≠ D0 ∧ H a ≠ none) ∧ Dis Fa Fv ∧ G (lcC step (ds.drop i) acc ρa k)
theorem lc_core (elt tg it : Expr) (ifs : List Expr) (scope : Scope) (hf : few ifs = true) {σ : L2.St} {H : Hp} {Q : VK} (h : RdE X.K G A0 H0 false false (fun ρ k => iterF R C sc tg it ρ fun ds ρ1 =>
    ckK (hidOk ρ1 (ownI C scope)) <|
    lcC (lcStep R C sc elt tg ifs scope) ds [] (wipeE ρ1 (ownI C scope)) fun acc ρ6 => k (.lst acc) (wipeB ρ6 ρ1 (ownI C scope))) σ H Q) :
    tLc (RdI X.K G A0 H0 (iterF R C sc tg it)) (RdG X.K G (lcCd C scope) (relS scope sc) (R.G (lcCd C scope) (relS scope sc) tg)) (RdT X.K G A0 H0 (ifsE R (lcCd C scope) (relS scope sc) ifs))
      (RdE X.K G A0 H0 (isPath elt) (isCalm elt) (R.E (lcCd C scope) (relS scope sc) elt)) (ownI C scope) σ H Q := by
  obtain ⟨ρ, k, F, k0, f0, en, g, q⟩ := h
  refine ⟨ρ, _, F, k0, f0, en, g, fun ds ρ1 J H1 Fe B c1 src trB djB pds g1 => ?_⟩
  obtain ⟨hid, g1⟩ := ckK_of o.hG g1
  intro D0 hD
  have kp0 : Keep F0 H1 (upd H1 D0 (.lst [])) := Keep.new hD
  refine ⟨lcW X.K G (lcStep R C sc elt tg ifs scope) (ownI C scope) σ ρ1 Fe H1 D0 ds (fun acc ρ6 => k (.lst acc) (wipeB ρ6 ρ1 (ownI C scope))), ⟨ds.length, Nat.zero_le _, rfl, [], [], _, σ, Fe, F0, upd_same, kp0.mono (fun _ z => z.elim), ⟨rfl, rfl, Ens.stay kp0 _ _ _ (fun _ _ z => z) (ens_wipe c1.en _)⟩, fun _ z => .inl z, fun a z => ⟨fun e => c1.tr a z (by rw [e]; exact hD), fun e => c1.tr a z (kp0.g a e)⟩,
    wipeE_imp _ _, rfl, fun _ z => z.elim, fun _ _ z => z, g1⟩, fun i m H2 hw => ?_⟩
  obtain ⟨hi, rfl, acc, vs, ρa, τ, Fa, Fv, hD2, kp, ⟨wt, lt, ena⟩, fra, tra, ima, racc, trv, djv, ga⟩ := hw
  have kpB : Keep (fun a => ¬ B a) H1 H2 := kp.mono fun a z w => djB a z w
  have kA : Keep A0 H0 H2 := (c1.keep k0 f0).trans kp (c1.from k0 f0)
  have fAa : Fr A0 H0 Fa := (c1.from k0 f0).trans (c1.keep k0 f0) fra
  by_cases hlt : i < ds.length
  · refine .inr ⟨src.go H2 kpB i hlt, fun H' => lcW X.K G (lcStep R C sc elt tg ifs scope) (ownI C scope) σ ρ1 Fe H1 D0 ds (fun acc ρ6 => k (.lst acc) (wipeB ρ6 ρ1 (ownI C scope))) (i + 1) (ds.length - (i + 1)) H', fun H' h' => ⟨ds.length - (i + 1), by omega, h'⟩, fun x H' hy => ?_⟩
    obtain ⟨kpn, d, hd, rd⟩ := src.yld H2 kpB i x H' hy hlt
    replace hD2 := kpn.k _ _ hD2 (.inl fun z => z)
    replace kp := kp.trans kpn (fun _ z => z.elim)
    replace ena := Ens.stay kpn _ _ _ (fun _ _ z => z) ena
    replace tra := fun a (z : Fa a) => (⟨(tra a z).1, fun e => (tra a z).2 (kpn.g a e)⟩ : a ≠ D0 ∧ H' a ≠ none)
    replace racc := Rps.stay kpn _ _ _ (fun _ _ z => z) racc
    replace trv := fun a (z : Fv a) => (⟨(trv a z).1, (trv a z).2.1, fun e => (trv a z).2.2 (kpn.g a e)⟩ : (Fe a ∨ H1 a = none) ∧ a ≠ D0 ∧ H' a ≠ none)
    have kA : Keep A0 H0 H' := (c1.keep k0 f0).trans kp (c1.from k0 f0)
    have hdrop : ds.drop i = d :: ds.drop (i + 1) := by
      rw [List.drop_eq_getElem_cons hlt]
      rw [List.getElem?_eq_getElem hlt] at hd
      cases hd; rfl
    rw [hdrop] at ga
    have ena' := ens_wipe2 ena (ownI C scope)
    rw [wt] at ena'
    refine ⟨_, _, Fa, d, F0, ena', rd, fun _ _ z => z, ga, fun ρ3 σ3 F3 f3 en3 sl3 im3 _ g3 => ?_⟩
    have hF3 : ∀ a, F3 a → Fa a := fun a z => (f3 a z).elim id fun z => z.elim
    have pud : d.pu = true := pus_get pds hd
    have im13 : Imp ρ1 ρ3 := ima.trans ((wipeE_imp ρa _).trans (im3 pud))
    have w3 : L2.wipe σ3 (ownI C scope) = L2.wipe σ (ownI C scope) := by
      rw [lc_sl o sl3]; exact wipe_agree (L2.wipe_length _ _) _ fun j hj => Classical.byContradiction fun hn => hj (L2.wipe_out hn)
    have l3 : σ3.length = σ.length := by rw [sl3.1, L2.wipe_length]
    refine ⟨w3, ?_⟩
    have fA : Fr A0 H0 F3 := fAa.sub hF3
    refine ⟨ρ3, _, F3, kA, fA, en3, g3, fun b ρ4 H4 F4 c4 g4 => ?_⟩
    have kp4 : Keep Fe H1 H4 := kp.trans c4.kp (fra.sub hF3)
    have fr4 : Fr Fe H1 F4 := (fra.sub hF3).trans kp c4.fr
    have nD4 : ∀ a, F4 a → a ≠ D0 := fun a z e => (c4.fr a z).elim (fun w => (tra a (hF3 a w)).1 e) fun w => by rw [e, hD2] at w; cases w
    have hD4 : H4 D0 = some (.lst vs) := c4.kp.k _ _ hD2 (.inl fun z => (tra _ (hF3 _ z)).1 rfl)
    have racc4 : Rps X.K H4 acc vs Fv := Rps.stay c4.kp _ _ _ (fun a z w => djv a (hF3 a w) z) racc
    have trv4 : ∀ a, Fv a → (Fe a ∨ H1 a = none) ∧ a ≠ D0 ∧ H4 a ≠ none := fun a z => ⟨(trv a z).1, (trv a z).2.1, fun e => (trv a z).2.2 (c4.kp.g a e)⟩
    have dj4 : Dis F4 Fv := fun a z w => (c4.fr a z).elim (fun y => djv a (hF3 a y) w) fun y => (trv a w).2.2 y
    dsimp only
    cases b with
    | false =>
      rw [if_neg (by decide)]
      exact ⟨hlt, rfl, acc, vs, ρ4, σ3, F4, Fv, hD4, kp4, ⟨w3, l3, c4.en⟩, fr4, fun a z => ⟨nD4 a z, c4.tr a z⟩, im13.trans c4.im, racc4, trv4, dj4, g4⟩
    | true =>
      rw [if_pos rfl]
      refine ⟨ρ4, _, F4, kA.trans c4.kp fA, fA.trans kA c4.fr, c4.en, g4, fun dy ρ5 vy H5 F5 c5 v5 _ g5 => ?_⟩
      have g5' : G (match (some dy : Option D) with
        | some y => ckK (decide (acc.length < szLine)) (lcC (lcStep R C sc elt tg ifs scope) (ds.drop (i + 1)) (acc ++ [y]) ρ5 (fun acc ρ6 => k (.lst acc) (wipeB ρ6 ρ1 (ownI C scope))))
        | none => lcC (lcStep R C sc elt tg ifs scope) (ds.drop (i + 1)) acc ρ5 (fun acc ρ6 => k (.lst acc) (wipeB ρ6 ρ1 (ownI C scope)))) ∧ (isPath elt = true → dy.pu = true) := by
        unfold storK at g5
        by_cases hp : isPath elt = true
        · rw [if_pos hp] at g5
          obtain ⟨pu, g5⟩ := puK_of o.hG g5
          exact ⟨g5, fun _ => pu⟩
        · rw [if_neg hp] at g5
          exact ⟨g5, fun z => absurd z hp⟩
      obtain ⟨g6, hpu⟩ := g5'
      obtain ⟨hsz, g6⟩ := ckK_of o.hG g6
      obtain ⟨Fy, oy⟩ := v5.own hpu
      have hD5 : H5 D0 = some (.lst vs) := c5.kp.k _ _ hD4 (.inl fun z => nD4 _ z rfl)
      have kp5 : Keep Fe H1 H5 := kp4.trans c5.kp fr4
      have fr5 : Fr Fe H1 F5 := fr4.trans kp4 c5.fr
      have racc5 : Rps X.K H5 acc vs Fv := Rps.stay c5.kp _ _ _ (fun a z w => dj4 a w z) racc4
      have hlen := Rps.length _ _ _ racc5
      refine ⟨vs, hD5, by rw [hlen, ← szLine_eq]; exact of_decide_eq_true hsz, ?_⟩
      have one : Keep (fun x => x = D0) H5 (upd H5 D0 (.lst (vs ++ [vy]))) := keep_one hD5
      have nD5 : ∀ a, F5 a → a ≠ D0 := fun a z e => (c5.fr a z).elim (fun w => nD4 a w e) fun w => by rw [e, hD4] at w; cases w
      have nDv : ∀ a, Fv a → a ≠ D0 := fun a z => (trv a z).2.1
      have nDy : ∀ a, Fy a → a ≠ D0 := fun a z e => (oy.fr a z).elim (fun w => nD4 a w e) fun w => by rw [e, hD4] at w; cases w
      have djvy : Dis Fv Fy := fun a z w => (oy.fr a w).elim (fun y => dj4 a y z) fun y => (trv4 a z).2.2 y
      have frD : ∀ a, H5 a ≠ none → (upd H5 D0 (.lst (vs ++ [vy]))) a ≠ none := fun a z e => z (one.g a e)
      refine ⟨hlt, rfl, acc ++ [dy], vs ++ [vy], ρ5, σ3, F5, fun a => (Fv a ∨ Fy a), upd_same, keep_laid kp5 hD (by rw [hD5]; exact fun z => nomatch z), ⟨w3, l3, Ens.stay one _ _ _ (fun a z e => nD5 a z e) c5.en⟩, fr5, fun a z => ⟨nD5 a z, frD a (c5.tr a z)⟩, (im13.trans c4.im).trans c5.im,
        Rps.snoc _ _ _ _ _ _ (Rps.stay one _ _ _ (fun a z e => nDv a z e) racc5) (Rp.stay one _ _ _ (fun a z e => nDy a z e) oy.rp) djvy, fun a z => ?_, fun a z w => ?_, g6⟩
      · rcases z with z | z
        · exact ⟨(trv4 a z).1, nDv a z, frD a fun e => (trv4 a z).2.2 (c5.kp.g a e)⟩
        · exact ⟨(fr4.trans kp4 oy.fr) a z, nDy a z, frD a (oy.tr a z)⟩
      · rcases w with w | w
        · exact (c5.fr a z).elim (fun y => dj4 a y w) fun y => (trv4 a w).2.2 y
        · exact oy.dj a z w
  · have : i = ds.length := by omega
    subst this
    rw [List.drop_length] at ga
    refine .inl ⟨src.stop H2 kpB, ?_⟩
    have key := ens_back (K := X.K) (H := H2) (ρ0 := ρ1) (σ := σ) (Ens.length _ _ _ c1.en) (ownI C scope) ρa τ Fa hid (fun v d hv he => ?_) lt (fun j hj => ?_) ena
    · refine q (.lst acc) _ (.ref D0) H2 Fa ⟨c1.kp.trans kp c1.fr, c1.im.trans (ima.trans (wipeB_imp _ _ hid)), c1.fr.trans c1.kp fra, key, fun a z => (tra a z).2⟩ (.inr ⟨fun a => Fv a ∨ a = D0, fun a z => ?_, fun a z w => ?_, ⟨D0, vs, rfl, hD2, .inr rfl, Rps.mono _ _ _ _ (fun a z => ⟨.inl z, (trv a z).2.1⟩) racc⟩, fun a z => ?_⟩) (fun z => nomatch z) ga
      · rcases z with z | z
        · exact (trv a z).1.elim (fun y => c1.fr a y) fun y => .inr (c1.kp.g a y)
        · rw [z]; exact .inr (c1.kp.g _ hD)
      · rcases w with w | w
        · exact djv a z w
        · exact (tra a z).1 w
      · rcases z with z | z
        · exact (trv a z).2.2
        · rw [z, hD2]; exact fun z => nomatch z
    · have pu := hidOk_of hid hv he
      obtain ⟨x, hx, r⟩ := Ens.get _ _ _ _ _ c1.en he
      exact ⟨x, hx, Rp.stay kp _ _ _ (fun _ z => z.elim) (Rp.pure _ _ _ pu r)⟩
    · have := congrArg (fun l => l[j]?) wt
      simp only [L2.wipe_out hj] at this
      exact this
end
end TI
set_option Elab.async false
set_option linter.all false
set_option maxRecDepth 100000
set_option maxHeartbeats 4000000
/-! expressions; statements -/
namespace TI
open PySem PySem.Spec PyProof.Rows L2



section
variable {X : Cx} {C : Cd} {sc : Scope} {cx : CXT} {er : Er} {EX : XK} {G : Res → Prop} {A0 : Fp} {H0 : Hp} {R : Fns} (S : Snd R) (o : Okx X C sc cx er EX G A0 H0)
include S o
omit S o in
theorem fold_ok {it : Expr} (h : isSet it = false) (env : PySem.Env) : ∀ x, foldedSetIterable it env x = pure x := by
  intro x
  cases it <;> first
    | rfl
    | cases h
theorem e_lc (elt tg it : Expr) (ifs : List Expr) (scope : Scope) (p : Pos) : PE X (.ListComp elt [⟨tg, it, ifs, 0⟩] scope p) (RdE X.K G A0 H0 false false (lcE R C sc elt tg it ifs scope)) := by
  cases hb : blkC C.N sc scope (ownOf C.N scope) && few ifs && !isSet it with
  | false =>
    refine pe_bad fun σ H Q ⟨ρ, k, F, k0, f0, en, g, q⟩ => ?_
    unfold lcE at g
    rw [hb] at g
    exact absurd g o.hG
  | true =>
    have hb' := hb
    rw [Bool.and_eq_true, Bool.and_eq_true, Bool.not_eq_true'] at hb'
    refine PE.imp (pe_lc o.calm o.nd (i_iterF S o tg it) (by rw [o.hN, o.hsc]; exact blkOk_by hb'.1.1) (fun s H Ce cl fp => S.G (okx_blk o scope s H Ce cl fp) tg) (fun s H Ce cl fp => ifs_ok S (okx_blk o scope s H Ce cl fp) hb'.1.2)
      (fun s H Ce cl fp => S.E (okx_blk o scope s H Ce cl fp) elt) (fold_ok hb'.2 _)) fun σ H Q ⟨ρ, k, F, k0, f0, en, g, q⟩ => lc_core S o elt tg it ifs scope hb'.1.2 ⟨ρ, k, F, k0, f0, en, ?_, q⟩
    unfold lcE at g
    rw [hb] at g
    exact g
theorem e_step (e : Expr) : PE X e (RdE X.K G A0 H0 (isPath e) (isCalm e) (stepE R C sc e)) := by
  cases e with
  | Name x p => exact e_name o x p
  | Constant c j p => exact e_const o c j p
  | Tuple es n p =>
    cases hst : anyStar es with
    | true =>
      refine PE.imp (e_tupS S o es n p hst) fun σ H Q ⟨ρ, k, F, k0, f0, en, g, q⟩ => ⟨ρ, k, F, k0, f0, en, ?_, q⟩
      dsimp only [stepE] at g
      rw [hst] at g
      exact g
    | false =>
      refine PE.imp (e_tuple S o es n p) fun σ H Q ⟨ρ, k, F, k0, f0, en, g, q⟩ => ⟨ρ, k, F, k0, f0, en, ?_, q⟩
      dsimp only [stepE] at g
      rw [hst] at g
      exact g
  | List es p =>
    cases hst : anyStar es with
    | true =>
      refine PE.imp (e_listS S o es p hst) fun σ H Q ⟨ρ, k, F, k0, f0, en, g, q⟩ => ⟨ρ, k, F, k0, f0, en, ?_, q⟩
      dsimp only [stepE] at g
      rw [hst] at g
      exact g
    | false =>
      refine PE.imp (e_list S o es p) fun σ H Q ⟨ρ, k, F, k0, f0, en, g, q⟩ => ⟨ρ, k, F, k0, f0, en, ?_, q⟩
      dsimp only [stepE] at g
      rw [hst] at g
      exact g
  | IfExp t a b p => exact e_if S o t a b p
  | Dict ks vs p => exact e_dict o ks vs p
  | JoinedStr es p =>
    cases es with
    | nil => exact e_stuck o
    | cons a r => exact e_joined S o a r p
  | BinOp a op b p =>
    cases a with
    | Constant c j q =>
      cases c with
      | str x =>
        cases op with
        | Add => exact e_wrt S o x j q b p
        | _ => exact e_binop S o _ b _ p
      | _ => exact e_binop S o _ b op p
    | Name x q => exact e_addN S o x q op b p
    | _ => exact e_binop S o _ b op p
  | UnaryOp op a p =>
    cases op with
    | Not => exact e_not S o a p
    | USub => exact e_neg S o a p
    | _ => exact e_stuck o
  | Compare a ops bs p =>
    match ops, bs with
    | [], _ => exact e_stuck o
    | [op], [] => exact e_stuck o
    | [op], [b] => exact e_cmp S o a op b p
    | [op], _ :: _ :: _ => exact e_stuck o
    | [op, op'], [] => exact e_stuck o
    | [op, op'], [b] => exact e_stuck o
    | [op, op'], [b, c] => exact e_chain S o a op op' b c p
    | [op, op'], _ :: _ :: _ :: _ => exact e_stuck o
    | _ :: _ :: _ :: _, _ => exact e_stuck o
  | BoolOp op vs p =>
    cases op with
    | And =>
      match vs with
      | [] => exact e_stuck o
      | [a] => exact e_one S o .And a p
      | a :: b :: r => exact e_and S o a b r p
    | Or =>
      match vs with
      | [] => exact e_stuck o
      | [a] => exact e_one S o .Or a p
      | a :: b :: r => exact e_or S o a b r p
  | Subscript b i p =>
    cases hi : notSl i with
    | false =>
      cases i with
      | Slice lo hh st p2 =>
        cases st with
        | none =>
          cases b with
          | Name x q => exact e_slN S o x q lo hh p p2
          | _ => exact e_slice S o _ lo hh p p2
        | some st => cases b <;> exact PE.imp (e_stuck o) fun _ _ _ h => h
      | _ => cases hi
    | true =>
      have fl : isPath (.Subscript b i p) = true := by cases i <;> first
        | rfl
        | cases hi
      rw [fl]
      cases b with
      | Name x xp =>
        refine PE.imp (e_ixN S o x xp i p hi) fun σ H Q h => ?_
        have e : stepE R C sc (.Subscript (.Name x xp) i p) = ixN1 R C sc x i := by
          cases i <;> first
            | rfl
            | cases hi
        rw [e] at h; exact h
      | Dict ks vs dp =>
        refine PE.imp (e_dctIx S o ks vs dp i p hi) fun σ H Q h => ?_
        have e : stepE R C sc (.Subscript (.Dict ks vs dp) i p) = (fun ρ k => R.E C sc (.Dict ks vs dp) ρ fun d ρ1 => (match d with
            | .dct ks ds => pusK ds (R.E C sc i ρ1 fun y ρ2 => oK (keyD y) fun key => oK (dctGet ks ds key) fun z => k z ρ2)
            | _ => .stuck)) := by
          cases i <;> first
            | rfl
            | cases hi
        rw [e] at h; exact h
      | _ =>
        refine PE.imp (e_ix S o _ i p hi) fun σ H Q h => ?_
        cases i <;> first
          | exact h
          | cases hi
  | Call f args kw p =>
    cases kw with
    | cons _ _ =>
      cases f <;> exact e_stuck o
    | nil =>
      cases f with
      | Name f fp =>
        cases hst : noStar args with
        | false =>
          refine pe_bad fun σ H Q ⟨ρ, k, F, k0, f0, en, g, q⟩ => ?_
          dsimp only [stepE] at g
          rw [hst] at g
          exact absurd g o.hG
        | true =>
          cases hf : isFn C sc f with
          | some n =>
            refine PE.imp (e_call S o f fp n args p hf hst) fun σ H Q ⟨ρ, k, F, k0, f0, en, g, q⟩ => ⟨ρ, k, F, k0, f0, en, ?_, q⟩
            dsimp only [stepE] at g
            rw [hst, hf] at g
            exact g
          | none =>
            cases hsl : slotOf C sc f with
            | some i =>
              refine PE.imp (e_callL S o f fp args p i hsl hst) fun σ H Q ⟨ρ, k, F, k0, f0, en, g, q⟩ => ⟨ρ, k, F, k0, f0, en, ?_, q⟩
              dsimp only [stepE] at g
              rw [hst, hf] at g
              dsimp only at g
              rw [hsl] at g
              exact g
            | none =>
              cases hmt : mthOf C sc f with
              | some id =>
                refine PE.imp (e_mth S o f fp args p id hmt hst) fun σ H Q ⟨ρ, k, F, k0, f0, en, g, q⟩ => ⟨ρ, k, F, k0, f0, en, ?_, q⟩
                dsimp only [stepE] at g
                rw [hst, hf] at g
                dsimp only at g
                rw [hsl] at g
                dsimp only at g
                rw [hmt] at g
                exact g
              | none =>
                  cases hb : isBi C sc f with
                  | false =>
                    refine pe_bad fun σ H Q ⟨ρ, k, F, k0, f0, en, g, q⟩ => ?_
                    dsimp only [stepE] at g
                    rw [hst, hf] at g
                    dsimp only at g
                    rw [hsl] at g
                    dsimp only at g
                    rw [hmt] at g
                    dsimp only at g
                    rw [hb] at g
                    exact absurd g o.hG
                  | true =>
                    cases hsr : srtF f args with
                    | some a =>
                      obtain ⟨p2, pos2, rfl, rfl⟩ := srtF_of hsr
                      cases hb2 : isBi C sc "set" && noStar [a] with
                      | false =>
                        refine pe_bad fun σ H Q ⟨ρ, k, F, k0, f0, en, g, q⟩ => ?_
                        dsimp only [stepE] at g
                        rw [hst, hf] at g
                        dsimp only at g
                        rw [hsl] at g
                        dsimp only at g
                        rw [hmt] at g
                        dsimp only at g
                        rw [hb, hsr] at g
                        dsimp only at g
                        rw [hb2] at g
                        exact absurd g o.hG
                      | true =>
                        have hb3 := hb2
                        rw [Bool.and_eq_true] at hb3
                        refine PE.imp (e_srt S o fp p2 a p pos2 hb hb3.1 hb3.2 hst) fun σ H Q ⟨ρ, k, F, k0, f0, en, g, q⟩ => ⟨ρ, k, F, k0, f0, en, ?_, q⟩
                        dsimp only [stepE] at g
                        rw [hst, hf] at g
                        dsimp only at g
                        rw [hsl] at g
                        dsimp only at g
                        rw [hmt] at g
                        dsimp only at g
                        rw [hb, hsr] at g
                        dsimp only at g
                        rw [hb2] at g
                        exact g
                    | none =>
                      by_cases hi : f = "isinstance"
                      · subst hi
                        refine PE.imp (e_isi S o fp args p hb hst) fun σ H Q ⟨ρ, k, F, k0, f0, en, g, q⟩ => ⟨ρ, k, F, k0, f0, en, ?_, q⟩
                        dsimp only [stepE] at g
                        rw [hst, hf] at g
                        dsimp only at g
                        rw [hsl] at g
                        dsimp only at g
                        rw [hmt] at g
                        dsimp only at g
                        rw [hb, hsr] at g
                        replace g := (show G _ from g)
                        rw [if_pos rfl] at g
                        exact g
                      · refine PE.imp (e_bi S o f fp args p hb hst) fun σ H Q ⟨ρ, k, F, k0, f0, en, g, q⟩ => ⟨ρ, k, F, k0, f0, en, ?_, q⟩
                        dsimp only [stepE] at g
                        rw [hst, hf] at g
                        dsimp only at g
                        rw [hsl] at g
                        dsimp only at g
                        rw [hmt] at g
                        dsimp only at g
                        rw [hb, hsr] at g
                        replace g := (show G _ from g)
                        rw [if_neg hi] at g
                        exact g
      | Attribute ob m ap =>
        cases hd : getArgs ob m args with
        | some ae =>
          obtain ⟨ks, vs, dp, rfl, rfl, rfl⟩ : ∃ ks vs dp, ob = .Dict ks vs dp ∧ m = "get" ∧ args = [ae.1, ae.2] := by
            unfold getArgs at hd
            split at hd
            · split at hd
              · rename_i hm
                cases hd
                exact ⟨_, _, _, rfl, hm, rfl⟩
              · cases hd
            · cases hd
          have eq1 : ∀ ρ k, stepE R C sc (.Call (.Attribute (.Dict ks vs dp) "get" ap) [ae.1, ae.2] [] p) ρ k = ckK ((ap.endLine == p.line) && noStar [ae.1, ae.2]) (get2E R C sc (.Dict ks vs dp) ae.1 ae.2 ρ k) := fun ρ k => rfl
          cases hg : ((ap.endLine == p.line) && noStar [ae.1, ae.2]) with
          | false =>
            refine pe_bad fun σ H Q ⟨ρ, k, F, k0, f0, en, g, q⟩ => ?_
            rw [eq1, hg] at g
            exact absurd g o.hG
          | true =>
            have hg' := hg
            rw [Bool.and_eq_true] at hg'
            refine PE.imp (e_get2 S o ks vs dp ae.1 ae.2 ap p hg'.1 hg'.2) fun σ H Q ⟨ρ, k, F, k0, f0, en, g, q⟩ => ⟨ρ, k, F, k0, f0, en, ?_, q⟩
            rw [eq1, hg] at g
            exact g
        | none =>
         cases args with
         | nil =>
          have eq0 : ∀ ρ k, stepE R C sc (.Call (.Attribute ob m ap) [] [] p) ρ k = ckK (opG ob && (ap.endLine == p.line)) (str0E R C sc ob m ρ k) := fun ρ k => by
            dsimp only [stepE]
            rw [hd]
          cases hg : opG ob && (ap.endLine == p.line) with
          | false =>
            refine pe_bad fun σ H Q ⟨ρ, k, F, k0, f0, en, g, q⟩ => ?_
            rw [eq0] at g
            rw [hg] at g
            exact absurd g o.hG
          | true =>
            have hg' := hg
            rw [Bool.and_eq_true] at hg'
            refine PE.imp (e_str0 S o ob m ap p hg'.1 hg'.2) fun σ H Q ⟨ρ, k, F, k0, f0, en, g, q⟩ => ⟨ρ, k, F, k0, f0, en, ?_, q⟩
            rw [eq0] at g
            rw [hg] at g
            exact g
         | cons a0 as0 =>
          generalize hargs : a0 :: as0 = args at hd ⊢
          have eq0 : ∀ ρ k, stepE R C sc (.Call (.Attribute ob m ap) args [] p) ρ k = ckK (opG ob && (ap.endLine == p.line) && noStar args && !args.isEmpty && decide (args.length < 20)) (methE R C sc ob m args ρ k) := fun ρ k => by
            subst hargs
            dsimp only [stepE]
            rw [hd]
          cases hg : opG ob && (ap.endLine == p.line) && noStar args && !args.isEmpty && decide (args.length < 20) with
          | false =>
            refine pe_bad fun σ H Q ⟨ρ, k, F, k0, f0, en, g, q⟩ => ?_
            rw [eq0] at g
            rw [hg] at g
            exact absurd g o.hG
          | true =>
            have hg' := hg
            rw [Bool.and_eq_true, Bool.and_eq_true, Bool.and_eq_true, Bool.and_eq_true, Bool.not_eq_true', decide_eq_true_eq] at hg'
            refine PE.imp (e_meth S o ob m args ap p hg'.1.1.1.1 hg'.1.1.1.2 hg'.1.1.2 (fun e => by rw [e] at hg'; cases hg'.1.2) hg'.2) fun σ H Q ⟨ρ, k, F, k0, f0, en, g, q⟩ => ⟨ρ, k, F, k0, f0, en, ?_, q⟩
            rw [eq0] at g
            rw [hg] at g
            exact g
      | _ => exact e_stuck o
  | ListComp elt gs scope p =>
    match gs with
    | [] => exact e_stuck o
    | [⟨tg, it, ifs, .ofNat 0⟩] => exact e_lc S o elt tg it ifs scope p
    | [⟨tg, it, ifs, .ofNat (n + 1)⟩] => exact e_stuck o
    | [⟨tg, it, ifs, .negSucc n⟩] => exact e_stuck o
    | ⟨tg, it, ifs, .ofNat 0⟩ :: _ :: _ => exact e_stuck o
    | ⟨tg, it, ifs, .ofNat (n + 1)⟩ :: _ :: _ => exact e_stuck o
    | ⟨tg, it, ifs, .negSucc n⟩ :: _ :: _ => exact e_stuck o
  | _ => exact e_stuck o
end
end TI
set_option Elab.async false
set_option linter.all false
set_option maxRecDepth 100000
set_option maxHeartbeats 4000000
/-! statements -/
namespace TI
open PySem PySem.Spec PyProof.Rows L2



def isStar : Expr → Bool
  | .Starred .. => true
  | _ => false
theorem star_one {e : Expr} {r : List Expr} (h : noStar (e :: r) = true) : isStar e = false ∧ noStar r = true := by
  cases e <;> first
    | exact ⟨rfl, h⟩
    | cases h
theorem sw_par {x y : Str} {px py : Pos} {kt pt k2 pt2} {a b : Expr} {env : PySem.Env} (hk : (env.blockKind != .function) = false) (hx : env.kindOf x = some .local) (hy : env.kindOf y = some .local) (hl : (py.line == px.line) = true) (hxy : x ≠ y) (hst : noStar [a, b] = true)
    (h1 : [a, b].all (foldedForSure 8) = false) (h2 : [a, b].all (constantsAlone 8) = false) : swappedStores [.Tuple [.Name x px, .Name y py] kt pt] (.Tuple [a, b] k2 pt2) env = pure (some [x, y]) := by
  obtain ⟨s1, s2⟩ := star_one hst
  obtain ⟨s3, _⟩ := star_one s2
  have e1 : ([a, b].any fun | .Starred .. => true | _ => false) = false := by
    show (isStar a || (isStar b || false)) = false
    rw [s1, s3]
    rfl
  have hf : ([Expr.Name x px, Expr.Name y py].filterMap fun
    | .Name id pos => if (env.kindOf id == some .local && pos.line == px.line) = true then some id else none
    | _ => none) = [x, y] := by
    have hl' : py.line = px.line := by simpa using hl
    simp [List.filterMap_cons, hx, hy, hl']
  have hd : ([x, y] : List Str).eraseDups.length = 2 := by
    have : (y == x) = false := by rw [beq_eq_false_iff_ne]; exact fun z => hxy z.symm
    simp [List.eraseDups_cons, this]
  unfold swappedStores
  dsimp only
  rw [show (!(([Expr.Name x px, Expr.Name y py].length == 2) || ([Expr.Name x px, Expr.Name y py].length == 3)) || [a, b].length != [Expr.Name x px, Expr.Name y py].length || env.blockKind != .function) = false from by rw [hk]; rfl]
  have key : ∀ {α : Type} (c : Bool) (h : c = false) (u v : α), (if c = true then u else v) = v := fun c h u v => by rw [h]; rfl
  refine (key _ rfl _ _).trans ?_
  refine (key _ e1 _ _).trans ?_
  have e3 : ([Expr.Name x px, Expr.Name y py].filterMap fun
    | .Name id pos => if (env.kindOf id == some .local && pos.line == (([Expr.Name x px, Expr.Name y py].head?.map (·.pos.line)).getD 0)) = true then some id else none
    | _ => none) = [x, y] := hf
  have e4 : ∀ l : List Str, l = [x, y] → (l.length != [Expr.Name x px, Expr.Name y py].length || l.eraseDups.length != l.length) = false := fun l h => by
    subst h
    rw [hd]
    rfl
  refine (key _ (e4 _ e3) _ _).trans ?_
  refine (key _ h1 _ _).trans ?_
  refine (key _ h2 _ _).trans ?_
  exact congrArg (fun l => (pure (some l) : Sem (Option (List Str)))) e3
theorem par_of {es : List Expr} {e : Expr} {t : (Str × Pos) × (Str × Pos) × Expr × Expr} (h : parOf es e = some t) : ∃ (m : Nat) (q : Pos), es = [.Name t.1.1 t.1.2, .Name t.2.1.1 t.2.1.2] ∧ e = .Tuple [t.2.2.1, t.2.2.2] m q := by
  unfold parOf at h
  split at h
  · cases h; exact ⟨_, _, rfl, rfl⟩
  · cases h
section
variable {K : PySem.W.Frag} {G : Res → Prop} {np : Nat} {vs : List V} {F F' : Fp} {H H' : Hp} {E : Nx} {D : Ends}
theorem NxOk.shift (n : NxOk K G np vs F H E D) (k : Keep F H H') (f : Fr F H F') : NxOk K G np vs F' H' E D where
  nx := fun ρ' σ' H2 F2 k2 f2 => n.nx ρ' σ' H2 F2 (k.trans k2 f) (f.trans k f2)
  bk := fun ρ' σ' H2 F2 k2 f2 => n.bk ρ' σ' H2 F2 (k.trans k2 f) (f.trans k f2)
  ct := fun ρ' σ' H2 F2 k2 f2 => n.ct ρ' σ' H2 F2 (k.trans k2 f) (f.trans k f2)
  rt := fun d ρ' σ' v H2 F2 Fv k2 f2 fv => n.rt d ρ' σ' v H2 F2 Fv (k.trans k2 f) (f.trans k f2) (f.trans k fv)
end
section
variable {X : Cx} {C : Cd} {sc : Scope} {cx : CXT} {er : Er} {EX : XK} {G : Res → Prop} {A0 : Fp} {H0 : Hp} {R : Fns} (S : Snd R) (o : Okx X C sc cx er EX G A0 H0) (vs : List V)
include S o
omit S in
theorem s_stuck {st : Stmt} : PS X st (RdS X.K G A0 H0 C.np vs (fun _ _ => .stuck)) := ps_bad fun D σ H ⟨ρ, E, F, k0, f0, en, pa, g, n⟩ => absurd g o.hG
theorem s_pass (p : Pos) : PS X (.Pass p) (RdS X.K G A0 H0 C.np vs (fun ρ E => E.nx ρ)) :=
  PS.imp ps_pass fun D σ H ⟨ρ, E, F, k0, f0, en, pa, g, n⟩ => n.nx ρ σ H F (Keep.refl _ _) (Fr.refl _ _) en pa g
theorem s_break (p : Pos) : PS X (.Break p) (RdS X.K G A0 H0 C.np vs (fun ρ E => E.bk ρ)) :=
  PS.imp ps_break fun D σ H ⟨ρ, E, F, k0, f0, en, pa, g, n⟩ => n.bk ρ σ H F (Keep.refl _ _) (Fr.refl _ _) en pa g
theorem s_cont (p : Pos) : PS X (.Continue p) (RdS X.K G A0 H0 C.np vs (fun ρ E => E.ct ρ)) :=
  PS.imp ps_continue fun D σ H ⟨ρ, E, F, k0, f0, en, pa, g, n⟩ => n.ct ρ σ H F (Keep.refl _ _) (Fr.refl _ _) en pa g
omit S o in
theorem swaps_no {e : Expr} (h : isLc e = false) (t : Option Expr) (l : Nat) (env : PySem.Env) : swapsWith e t l env = pure false := by
  cases e <;> first
    | rfl
    | cases h
theorem s_expr (e : Expr) (p : Pos) : PS X (.Expr e p) (RdS X.K G A0 H0 C.np vs (fun ρ E => ckK (!isLc e) (R.E C sc e ρ fun _ ρ1 => E.nx ρ1))) := by
  cases hl : isLc e with
  | true => exact s_stuck o vs
  | false =>
    refine PS.imp (ps_expr (S.E o e) (swaps_no hl _ _ _)) fun D σ H ⟨ρ, E, F, k0, f0, en, pa, g, n⟩ => ?_
    exact ⟨ρ, _, F, k0, f0, en, g, fun d ρ1 v H1 Fe c1 v1 _ g1 => n.nx ρ1 σ H1 Fe c1.kp c1.fr c1.en (pa.imp c1.im) g1⟩
theorem s_retN (p : Pos) : PS X (.Return none p) (RdS X.K G A0 H0 C.np vs (fun ρ E => E.rt .non ρ)) :=
  PS.imp ps_retN fun D σ H ⟨ρ, E, F, k0, f0, en, pa, g, n⟩ => n.rt .non ρ σ .non H F F0 (Keep.refl _ _) (Fr.refl _ _) (fun _ z => z.elim) (fun _ _ z => z) en pa rfl g
theorem storK_of {e : Expr} {d : D} {r : Res} (g : G (storK e d r)) : G r ∧ (isPath e = true → d.pu = true) := by
  unfold storK at g
  by_cases hp : isPath e = true
  · rw [if_pos hp] at g
    obtain ⟨pu, g⟩ := puK_of o.hG g
    exact ⟨g, fun _ => pu⟩
  · rw [if_neg hp] at g
    exact ⟨g, fun z => absurd z hp⟩
theorem s_ret (e : Expr) (p : Pos) : PS X (.Return (some e) p) (RdS X.K G A0 H0 C.np vs (fun ρ E => R.E C sc e ρ fun d ρ1 => storK e d (E.rt d ρ1))) := by
  refine PS.imp (ps_ret (S.E o e)) fun D σ H ⟨ρ, E, F, k0, f0, en, pa, g, n⟩ => ?_
  refine ⟨ρ, _, F, k0, f0, en, g, fun d ρ1 v H1 Fe c1 v1 _ g1 => ?_⟩
  obtain ⟨g1, hp⟩ := storK_of S o g1
  obtain ⟨Fv, ow⟩ := v1.own hp
  exact n.rt d ρ1 σ v H1 Fe Fv c1.kp c1.fr ow.fr ow.dj c1.en (pa.imp c1.im) ow.rp g1
theorem s_retV (x : Str) (xp p : Pos) : PS X (.Return (some (.Name x xp)) p) (RdS X.K G A0 H0 C.np vs (stepS1 R C sc (.Return (some (.Name x xp)) p))) := by
  cases hs : slotOf C sc x with
  | none =>
    refine PS.imp (ps_ret (S.E o (.Name x xp))) fun D σ H ⟨ρ, E, F, k0, f0, en, pa, g, n⟩ => ?_
    dsimp only [stepS1] at g
    rw [hs] at g
    refine ⟨ρ, _, F, k0, f0, en, g, fun d ρ1 v H1 Fe c1 v1 _ g1 => ?_⟩
    obtain ⟨pu, g1⟩ := puK_of o.hG g1
    obtain ⟨Fv, ow⟩ := v1.own fun _ => pu
    exact n.rt d ρ1 σ v H1 Fe Fv c1.kp c1.fr ow.fr ow.dj c1.en (pa.imp c1.im) ow.rp g1
  | some i =>
    obtain ⟨x1, x2, x3, x4⟩ := o.toCok.visx hs
    refine PS.imp (ps_ret (pe_var (i := i) x1 x2 x3 x4)) fun D σ H ⟨ρ, E, F, k0, f0, en, pa, g, n⟩ => ?_
    dsimp only [stepS1] at g
    rw [hs] at g
    obtain ⟨d, hd, g⟩ := getK_of o.hG g
    cases pu : d.pu with
    | true =>
      rw [pu] at g
      obtain ⟨v, hv, r⟩ := Ens.get _ _ _ _ _ en hd
      exact ⟨v, hv, n.rt d ρ σ v H F F0 (Keep.refl _ _) (Fr.refl _ _) (fun _ z => z.elim) (fun _ _ z => z) en pa (Rp.pure _ _ _ pu r) g⟩
    | false =>
      rw [pu] at g
      obtain ⟨hi, g⟩ := ckK_of o.hG g
      obtain ⟨v, G1, G2, hv, r, en2, s1, s2, dj⟩ := Ens.take _ _ _ _ _ en hd
      refine ⟨v, hv, n.rt d (ρ.set i none) σ v H G2 G1 (Keep.refl _ _) (fun a z => .inl (s2 a z)) (fun a z => .inl (s1 a z)) (fun a z w => dj a w z) en2 (fun j d' hj e p' => ?_) r g⟩
      have : i ≠ j := fun e' => by have := of_decide_eq_true hi; omega
      rw [List.getElem?_set_ne this] at e
      exact pa j d' hj e p'
def RdR (K : PySem.W.Frag) (G : Res → Prop) (A0 : Fp) (H0 : Hp) (np : Nat) (vs : List V) (f : TI.Env → Nx → Res) : TE := fun σ H Q => ∃ ρ E F, Keep A0 H0 H ∧ Fr A0 H0 F ∧ Ens K H ρ σ F ∧ Par np vs σ ρ ∧ G (f ρ E) ∧
  ∀ d ρ' v H' F' Fv, Keep F H H' → Fr F H F' → Fr F H Fv → Dis F' Fv → Ens K H' ρ' σ F' → Par np vs σ ρ' → Rp K H' d v Fv → G (E.rt d ρ') → Q v H'
theorem e_retR (e : Expr) : PE X e (RdR X.K G A0 H0 C.np vs (retE R C sc e)) := by
  have gen : (∀ ρ E, retE R C sc e ρ E = R.E C sc e ρ fun d ρ1 => storK e d (E.rt d ρ1)) → PE X e (RdR X.K G A0 H0 C.np vs (retE R C sc e)) := fun h => by
    refine PE.imp (S.E o e) fun σ H Q ⟨ρ, E, F, k0, f0, en, pa, g, n⟩ => ?_
    rw [h] at g
    refine ⟨ρ, _, F, k0, f0, en, g, fun d ρ1 v H1 Fe c1 v1 _ g1 => ?_⟩
    obtain ⟨g1, hp⟩ := storK_of S o g1
    obtain ⟨Fv, ow⟩ := v1.own hp
    exact n d ρ1 v H1 Fe Fv c1.kp c1.fr ow.fr ow.dj c1.en (pa.imp c1.im) ow.rp g1
  cases e with
  | Name x xp =>
    cases hs : slotOf C sc x with
    | none =>
      refine PE.imp (S.E o (.Name x xp)) fun σ H Q ⟨ρ, E, F, k0, f0, en, pa, g, n⟩ => ?_
      dsimp only [retE] at g
      rw [hs] at g
      refine ⟨ρ, _, F, k0, f0, en, g, fun d ρ1 v H1 Fe c1 v1 _ g1 => ?_⟩
      obtain ⟨pu, g1⟩ := puK_of o.hG g1
      obtain ⟨Fv, ow⟩ := v1.own fun _ => pu
      exact n d ρ1 v H1 Fe Fv c1.kp c1.fr ow.fr ow.dj c1.en (pa.imp c1.im) ow.rp g1
    | some i =>
      obtain ⟨x1, x2, x3, x4⟩ := o.toCok.visx hs
      refine PE.imp (pe_var (i := i) x1 x2 x3 x4) fun σ H Q ⟨ρ, E, F, k0, f0, en, pa, g, n⟩ => ?_
      dsimp only [retE] at g
      rw [hs] at g
      obtain ⟨d, hd, g⟩ := getK_of o.hG g
      cases pu : d.pu with
      | true =>
        rw [pu] at g
        obtain ⟨v, hv, r⟩ := Ens.get _ _ _ _ _ en hd
        exact ⟨v, hv, n d ρ v H F F0 (Keep.refl _ _) (Fr.refl _ _) (fun _ z => z.elim) (fun _ _ z => z) en pa (Rp.pure _ _ _ pu r) g⟩
      | false =>
        rw [pu] at g
        obtain ⟨hi, g⟩ := ckK_of o.hG g
        obtain ⟨v, G1, G2, hv, r, en2, s1, s2, dj⟩ := Ens.take _ _ _ _ _ en hd
        refine ⟨v, hv, n d (ρ.set i none) v H G2 G1 (Keep.refl _ _) (fun a z => .inl (s2 a z)) (fun a z => .inl (s1 a z)) (fun a z w => dj a w z) en2 (fun j d' hj e p' => ?_) r g⟩
        have : i ≠ j := fun e' => by have := of_decide_eq_true hi; omega
        rw [List.getElem?_set_ne this] at e
        exact pa j d' hj e p'
  | _ => exact gen fun _ _ => rfl
theorem s_retIf (t a b : Expr) (ip p : Pos) : PS X (.Return (some (.IfExp t a b ip)) p) (RdS X.K G A0 H0 C.np vs (stepS1 R C sc (.Return (some (.IfExp t a b ip)) p))) := by
  refine PS.imp (ps_ret (pe_ifExp (S.T o t) (e_retR S o vs a) (e_retR S o vs b))) fun D σ H ⟨ρ, E, F, k0, f0, en, pa, g, n⟩ => ?_
  dsimp only [stepS1] at g
  refine ⟨ρ, _, F, k0, f0, en, g, fun c ρ1 H1 Fe c1 g1 => ?_⟩
  have n1 := n.shift c1.kp c1.fr
  dsimp only
  cases c with
  | true =>
    rw [if_pos rfl]
    exact ⟨ρ1, E, Fe, c1.keep k0 f0, c1.from k0 f0, c1.en, pa.imp c1.im, g1, fun d ρ' v H' F' Fv a1 a2 a3 a4 a5 a6 a7 g' => n1.rt d ρ' σ v H' F' Fv a1 a2 a3 a4 a5 a6 a7 g'⟩
  | false =>
    rw [if_neg (by decide)]
    exact ⟨ρ1, E, Fe, c1.keep k0 f0, c1.from k0 f0, c1.en, pa.imp c1.im, g1, fun d ρ' v H' F' Fv a1 a2 a3 a4 a5 a6 a7 g' => n1.rt d ρ' σ v H' F' Fv a1 a2 a3 a4 a5 a6 a7 g'⟩
/-- a slot takes a value -/
theorem set_ok {i : Nat} {d : D} {v : V} {σ : L2.St} {H : Hp} {ρ : Env} {F Fv : Fp} {k : Env → Res} (en : Ens X.K H ρ σ F) (rp : Rp X.K H d v Fv) (dj : Dis F Fv) (pa : Par C.np vs σ ρ) (g : G (setK C i d ρ k)) :
    Ens X.K H (ρ.set i (some d)) (σ.set i (some v)) (fun a => F a ∨ Fv a) ∧ Par C.np vs (σ.set i (some v)) (ρ.set i (some d)) ∧ G (k (ρ.set i (some d))) := by
  have par : (i < C.np → d.pu = true) → Par C.np vs (σ.set i (some v)) (ρ.set i (some d)) := fun hd j d' hj e p' => by
    by_cases hij : i = j
    · subst hij
      rw [List.getElem?_set] at e
      rw [if_pos rfl] at e
      split at e
      · cases e; rw [hd hj] at p'; cases p'
      · cases e
    · rw [List.getElem?_set_ne hij] at e
      rw [List.getElem?_set_ne hij]
      exact pa j d' hj e p'
  unfold setK at g
  by_cases hnp : i < C.np
  · rw [if_pos hnp] at g
    obtain ⟨pu, g⟩ := puK_of o.hG g
    split at g
    · obtain ⟨_, g⟩ := puK_of o.hG g
      exact ⟨Ens.put _ _ _ _ i d v en rp dj, par fun _ => pu, g⟩
    · exact absurd g o.hG
  · rw [if_neg hnp] at g
    exact ⟨Ens.put _ _ _ _ i d v en rp dj, par fun z => absurd z hnp, g⟩
theorem s_setN (x : Str) (xp p : Pos) (e : Expr) : PS X (.Assign [.Name x xp] e p) (RdS X.K G A0 H0 C.np vs (stepS1 R C sc (.Assign [.Name x xp] e p))) := by
  cases hs : slotOf C sc x with
  | none =>
    refine ps_bad fun D σ H ⟨ρ, E, F, k0, f0, en, pa, g, n⟩ => ?_
    dsimp only [stepS1] at g
    rw [hs] at g
    exact absurd g o.hG
  | some i =>
    cases hc : C.own x && locl sc x with
    | false =>
      refine ps_bad fun D σ H ⟨ρ, E, F, k0, f0, en, pa, g, n⟩ => ?_
      dsimp only [stepS1] at g
      rw [hs] at g
      dsimp only at g
      rw [hc] at g
      exact absurd g o.hG
    | true =>
      rw [Bool.and_eq_true] at hc
      obtain ⟨x1, x2, x3, x4⟩ := o.toCok.visx hs
      have hl : Loc X.env.scope x := by rw [o.hsc]; exact locl_of hc.2
      cases hlc : isLc e with
      | false =>
        refine PS.imp (ps_set o.nd x1 hl (S.E o e) (swaps_no hlc _ _ _) (o.own x hc.1 hc.2)) fun D σ H ⟨ρ, E, F, k0, f0, en, pa, g, n⟩ => ?_
        dsimp only [stepS1] at g
        rw [hs] at g
        dsimp only at g
        rw [hc.1, hc.2, hlc] at g
        replace g : G (R.E C sc e ρ _) := g
        refine ⟨ρ, _, F, k0, f0, en, g, fun d ρ1 v H1 Fe c1 v1 _ g1 => ?_⟩
        obtain ⟨g1, hp⟩ := storK_of S o g1
        obtain ⟨Fv, ow⟩ := v1.own hp
        obtain ⟨en2, pa2, g2⟩ := set_ok S o vs c1.en ow.rp ow.dj (pa.imp c1.im) g1
        exact n.nx _ _ H1 _ c1.kp (fun a z => z.elim (c1.fr a) (ow.fr a)) en2 pa2 g2
      | true =>
        cases ho : lcOf e with
        | none =>
          refine ps_bad fun D σ H ⟨ρ, E, F, k0, f0, en, pa, g, n⟩ => ?_
          dsimp only [stepS1] at g
          rw [hs] at g
          dsimp only at g
          rw [hc.1, hc.2, hlc, ho] at g
          exact absurd g o.hG
        | some q =>
          obtain ⟨elt, tg', it, ifs, scope⟩ := q
          obtain ⟨ep, rfl⟩ : ∃ ep, e = .ListComp elt [⟨tg', it, ifs, 0⟩] scope ep := by
            unfold lcOf at ho
            split at ho
            · cases ho; exact ⟨_, rfl⟩
            · cases ho
          have red : ∀ {ρ : Env} {E : Nx}, G (stepS1 R C sc (.Assign [.Name x xp] (.ListComp elt [⟨tg', it, ifs, 0⟩] scope ep) p) ρ E) → G (lcE R C sc elt tg' it ifs scope ρ fun d ρ1 => setK C i d ρ1 E.nx) := fun {ρ E} g => by
            dsimp only [stepS1] at g
            rw [hs] at g
            dsimp only at g
            rw [hc.1, hc.2] at g
            exact g
          by_cases hsw : swapsWith (.ListComp elt [⟨tg', it, ifs, 0⟩] scope ep) (some (.Name x xp)) p.line X.env = pure true ∧ X.env.scope.names.lookup x = some .local
          · cases hb : blkC C.N sc scope (ownOf C.N scope) && few ifs && !isSet it with
            | false =>
              refine ps_bad fun D σ H ⟨ρ, E, F, k0, f0, en, pa, g, n⟩ => ?_
              replace g := red g
              unfold lcE at g
              rw [hb] at g
              exact absurd g o.hG
            | true =>
              have hb' := hb
              rw [Bool.and_eq_true, Bool.and_eq_true, Bool.not_eq_true'] at hb'
              refine PS.imp (ps_setLc (tt := RdT X.K G A0 H0 (ifsE R (lcCd C scope) (relS scope sc) ifs)) (g := RdG X.K G (lcCd C scope) (relS scope sc) (R.G (lcCd C scope) (relS scope sc) tg')) (te := RdE X.K G A0 H0 (isPath elt) (isCalm elt) (R.E (lcCd C scope) (relS scope sc) elt)) o.calm o.nd x1 hsw.2 hsw.1 (i_iterF S o tg' it) (by rw [o.hN, o.hsc]; exact blkOk_by hb'.1.1) (fun s H Ce cl fp => S.G (okx_blk o scope s H Ce cl fp) tg') (fun s H Ce cl fp => ifs_ok S (okx_blk o scope s H Ce cl fp) hb'.1.2)
                (fun s H Ce cl fp => S.E (okx_blk o scope s H Ce cl fp) elt) (fold_ok hb'.2 _)) fun D σ H ⟨ρ, E, F, k0, f0, en, pa, g, n⟩ => ?_
              replace g := red g
              unfold lcE at g
              rw [hb] at g
              refine lc_core S o elt tg' it ifs scope hb'.1.2 ⟨ρ, fun d ρ1 => setK C i d ρ1 E.nx, F, k0, f0, en, g, fun d ρ1 v H1 Fe c1 v1 _ g1 => ?_⟩
              obtain ⟨Fv, ow⟩ := v1.own fun z => nomatch z
              obtain ⟨en2, pa2, g2⟩ := set_ok S o vs c1.en ow.rp ow.dj (pa.imp c1.im) g1
              exact n.nx _ _ H1 _ c1.kp (fun a z => z.elim (c1.fr a) (ow.fr a)) en2 pa2 g2
          · have hsf : swapsWith (.ListComp elt [⟨tg', it, ifs, 0⟩] scope ep) (some (.Name x xp)) p.line X.env = pure false := by
              obtain ⟨b, hb, hbl⟩ : ∃ b, swapsWith (.ListComp elt [⟨tg', it, ifs, 0⟩] scope ep) (some (.Name x xp)) p.line X.env = pure b ∧ (b = true → X.env.scope.names.lookup x = some .local) := ⟨_, rfl, fun h => by
                rw [Bool.and_eq_true, Bool.and_eq_true, Bool.and_eq_true] at h
                exact eq_of_beq h.1.1.2⟩
              cases b with
              | false => exact hb
              | true => exact absurd ⟨hb, hbl rfl⟩ hsw
            refine PS.imp (ps_set o.nd x1 hl (e_lc S o elt tg' it ifs scope ep) hsf (o.own x hc.1 hc.2)) fun D σ H ⟨ρ, E, F, k0, f0, en, pa, g, n⟩ => ?_
            replace g := red g
            refine ⟨ρ, _, F, k0, f0, en, g, fun d ρ1 v H1 Fe c1 v1 _ g1 => ?_⟩
            obtain ⟨Fv, ow⟩ := v1.own fun z => nomatch z
            obtain ⟨en2, pa2, g2⟩ := set_ok S o vs c1.en ow.rp ow.dj (pa.imp c1.im) g1
            exact n.nx _ _ H1 _ c1.kp (fun a z => z.elim (c1.fr a) (ow.fr a)) en2 pa2 g2
theorem s_par (x y : Str × Pos) (a b : Expr) (m q : Nat) (tp ep p : Pos) : PS X (.Assign [.Tuple [.Name x.1 x.2, .Name y.1 y.2] m tp] (.Tuple [a, b] q ep) p) (RdS X.K G A0 H0 C.np vs (parS R C sc x y a b)) := by
  cases hk : parOk sc x y a b with
  | false =>
    refine ps_bad fun D σ H ⟨ρ, E, F, k0, f0, en, pa, g, n⟩ => ?_
    unfold parS at g
    rw [hk] at g
    exact absurd g o.hG
  | true =>
    have red : ∀ ρ E, parS R C sc x y a b ρ E = (match slotOf C sc x.1 with
      | some i => (match slotOf C sc y.1 with
        | some j => R.A C sc [a, b] ρ fun as ρ1 => resP as ρ1 fun ds => (match ds with
          | [d1, d2] => setK C i d1 ρ1 fun ρ2 => setK C j d2 ρ2 E.nx
          | _ => .stuck)
        | none => .stuck)
      | none => .stuck) := fun ρ E => by
      unfold parS
      rw [hk]
      rfl
    cases hi : slotOf C sc x.1 with
    | none =>
      refine ps_bad fun D σ H ⟨ρ, E, F, k0, f0, en, pa, g, n⟩ => ?_
      rw [red, hi] at g
      exact absurd g o.hG
    | some i =>
      cases hj : slotOf C sc y.1 with
      | none =>
        refine ps_bad fun D σ H ⟨ρ, E, F, k0, f0, en, pa, g, n⟩ => ?_
        rw [red, hi, hj] at g
        exact absurd g o.hG
      | some j =>
        have hk' := hk
        unfold parOk at hk'
        simp only [Bool.and_eq_true, Bool.not_eq_true', decide_eq_false_iff_not] at hk'
        obtain ⟨q1, q2, q3, q4, q5, q6, q7, q8⟩ := hk'
        obtain ⟨x1, x2, x3, x4⟩ := o.toCok.visx hi
        obtain ⟨y1, y2, y3, y4⟩ := o.toCok.visx hj
        have lx : X.env.scope.names.lookup x.1 = some .local := by
          rw [o.hsc]
          unfold isLoc at q2
          split at q2
          · assumption
          · cases q2
        have ly : X.env.scope.names.lookup y.1 = some .local := by
          rw [o.hsc]
          unfold isLoc at q3
          split at q3
          · assumption
          · cases q3
        have hij : i ≠ j := fun e => q5 (by
          subst e
          rw [x1] at y1
          exact Option.some.inj y1)
        have hbk : (X.env.blockKind != .function) = false := by
          unfold PySem.Env.blockKind
          rw [o.hsc]
          exact q1
        refine PS.imp (ps_par o.calm o.nd x1 y1 hij lx ly (S.A o [a, b]) (sw_par hbk lx ly q4 q5 q6 q7 q8) (show swapsWithSole [.Tuple [.Name x.1 x.2, .Name y.1 y.2] m tp] (.Tuple [a, b] q ep) p.line X.env = pure false from swaps_no (e := .Tuple [a, b] q ep) rfl (some (.Tuple [.Name x.1 x.2, .Name y.1 y.2] m tp)) p.line X.env)) fun D σ H ⟨ρ, E, F, k0, f0, en, pa, g, n⟩ => ?_
        rw [red, hi, hj] at g
        refine ⟨ρ, _, F, k0, f0, en, g, fun as ρ1 us H1 Fe Fv c1 fr dj tr ar g1 => ?_⟩
        obtain ⟨ds, hds, g1⟩ := resP_of o.hG ar c1.en g1
        match ds, hds, g1 with
        | [], hds, g1 => exact absurd g1 o.hG
        | [_], hds, g1 => exact absurd g1 o.hG
        | _ :: _ :: _ :: _, hds, g1 => exact absurd g1 o.hG
        | [d1, d2], hds, g1 =>
          obtain ⟨v, ws, G1, G2, rfl, r1, ⟨w, ws', G3, G4, rfl, r2, r3, s3, s4, d34⟩, s1, s2, d12⟩ := hds
          rw [show ws' = [] from r3]
          refine ⟨v, w, rfl, ?_⟩
          obtain ⟨en2, pa2, g2⟩ := set_ok S o vs c1.en r1 (fun z p q => dj z p (s1 z q)) (pa.imp c1.im) g1
          obtain ⟨en3, pa3, g3⟩ := set_ok S o vs en2 r2 (fun z p q => p.elim (fun p => dj z p (s2 z (s3 z q))) fun p => d12 z p (s3 z q)) pa2 g2
          exact n.nx _ _ H1 _ c1.kp (fun z h => h.elim (fun h => h.elim (c1.fr z) fun h => fr z (s1 z h)) fun h => fr z (s2 z (s3 z h))) en3 pa3 g3
theorem s_setT (es : List Expr) (m : Nat) (tp p : Pos) (e : Expr) : PS X (.Assign [.Tuple es m tp] e p) (RdS X.K G A0 H0 C.np vs (stepS1 R C sc (.Assign [.Tuple es m tp] e p))) := by
  cases hp : parOf es e with
  | some t =>
    obtain ⟨m', q, rfl, rfl⟩ := par_of hp
    cases hp
    exact s_par S o vs _ _ _ _ m m' tp q p
  | none =>
    cases hl : !isLc e && !isTup e with
    | false =>
      refine ps_bad fun D σ H ⟨ρ, E, F, k0, f0, en, pa, g, n⟩ => ?_
      dsimp only [stepS1] at g
      rw [hp] at g
      dsimp only at g
      rw [hl] at g
      exact absurd g o.hG
    | true =>
      have hl' := hl
      rw [Bool.and_eq_true, Bool.not_eq_true', Bool.not_eq_true'] at hl'
      refine PS.imp (ps_asg (S.E o e) (S.G o (.Tuple es m tp)) (swaps_no hl'.1 (some (.Tuple es m tp)) p.line X.env) (by
        cases e <;> first
          | rfl
          | cases hl'.2) rfl) fun D σ H ⟨ρ, E, F, k0, f0, en, pa, g, n⟩ => ?_
      dsimp only [stepS1] at g
      rw [hp] at g
      dsimp only at g
      rw [hl] at g
      replace g : G (R.E C sc e ρ _) := g
      refine ⟨ρ, _, F, k0, f0, en, g, fun d ρ1 v H1 Fe c1 v1 _ g1 => ?_⟩
      obtain ⟨hp, g1⟩ := ckK_of o.hG g1
      obtain ⟨Fv, ow⟩ := v1.own fun z => by rw [z] at hp; exact hp
      exact ⟨ρ1, _, Fe, d, Fv, c1.en, ow.rp, ow.dj, g1, fun ρ' σ' F' f' en' sl _ pa' g' => n.nx ρ' σ' H1 F' c1.kp (fun a z => (f' a z).elim (c1.fr a) (ow.fr a)) en' (pa' vs (pa.imp c1.im)) g'⟩
theorem s_setI (x : Str) (xp tp p : Pos) (i e : Expr) : PS X (.Assign [.Subscript (.Name x xp) i tp] e p) (RdS X.K G A0 H0 C.np vs (stepS1 R C sc (.Assign [.Subscript (.Name x xp) i tp] e p))) := by
  cases hl : !isLc e && !isSl i with
  | false =>
    refine ps_bad fun D σ H ⟨ρ, E, F, k0, f0, en, pa, g, n⟩ => ?_
    dsimp only [stepS1] at g
    rw [hl] at g
    exact absurd g o.hG
  | true =>
    have hl' := hl
    rw [Bool.and_eq_true, Bool.not_eq_true', Bool.not_eq_true'] at hl'
    cases hs : slotOf C sc x with
    | none =>
      refine ps_bad fun D σ H ⟨ρ, E, F, k0, f0, en, pa, g, n⟩ => ?_
      dsimp only [stepS1] at g
      rw [hl, hs] at g
      exact absurd g o.hG
    | some j =>
      obtain ⟨x1, x2, x3, x4⟩ := o.toCok.visx hs
      refine PS.imp (ps_asg (S.E o e) (pg_sub (pe_var (i := j) x1 x2 x3 x4) (S.E o i) set_list (by
        intro v
        cases i <;> first
          | rfl
          | cases hl'.2)) (swaps_no hl'.1 (some (.Subscript (.Name x xp) i tp)) p.line X.env) (by cases e <;> rfl) rfl) fun D σ H ⟨ρ, E, F, k0, f0, en, pa, g, n⟩ => ?_
      dsimp only [stepS1] at g
      rw [hl, hs] at g
      replace g : G (R.E C sc e ρ _) := g
      refine ⟨ρ, _, F, k0, f0, en, g, fun d ρ1 v H1 Fe c1 v1 _ g1 => ?_⟩
      obtain ⟨pu, g1⟩ := puK_of o.hG g1
      obtain ⟨Fd, rd⟩ := v1.any
      obtain ⟨c0, hc0, g1⟩ := getK_of o.hG g1
      obtain ⟨lv, hlv, _⟩ := Ens.get _ _ _ _ _ c1.en hc0
      refine ⟨lv, hlv, ρ1, _, Fe, c1.keep k0 f0, c1.from k0 f0, c1.en, g1, fun y ρ2 iv H2 Fe2 c2 v2 _ g2 => ?_⟩
      obtain ⟨m, hm, g2⟩ := oK_of o.hG g2
      obtain ⟨Fy, ry⟩ := v2.any
      cases y with
      | int m' =>
        have hmm' : m' = m := by cases hm; rfl
        subst hmm'
        cases (show iv = .int m' from ry)
        obtain ⟨c, hc, g2⟩ := getK_of o.hG g2
        cases c with
        | lst ds =>
          obtain ⟨mm, hmm, g2⟩ := oK_of o.hG g2
          obtain ⟨lv', E1, E2, hv', r', en', t1, t2, d12⟩ := Ens.take _ _ _ _ _ c2.en hc
          obtain ⟨a, us, rfl, ha, hE, hus⟩ := r'
          rw [hlv] at hv'; cases hv'
          have hlen := Rps.length _ _ _ hus
          have rd2 : Rp X.K H2 d v F0 := keep_pure rd pu c2
          have one : Keep (fun z => z = a) H2 (upd H2 a (.lst (us.set mm v))) := keep_one ha
          refine ⟨a, us, m', mm, rfl, rfl, ha, by rw [hlen]; exact hmm, ?_⟩
          have na2 : ¬ E2 a := fun z => d12 a hE z
          have rp1 : Rps X.K (upd H2 a (.lst (us.set mm v))) (ds.set mm d) (us.set mm v) (fun b => E1 b ∧ b ≠ a) :=
            Rps.mono _ _ _ _ (fun b hb => hb.elim id fun z => z.elim) (Rps.set _ _ _ F0 mm d v (Rps.stay one _ _ _ (fun b hb e => hb.2 e) hus) (Rp.stay one _ _ _ (fun _ z => z.elim) rd2) fun _ _ z => z)
          have rp : Rp X.K (upd H2 a (.lst (us.set mm v))) (.lst (ds.set mm d)) (.ref a) E1 := ⟨a, us.set mm v, rfl, upd_same, hE, rp1⟩
          have en3 := Ens.back (Ens.stay one _ _ _ (fun b hb (e : b = a) => na2 (e ▸ hb)) en') hlv rp (fun b p q => d12 b q p)
          have c12 := c1.trans c2
          refine n.nx _ σ _ _ (c12.kp.trans (one.mono fun b e => (show b = a from e) ▸ t1 a hE) c12.fr) (fun b z => z.elim (fun w => c12.fr b (t2 b w)) fun w => c12.fr b (t1 b w)) en3 ((pa.imp c12.im).imp fun q d' e p' => ?_) g2
          by_cases hj : j = q
          · subst hj; exact ⟨_, hc, rfl⟩
          · rw [List.getElem?_set_ne hj] at e; exact ⟨d', e, p'⟩
        | _ => exact absurd g2 o.hG
      | _ => cases hm
theorem s_aug (x : Str) (xp p : Pos) (op : Operator) (e : Expr) : PS X (.AugAssign (.Name x xp) op e p) (RdS X.K G A0 H0 C.np vs (stepS1 R C sc (.AugAssign (.Name x xp) op e p))) := by
  cases hs : slotOf C sc x with
  | none =>
    refine ps_bad fun D σ H ⟨ρ, E, F, k0, f0, en, pa, g, n⟩ => ?_
    dsimp only [stepS1] at g
    rw [hs] at g
    exact absurd g o.hG
  | some i =>
    cases hc : C.own x && locl sc x && isAS op with
    | false =>
      refine ps_bad fun D σ H ⟨ρ, E, F, k0, f0, en, pa, g, n⟩ => ?_
      dsimp only [stepS1] at g
      rw [hs] at g
      dsimp only at g
      rw [hc] at g
      exact absurd g o.hG
    | true =>
      have hc' := hc
      rw [Bool.and_eq_true, Bool.and_eq_true] at hc'
      obtain ⟨x1, x2, x3, x4⟩ := o.toCok.visx hs
      have hl : Loc X.env.scope x := by rw [o.hsc]; exact locl_of hc'.1.2
      have hop : PIp X op (fun x y H Q => ∃ dx dy Fx Fy k, Rp X.K H dx x Fx ∧ Rp X.K H dy y Fy ∧ G (augD op dx dy k) ∧ VRes G X.K k H Q) := by
        intro pins s σ H x y v u Q I r1 r2 h
        obtain ⟨dx, dy, Fx, Fy, k, hx, hy, g, q⟩ := h
        unfold augD at g
        split at g
        · cases (show x = .int _ from hx)
          cases (show y = .int _ from hy)
          exact ip_add pins s σ H _ _ v u Q I r1 r2 ⟨_, _, rfl, rfl, q.here (d := .int _) rfl g⟩
        · cases (show x = .str _ from hx)
          cases (show y = .str _ from hy)
          obtain ⟨hz, g⟩ := ckK_of o.hG g
          exact iop_add_str pins s σ H _ _ v u Q I r1 r2 ⟨_, _, rfl, rfl, by rw [← szLine_eq]; exact of_decide_eq_true hz, q.here (d := .str _) rfl g⟩
        · cases (show x = .int _ from hx)
          cases (show y = .int _ from hy)
          exact ip_sub pins s σ H _ _ v u Q I r1 r2 ⟨_, _, rfl, rfl, q.here (d := .int _) rfl g⟩
        · exact absurd g o.hG
      refine PS.imp (ps_aug o.nd x1 hl (S.E o e) hop (o.own x hc'.1.1 hc'.1.2)) fun D σ H ⟨ρ, E, F, k0, f0, en, pa, g, n⟩ => ?_
      dsimp only [stepS1] at g
      rw [hs] at g
      dsimp only at g
      rw [hc] at g
      obtain ⟨d, hd, g⟩ := getK_of o.hG (show G (getK ρ i _) from g)
      obtain ⟨pu, g⟩ := puK_of o.hG g
      obtain ⟨v, hv, r⟩ := Ens.get _ _ _ _ _ en hd
      refine ⟨v, hv, ρ, _, F, k0, f0, en, g, fun y ρ1 w H1 Fe c1 v1 _ g1 => ?_⟩
      obtain ⟨Fy, hy⟩ := v1.any
      refine ⟨d, y, F0, Fy, _, Rp.stay c1.kp _ _ _ (fun _ z => z.elim) (Rp.pure _ _ _ pu r), hy, g1, fun z zv H2 Fz kp fr rp g2 => ?_⟩
      have c1' := c1.grow kp
      have ow := c1.val kp fr rp
      obtain ⟨en2, pa2, g3⟩ := set_ok S o vs c1'.en ow.rp ow.dj (pa.imp c1.im) g2
      exact n.nx _ _ H2 _ c1'.kp (fun a z => z.elim (c1'.fr a) (ow.fr a)) en2 pa2 g3
theorem s_if (c : Expr) (a b : List Stmt) (p : Pos) : PS X (.If c a b p) (RdS X.K G A0 H0 C.np vs (stepS1 R C sc (.If c a b p))) := by
  refine PS.imp (ps_if (S.T o c) (S.S o vs a) (S.S o vs b)) fun D σ H ⟨ρ, E, F, k0, f0, en, pa, g, n⟩ => ?_
  refine ⟨ρ, _, F, k0, f0, en, g, fun t ρ1 H1 Fe c1 g1 => ?_⟩
  dsimp only
  cases t with
  | true =>
    rw [if_pos rfl]
    exact ⟨ρ1, E, Fe, c1.keep k0 f0, c1.from k0 f0, c1.en, pa.imp c1.im, g1, n.shift c1.kp c1.fr⟩
  | false =>
    rw [if_neg (by decide)]
    exact ⟨ρ1, E, Fe, c1.keep k0 f0, c1.from k0 f0, c1.en, pa.imp c1.im, g1, n.shift c1.kp c1.fr⟩
theorem s_while (c : Expr) (body : List Stmt) (p : Pos) : PS X (.While c body [] p) (RdS X.K G A0 H0 C.np vs (stepS1 R C sc (.While c body [] p))) := by
  refine PS.imp (ps_while o.pas (S.T o c) (S.S o vs body)) fun D σ H ⟨ρ, E, F, k0, f0, en, pa, g, n⟩ => ?_
  refine ⟨fun m σ' H' => ∃ ρa Fa, Keep F H H' ∧ Fr F H Fa ∧ Ens X.K H' ρa σ' Fa ∧ Par C.np vs σ' ρa ∧ G (whileC (fun ρ1 k => R.T C sc c ρ1 k) (fun ρ1 E2 => R.S C sc body ρ1 E2) m ρa E), ⟨C.wf, ρ, F, Keep.refl _ _, Fr.refl _ _, en, pa, g⟩, fun m σ1 H1 hw => ?_⟩
  obtain ⟨ρa, Fa, kp, fr, ena, paa, ga⟩ := hw
  cases m with
  | zero => exact absurd ga o.hG
  | succ m =>
    have kA := k0.trans kp f0
    have fA := f0.trans k0 fr
    refine ⟨ρa, _, Fa, kA, fA, ena, ga, fun t ρ1 H2 Fe c1 g1 => ?_⟩
    have kp2 := kp.trans c1.kp fr
    have fr2 := fr.trans kp c1.fr
    dsimp only
    cases t with
    | false =>
      rw [if_neg (by decide)]
      exact n.nx ρ1 σ1 H2 Fe kp2 fr2 c1.en (paa.imp c1.im) g1
    | true =>
      rw [if_pos rfl]
      have nn : ∀ ρ' σ' H' F', Keep Fe H2 H' → Fr Fe H2 F' → Ens X.K H' ρ' σ' F' → Par C.np vs σ' ρ' → G (whileC (fun ρ1 k => R.T C sc c ρ1 k) (fun ρ1 E2 => R.S C sc body ρ1 E2) m ρ' E) → (∃ ρa Fa, Keep F H H' ∧ Fr F H Fa ∧ Ens X.K H' ρa σ' Fa ∧ Par C.np vs σ' ρa ∧ G (whileC (fun ρ1 k => R.T C sc c ρ1 k) (fun ρ1 E2 => R.S C sc body ρ1 E2) m ρa E)) :=
        fun ρ' σ' H' F' k f e pp gg => ⟨ρ', F', kp2.trans k fr2, fr2.trans kp2 f, e, pp, gg⟩
      have n2 := n.shift kp2 fr2
      exact ⟨fun σ' H' => ∃ ρa Fa, Keep F H H' ∧ Fr F H Fa ∧ Ens X.K H' ρa σ' Fa ∧ Par C.np vs σ' ρa ∧ G (whileC (fun ρ1 k => R.T C sc c ρ1 k) (fun ρ1 E2 => R.S C sc body ρ1 E2) m ρa E), fun σ' H' h' => ⟨m, Nat.lt_succ_self m, h'⟩,
        ρ1, _, Fe, kA.trans c1.kp fA, fA.trans kA c1.fr, c1.en, paa.imp c1.im, g1, ⟨nn, n2.nx, nn, n2.rt⟩⟩
theorem s_for (tg it : Expr) (body : List Stmt) (p : Pos) : PS X (.For tg it body [] p) (RdS X.K G A0 H0 C.np vs (stepS1 R C sc (.For tg it body [] p))) := by
  cases hi : isSet it with
  | true =>
    refine ps_bad fun D σ H ⟨ρ, E, F, k0, f0, en, pa, g, n⟩ => ?_
    dsimp only [stepS1] at g
    rw [hi] at g
    exact absurd g o.hG
  | false =>
    refine PS.imp (ps_for o.pas o.calm (i_iterF S o tg it) (S.G o tg) (S.S o vs body) (fold_ok hi _)) fun D σ H ⟨ρ, E, F, k0, f0, en, pa, g, n⟩ => ?_
    dsimp only [stepS1] at g
    rw [hi] at g
    replace g : G (iterF R C sc tg it ρ fun ds ρ1 => forC (fun d ρ2 E2 => R.G C sc tg d ρ2 fun ρ3 => R.S C sc body ρ3 E2) ds ρ1 E) := g
    refine ⟨ρ, _, F, k0, f0, en, g, fun ds ρ1 J H1 Fe B c1 src trB djB pds g1 => ?_⟩
    have n1 := n.shift c1.kp c1.fr
    have kA1 := c1.keep k0 f0
    have fA1 := c1.from k0 f0
    let W : Nat → Nat → L2.St → Hp → Prop := fun i m σ' H' => i ≤ ds.length ∧ m = ds.length - i ∧ ∃ ρa Fa, Keep Fe H1 H' ∧ Fr Fe H1 Fa ∧ Dis Fa B ∧ Ens X.K H' ρa σ' Fa ∧ Par C.np vs σ' ρa ∧ G (forC (fun d ρ2 E2 => R.G C sc tg d ρ2 fun ρ3 => R.S C sc body ρ3 E2) (ds.drop i) ρa E)
    refine ⟨W, ⟨ds.length, Nat.zero_le _, rfl, ρ1, Fe, Keep.refl _ _, Fr.refl _ _, djB, c1.en, pa.imp c1.im, g1⟩, fun i m σ2 H2 hw => ?_⟩
    obtain ⟨hle, rfl, ρa, Fa, kp, fr, djA, ena, paa, ga⟩ := hw
    have kpB : Keep (fun a => ¬ B a) H1 H2 := kp.mono fun a z w => djB a z w
    have kA := kA1.trans kp fA1
    have fA := fA1.trans kA1 fr
    have n2 := n1.shift kp fr
    by_cases hlt : i < ds.length
    · refine .inr ⟨src.go H2 kpB i hlt, fun σ' H' => W (i + 1) (ds.length - (i + 1)) σ' H', fun σ' H' h' => ⟨ds.length - (i + 1), by omega, h'⟩, fun x H' hy => ?_⟩
      obtain ⟨kpn, d, hd, rd⟩ := src.yld H2 kpB i x H' hy hlt
      replace kp := kp.trans kpn (fun _ z => z.elim)
      replace ena := Ens.stay kpn _ _ _ (fun _ _ z => z) ena
      have kA := kA1.trans kp fA1
      have n2 := n1.shift kp fr
      have hdrop : ds.drop i = d :: ds.drop (i + 1) := by
        rw [List.drop_eq_getElem_cons hlt]
        rw [List.getElem?_eq_getElem hlt] at hd
        cases hd; rfl
      rw [hdrop] at ga
      have pud : d.pu = true := pus_get pds hd
      refine ⟨ρa, _, Fa, d, F0, ena, rd, fun _ _ z => z, ga, fun ρ3 σ3 F3 f3 en3 sl3 im3 pa3 g3 => ?_⟩
      have hF3 : ∀ a, F3 a → Fa a := fun a z => (f3 a z).elim id fun z => z.elim
      have nn : ∀ ρ' σ' H4 F', Keep F3 H' H4 → Fr F3 H' F' → Ens X.K H4 ρ' σ' F' → Par C.np vs σ' ρ' → G (forC (fun d ρ2 E2 => R.G C sc tg d ρ2 fun ρ3 => R.S C sc body ρ3 E2) (ds.drop (i + 1)) ρ' E) → W (i + 1) (ds.length - (i + 1)) σ' H4 :=
        fun ρ' σ' H4 F' k f e pp gg => ⟨hlt, rfl, ρ', F', kp.trans k (fr.sub hF3), (fr.sub hF3).trans kp f, fun a z w => (f a z).elim (fun y => djA a (hF3 a y) w) fun y => trB a w (kp.g a y), e, pp, gg⟩
      have n3 := n2.shift (Keep.refl _ _) (F' := F3) fun a z => .inl (hF3 a z)
      exact ⟨ρ3, _, F3, kA, fA.sub hF3, en3, pa3 vs paa, g3, ⟨nn, n3.nx, nn, n3.rt⟩⟩
    · have : i = ds.length := by omega
      subst this
      rw [List.drop_length] at ga
      exact .inl ⟨src.stop H2 kpB, n2.nx ρa σ2 H2 Fa (Keep.refl _ _) (Fr.refl _ _) ena paa ga⟩
theorem s_raise (c : Str) (cp p p2 : Pos) (a : Expr) (r : List Expr) : PS X (.Raise (some (.Call (.Name c cp) (a :: r) [] p)) none p2) (RdS X.K G A0 H0 C.np vs (stepS1 R C sc (.Raise (some (.Call (.Name c cp) (a :: r) [] p)) none p2))) := by
  cases hg : globOf C sc c with
  | cls ps =>
    have red : ∀ ρ E, ckK (noStar (a :: r)) (R.A C sc (a :: r) ρ fun as ρ1 => resP as ρ1 fun ds => pusK ds (ckK (decide (ds.length = ps.length) && decide (ps.length ≤ 100)) (C.xc c (ps.zip ds) ρ1))) = stepS1 R C sc (.Raise (some (.Call (.Name c cp) (a :: r) [] p)) none p2) ρ E := fun ρ E => by
      show _ = (match globOf C sc c with
        | .cls ps => _
        | _ => _)
      rw [hg]
    cases hst : noStar (a :: r) with
    | false =>
      refine ps_bad fun D σ H ⟨ρ, E, F, k0, f0, en, pa, g, n⟩ => ?_
      replace g := (red ρ E).symm ▸ g
      rw [hst] at g
      exact absurd g o.hG
    | true =>
      obtain ⟨g1, g2, g3⟩ := globOf_of hg (fun z => nomatch z)
      obtain ⟨n1, n2, n3⟩ := okName_of g2
      have XC := o.cls c ps g3
      obtain ⟨Ca, fI, fd, k, T, iC, tI, F1, hr, hb, hm, her⟩ := XC.ex
      obtain ⟨h1, h2⟩ := star_cons hst X.env
      refine PS.imp (ps_raise o.calm XC.tk (pmk_oex (CX := CX0) T iC tI F1 hr hb .nil (fun _ _ _ _ _ _ _ z => z.elim) (o.toCok.glx g1) hm (S.A o (a :: r)) n1 h1 (star_any h2 _ _))) fun D σ H ⟨ρ, E, F, k0, f0, en, pa, g, n⟩ => ?_
      replace g := (red ρ E).symm ▸ g
      rw [hst] at g
      replace g : G (R.A C sc (a :: r) ρ _) := g
      refine ⟨ρ, _, F, k0, f0, en, g, fun as ρ1 us H1 Fe Fv c1 fr dj tr ar g1 => ?_⟩
      obtain ⟨ds, hds, g1⟩ := resP_of o.hG ar c1.en g1
      obtain ⟨pu, g1⟩ := pusK_of o.hG g1
      obtain ⟨hl, g1⟩ := ckK_of o.hG g1
      rw [Bool.and_eq_true, decide_eq_true_eq, decide_eq_true_eq] at hl
      have ul := Rps.length _ _ _ hds
      refine ⟨by omega, fun e he => ⟨e, us ++ [], rfl, by rw [List.append_nil]; omega, upd_same, fun d fs H' hd hne hea hdx hlk hkp => ⟨rfl, d, fs, hea, hdx, ?_, ?_⟩⟩⟩
      · rw [upd_ne hne] at hd; exact hd
      · rw [upd_ne hne] at hd
        rw [List.append_nil] at hlk
        have same : ∀ b, b ≠ e → b ≠ d → (upd (del H' e) d (.xd fs)) b = H1 b := fun b hb hb2 => by
          rw [upd_ne hb2, del_ne hb, hkp b hb hb2, upd_ne hb]
        have kp : Keep F0 H1 (upd (del H' e) d (.xd fs)) := ⟨fun b u e1 _ => by
            rw [same b (ne_of_none e1 he) (ne_of_none e1 hd)]; exact e1, fun b e1 => by
            by_cases hb : b = e
            · rw [hb]; exact he
            · by_cases hb2 : b = d
              · rw [hb2]; exact hd
              · rw [same b hb hb2] at e1; exact e1⟩
        refine o.xco c (ps.zip ds) ρ1 g1 (.ref Ca) (some d) _ ((c1.grow kp).keep k0 f0) (her ds us d fs _ hl.1 pu ?_ upd_same hlk)
        exact Rps.stay kp _ _ _ (fun _ z => z.elim) (Rps.pure _ _ _ pu hds)
  | _ =>
    refine ps_bad fun D σ H ⟨ρ, E, F, k0, f0, en, pa, g, n⟩ => ?_
    replace g : G (match globOf C sc c with
      | .cls ps => _
      | _ => .stuck) := g
    rw [hg] at g
    exact absurd g o.hG
theorem s_step1 (st : Stmt) : PS X st (RdS X.K G A0 H0 C.np vs (stepS1 R C sc st)) := by
  cases st with
  | Pass p => exact s_pass S o vs p
  | Break p => exact s_break S o vs p
  | Continue p => exact s_cont S o vs p
  | Expr e p => exact s_expr S o vs e p
  | Return e p =>
    cases e with
    | none => exact s_retN S o vs p
    | some e =>
      cases e with
      | Name x xp => exact s_retV S o vs x xp p
      | IfExp t a b ip => exact s_retIf S o vs t a b ip p
      | _ => exact s_ret S o vs _ p
  | Assign tgs e p =>
    match tgs with
    | [] => exact s_stuck o vs
    | _ :: _ :: _ => exact s_stuck o vs
    | [tg] =>
      cases tg with
      | Name x xp => exact s_setN S o vs x xp p e
      | Tuple es m tp => exact s_setT S o vs es m tp p e
      | Subscript b i tp =>
        cases b with
        | Name x xp => exact s_setI S o vs x xp tp p i e
        | _ => exact s_stuck o vs
      | _ => exact s_stuck o vs
  | AugAssign tg op e p =>
    cases tg with
    | Name x xp => exact s_aug S o vs x xp p op e
    | _ => exact s_stuck o vs
  | If c a b p => exact s_if S o vs c a b p
  | For tg it body els p =>
    cases els with
    | nil => exact s_for S o vs tg it body p
    | cons _ _ => exact s_stuck o vs
  | While c body els p =>
    cases els with
    | nil => exact s_while S o vs c body p
    | cons _ _ => exact s_stuck o vs
  | Raise e ca p =>
    cases hr : raiseOf e ca with
    | none =>
      refine ps_bad fun D σ H ⟨ρ, E, F, k0, f0, en, pa, g, n⟩ => ?_
      dsimp only [stepS1] at g
      rw [hr] at g
      exact absurd g o.hG
    | some t =>
      obtain ⟨cp, q, rfl, rfl⟩ : ∃ cp q, e = some (.Call (.Name t.1 cp) (t.2.1 :: t.2.2) [] q) ∧ ca = none := by
        unfold raiseOf at hr
        split at hr
        · cases hr; exact ⟨_, _, rfl, rfl⟩
        · cases hr
      exact s_raise S o vs t.1 cp q p t.2.1 t.2.2
  | _ => exact s_stuck o vs
theorem s_step (ss : List Stmt) : PSs X ss (RdS X.K G A0 H0 C.np vs (stepS R C sc ss)) := by
  cases ss with
  | nil => exact PSs.imp pss_nil fun D σ H ⟨ρ, E, F, k0, f0, en, pa, g, n⟩ => n.nx ρ σ H F (Keep.refl _ _) (Fr.refl _ _) en pa g
  | cons st r =>
    refine PSs.imp (pss_cons (s_step1 S o vs st) (S.S o vs r)) fun D σ H ⟨ρ, E, F, k0, f0, en, pa, g, n⟩ => ?_
    exact ⟨ρ, _, F, k0, f0, en, pa, g, ⟨fun ρ' σ' H' F' k f e pp gg => ⟨ρ', E, F', k0.trans k f0, f0.trans k0 f, e, pp, gg, n.shift k f⟩, n.bk, n.ct, n.rt⟩⟩
end
theorem snd_step {R : Fns} (S : Snd R) : Snd (step R) where
  E := fun o e => e_step S o e
  T := fun o e => t_step S o e
  W := fun o op vs p => w_step S o op vs p
  A := fun o es => a_step S o es
  P := fun o e => p_step S o e
  G := fun o e => g_step S o e
  S := fun o vs ss => s_step S o vs ss
theorem snd_dead : Snd dead where
  E := fun o e => pe_bad fun σ H Q ⟨ρ, k, F, k0, f0, en, g, q⟩ => absurd g o.hG
  T := fun o e => t_stuck o
  W := fun o op vs p => w_bad o
  A := fun o es => a_stuck o
  P := fun o e => CwR.PET.of (pe_bad fun σ H Q ⟨ρ, k, F, k0, f0, en, g, q⟩ => absurd g o.hG)
  G := fun o e => pg_bad fun v σ H Q ⟨ρ, k, F, d, Fv, en, rp, dj, g, q⟩ => absurd g o.hG
  S := fun o vs ss => ⟨fun pins s σ H D I ⟨ρ, E, F, k0, f0, en, pa, g, n⟩ => absurd g o.hG⟩
theorem snd_ev : ∀ n, Snd (ev n)
  | 0 => snd_dead
  | n + 1 => snd_step (snd_ev n)
end TI
set_option Elab.async false
set_option linter.all false
set_option maxRecDepth 100000
set_option maxHeartbeats 4000000
/-! defs -/
namespace TI
open PySem PySem.Spec PyProof.Rows L2



theorem fin_ok {K : PySem.W.Frag} {H : Hp} : ∀ (vs : List V) (ρ : Env) (σ : L2.St) (F : Fp), Ens K H ρ σ F → (∀ (i : Nat) d, i < vs.length → ρ[i]? = some (some d) → d.pu = false → ∃ v, vs[i]? = some v ∧ σ[i]? = some (some v)) →
    Ens K H (finOf vs.length ρ) (vs.map some) F
  | [], ρ, σ, F, h, p => rfl
  | v :: vs, [], σ, F, h, p => by
    have e : σ = [] := h
    subst e
    exact ⟨some v, vs.map some, rfl, fin_ok vs [] [] F rfl fun i d hi e => by simp at e⟩
  | v :: vs, none :: ρ, σ, F, h, p => by
    obtain ⟨o, τ, rfl, h⟩ := h
    exact ⟨some v, vs.map some, rfl, fin_ok vs ρ τ F h fun i d hi e pu => p (i + 1) d (by simpa using hi) e pu⟩
  | v :: vs, some d :: ρ, σ, F, h, p => by
    obtain ⟨w, τ, G1, G2, rfl, hd, h, s1, s2, dj⟩ := h
    have ih := fin_ok vs ρ τ G2 h fun i d hi e pu => p (i + 1) d (by simpa using hi) e pu
    show Ens K H (fin1 (some d) :: finOf vs.length ρ) _ F
    cases pu : d.pu with
    | true =>
      have e : fin1 (some d) = none := by show (match d.pu with | true => none | false => some d) = _; rw [pu]
      rw [e]
      exact ⟨some v, vs.map some, rfl, Ens.mono _ _ _ _ s2 ih⟩
    | false =>
      have e : fin1 (some d) = some d := by show (match d.pu with | true => none | false => some d) = _; rw [pu]
      rw [e]
      obtain ⟨v', hv, hw⟩ := p 0 d (by simp) rfl pu
      simp at hv hw
      subst hv; subst hw
      exact ⟨_, vs.map some, G1, G2, rfl, hd, ih, s1, s2, dj⟩
theorem ens_none {K : PySem.W.Frag} {H : Hp} : ∀ (n : Nat), Ens K H (List.replicate n none) (List.replicate n none) F0
  | 0 => rfl
  | n + 1 => ⟨none, _, rfl, ens_none n⟩
theorem ens_start {K : PySem.W.Frag} {H : Hp} (n : Nat) : ∀ {ds : List D} {vs : List V} {F : Fp}, Rps K H ds vs F → Ens K H (ds.map some ++ List.replicate n none) (vs.map some ++ List.replicate n none) F
  | [], vs, F, h => by
    rw [show vs = [] from h]
    exact Ens.mono _ _ _ _ (fun _ z => z.elim) (ens_none n)
  | d :: ds, vs, F, h => by
    obtain ⟨v, ws, G1, G2, rfl, h1, h2, s1, s2, dj⟩ := h
    exact ⟨v, _, G1, G2, rfl, h1, ens_start n h2, s1, s2, dj⟩
/-- what the names of the text are, by the facts of the head -/
structure GOk (K : PySem.W.Frag) (w : World) (mg : Str → Option Value) (glo : Str → Glo) : Prop where
  bi : ∀ x, glo x = .bi → mg x = none
  con : ∀ x d, glo x = .con d → d.pu = true ∧ ∃ u v, mg x = some u ∧ RelV v u ∧ ∀ H, Rp K H d v F0
  kd : ∀ x kvs, glo x = .kd kvs → ∃ a es n, mg x = some (.ref a) ∧ KDict K w a es n ∧ ∀ z, ∃ r, PySem.W.nsIn K a z = some r ∧ (match kvs.lookup z with
    | none => r = none
    | some d => d.pu = true ∧ ∃ u v, r = some u ∧ RelV v u ∧ ∀ H, Rp K H d v F0)
  mth : ∀ x id, glo x = .mth id → mg x = some (.builtin id)
section
variable {P : Program} {w : World} {K : PySem.W.Frag} {mg : Str → Option Value} {base : Heap} {cx : CXT} {er : Er}
/-- how an exception goes on -/
structure XOk (cx : CXT) (P : Program) (w : World) (K : PySem.W.Frag) (mg : Str → Option Value) (base : Heap) : Prop where
  th : ∀ N qual scope f cdv A outer s H E, Passes cx (cxOf cx P w K mg base N qual scope f cdv A outer s H E) E
  cn : ∀ st H s e s', cx st H s (fun _ _ _ => False) e s' → False
theorem xok0 : XOk L2.CX0 P w K mg base := ⟨fun _ _ _ _ _ _ _ _ _ _ => fun _ _ _ _ _ _ _ z => z.elim, fun _ _ _ _ _ z => z⟩
/-- an own exception class, by the head's facts -/
def ExcF (P : Program) (w : World) (K : PySem.W.Frag) (mg : Str → Option Value) (base : Heap) (er : Er) (x : Str) (ps : List Str) : Prop :=
  ∃ (Ca fI : Addr) (fd : FuncData), OexC K Ca ∧ PySem.W.findIn K (.ref Ca) "__init__" = some (some (.ref fI)) ∧ PySem.W.typeIn K (.ref fI) = some (.type "function") ∧ FnOk P w K mg base CX0 1 fI fd ("self" :: ps) (spI Ca ps) ∧
    Binds K fd ("self" :: ps) [] ∧ mg x = some (.ref Ca) ∧ ∀ (ds : List D) (vs : List V) (d : Addr) (fs : List (Str × V)) (H : Hp), ds.length = ps.length → D.pus ds = true → Rps K H ds vs F0 → H d = some (.xd fs) → (∀ f, fs.lookup f = (ps.zip vs).lookup f) → er x (ps.zip ds) (.ref Ca) (some d) H
structure XTk (cx : CXT) (P : Program) (w : World) (K : PySem.W.Frag) (mg : Str → Option Value) (base : Heap) : Prop where
  tk : ∀ N qual scope f cdv A outer s H E, Takes (cxOf cx P w K mg base N qual scope f cdv A outer s H E) fun cls d _ H' => E cls d H'
theorem xtk : XTk (L2.CX P w) P w K mg base := ⟨fun _ _ _ _ _ _ _ _ _ _ => takes_of rfl rfl rfl rfl⟩
theorem xokX : XOk (L2.CX P w) P w K mg base := ⟨fun _ _ _ _ _ _ _ _ _ _ => passes_call (takes_of rfl rfl rfl rfl) fun _ _ _ _ h => h, fun _ _ _ _ _ ⟨_, _, _, _, _, _, _, _, _, _, _, _, z⟩ => z⟩
theorem run_ok (xo : XOk cx P w K mg base) {x qual : Str} {params : Arguments} {kws : List (Str × V)} {f : Addr} {fd : FuncData} {d : Df} (F : FunD K x qual params d.body d.sc [] kws f fd) (FS : FnScope d.N (d.N.take d.np) d.sc) (hnp : (d.N.take d.np).length = d.np) (glo : Str → Glo) (call : Str → List D → Res) (lim wf m n : Nat) (h2n : 2 ≤ n) (hlim : LimOk K lim) (hcls : ∀ x ps, glo x = .cls ps → ExcF P w K mg base er x ps ∧ XTk cx P w K mg base)
    (go : GOk K w mg glo) (hfn : ∀ y k, glo y = .fn k → ∃ (fa : Addr) (fdy : FuncData) (ps : List Str), ps.length = k ∧ FnOk P w K mg base cx n fa fdy ps (SpD K er k (call y)) ∧ mg y = some (.ref fa) ∧ PySem.W.keepIn K (.ref fa) = true ∧ Binds K fdy ps [] ∧ PySem.W.nsIn K mainGlobals y = some (some (.ref fa))) :
    FnOk P w K mg base cx (n + 1) f fd (d.N.take d.np) (SpD K er d.np (runD glo call lim wf m d)) := by
  refine F.ok FS (fun vs H Q E h => by rw [hnp]; exact h.1) (fun cdv A outer s H vs Q E hr h => ?_)
  obtain ⟨hl, ds, Fa, hds, hg⟩ := h
  have ok : Okx (cxOf cx P w K mg base d.N qual d.sc f cdv A outer s H E) (cdOf glo call lim wf d) d.sc cx er E (fun r => RGood K er Fa H vs r Q E) Fa H := {
    hN := rfl
    nd := FS.nd
    hsc := rfl
    calm := rfl
    own := fun x _ _ => .inl rfl
    bi := go.bi
    con := go.con
    kd := go.kd
    fn := fun y k hy => by
      obtain ⟨fa, fdy, ps, h1, h2, h3, h4, h5, h6⟩ := hfn y k hy
      exact ⟨fa, n, fdy, ps, h1, h2, hr, h3, h4, h5, h6⟩
    mth := go.mth
    pas := L2.passes_of (K := fun e s'' => cx outer H s E e s'') rfl
    thr := xo.th _ _ _ _ _ _ _ _ _ _
    cxn := xo.cn
    room := by have := hr.un; show (A.deeper _).units + 65 < cLine; omega
    lim := hlim
    cls := fun x ps hx => by
      obtain ⟨⟨Ca, fI, fd, e1, e2, e3, e4, e5, e6, e7⟩, tk⟩ := hcls x ps hx
      exact ⟨⟨Ca, fI, fd, 1, e1, e2, e3, e4, hr.mono h2n, e5, e6, e7⟩, tk.tk _ _ _ _ _ _ _ _ _ _⟩
    hG := fun z => z
    xco := fun c fs ρ g => g }
  refine ⟨_, (snd_ev m).S ok vs d.body, env0 d ds, nx0 d.np, Fa, Keep.refl _ _, Fr.refl _ _, ?_, fun i dd hi e pu => ?_, hg, ⟨fun ρ' σ' H' F' kp fr en pa g => ?_, fun ρ' σ' H' F' kp fr en pa g => g.elim, fun ρ' σ' H' F' kp fr en pa g => g.elim, fun dd ρ' σ' v H' F' Fv kp fr fv dj en pa rp g => ?_⟩⟩
  · have := ens_start (K := K) (H := H) (d.N.length - ds.length) hds
    unfold env0 L2.start
    rw [Rps.length _ _ _ hds]
    exact this
  · have hlen := Rps.length _ _ _ hds
    have hi' : i < vs.length := by rw [hl]; exact hi
    refine ⟨vs[i], List.getElem?_eq_getElem hi', ?_⟩
    unfold L2.start
    rw [List.getElem?_append_left (by simpa using hi'), List.getElem?_map, List.getElem?_eq_getElem hi']
    rfl
  · refine g .non H' F0 F' kp (fun _ z => z.elim) fr (fun _ _ z => z) rfl ?_
    have := fin_ok vs ρ' σ' F' en (fun i d0 hi e p => pa i d0 (by show i < d.np; rw [← hl]; exact hi) e p)
    rw [hl] at this
    exact this
  · refine g v H' Fv F' kp fv fr dj rp ?_
    have := fin_ok vs ρ' σ' F' en (fun i d0 hi e p => pa i d0 (by show i < d.np; rw [← hl]; exact hi) e p)
    rw [hl] at this
    exact this
/-- a def of the text keeps what the evaluator tells -/
def FnIs (P : Program) (w : World) (K : PySem.W.Frag) (mg : Str → Option Value) (base : Heap) (cx : CXT) (er : Er) (p : Str × Df) : Prop :=
  ∃ (fa : Addr) (fd : FuncData) (x qual : Str) (params : Arguments) (kws : List (Str × V)), mg p.1 = some (.ref fa) ∧ Binds K fd (p.2.N.take p.2.np) [] ∧ FunD K x qual params p.2.body p.2.sc [] kws fa fd ∧ FnScope p.2.N (p.2.N.take p.2.np) p.2.sc ∧ (p.2.N.take p.2.np).length = p.2.np ∧ PySem.W.nsIn K mainGlobals p.1 = some (some (.ref fa))
def ExtIs (P : Program) (w : World) (K : PySem.W.Frag) (mg : Str → Option Value) (base : Heap) (cx : CXT) (er : Er) (b : Nat) (p : Str × Nat × (List D → Res)) : Prop :=
  ∃ (fa : Addr) (fd : FuncData) (ps : List Str), ps.length = p.2.1 ∧ mg p.1 = some (.ref fa) ∧ PySem.W.keepIn K (.ref fa) = true ∧ Binds K fd ps [] ∧ FnOk P w K mg base cx b fa fd ps (SpD K er p.2.1 p.2.2) ∧ PySem.W.nsIn K mainGlobals p.1 = some (some (.ref fa))
theorem lookup_mem {α : Type} {l : List (Str × α)} {x : Str} {k : α} (h : l.lookup x = some k) : (x, k) ∈ l := by
  induction l with
  | nil => simp at h
  | cons y l ih =>
    obtain ⟨n, k'⟩ := y
    cases e : x == n with
    | true =>
      simp only [List.lookup_cons, e] at h
      cases h
      rw [eq_of_beq e]
      exact List.mem_cons_self
    | false =>
      simp only [List.lookup_cons, e] at h
      exact List.mem_cons_of_mem _ (ih h)
theorem fn_never {k : Nat} {fa : Addr} {fd : FuncData} {ps : List Str} {np : Nat} (h : ps.length = np) : FnOk P w K mg base cx k fa fd ps (SpD K er np fun _ => .stuck) :=
  ⟨fun vs H Q E q => by rw [h]; exact q.1, fun A outer s H args us vs Q E _ _ _ _ q => by obtain ⟨_, _, _, _, z⟩ := q; exact z.elim⟩
theorem glo_fn {T : Tab} {y : Str} {k : Nat} (h : T.glo y = .fn k) : (∃ d, T.fns.lookup y = some d ∧ d.np = k) ∨ (T.fns.lookup y = none ∧ ∃ g, T.exts.lookup y = some g ∧ g.1 = k) := by
  unfold Tab.glo at h
  cases e : T.fns.lookup y with
  | some d => rw [e] at h; cases h; exact .inl ⟨d, rfl, rfl⟩
  | none =>
    rw [e] at h
    dsimp only at h
    cases e2 : T.exts.lookup y with
    | some g => rw [e2] at h; cases h; exact .inr ⟨rfl, g, rfl, rfl⟩
    | none =>
      rw [e2] at h
      dsimp only at h
      split at h <;> first
        | cases h
        | (split at h <;> cases h)
theorem all_ok (xo : XOk cx P w K mg base) {T : Tab} {b : Nat} (hb2 : 2 ≤ b) (hlim : LimOk K T.lim) (go : GOk K w mg T.glo) (hcls : ∀ x ps, T.glo x = .cls ps → ExcF P w K mg base er x ps ∧ XTk cx P w K mg base) (hf : ∀ p ∈ T.fns, FnIs P w K mg base cx er p) (he : ∀ p ∈ T.exts, ExtIs P w K mg base cx er b p) (wf m : Nat) :
    ∀ (n : Nat) y k, T.glo y = .fn k → ∃ (fa : Addr) (fdy : FuncData) (ps : List Str), ps.length = k ∧ FnOk P w K mg base cx (n + b) fa fdy ps (SpD K er k (T.call wf m n y)) ∧ mg y = some (.ref fa) ∧ PySem.W.keepIn K (.ref fa) = true ∧ Binds K fdy ps [] ∧ PySem.W.nsIn K mainGlobals y = some (some (.ref fa))
  | 0, y, k, h => by
    rcases glo_fn h with ⟨d, hd, rfl⟩ | ⟨_, g, hg, rfl⟩
    · obtain ⟨fa, fd, x, qual, params, kws, h1, h2, h3, h4, h5, h6⟩ := hf _ (lookup_mem hd)
      exact ⟨fa, fd, _, h5, fn_never h5, h1, h3.kp, h2, h6⟩
    · obtain ⟨fa, fd, ps, h1, h2, h3, h4, h5, h6⟩ := he _ (lookup_mem hg)
      exact ⟨fa, fd, ps, h1, fn_never h1, h2, h3, h4, h6⟩
  | n + 1, y, k, h => by
    rcases glo_fn h with ⟨d, hd, rfl⟩ | ⟨hn, g, hg, rfl⟩
    · obtain ⟨fa, fd, x, qual, params, kws, h1, h2, h3, h4, h5, h6⟩ := hf _ (lookup_mem hd)
      have e : T.call wf m (n + 1) y = runD T.glo (T.call wf m n) T.lim wf m d := by
        funext ds
        show (match T.fns.lookup y with | some d => runD T.glo (T.call wf m n) T.lim wf m d ds | none => _) = _
        rw [hd]
      rw [e, show n + 1 + b = (n + b) + 1 by omega]
      exact ⟨fa, fd, _, h5, run_ok xo h3 h4 h5 T.glo _ T.lim wf m (n + b) (by omega) hlim hcls go (all_ok xo hb2 hlim go hcls hf he wf m n), h1, h3.kp, h2, h6⟩
    · obtain ⟨fa, fd, ps, h1, h2, h3, h4, h5, h6⟩ := he _ (lookup_mem hg)
      have e : T.call wf m (n + 1) y = g.2 := by
        funext ds
        show (match T.fns.lookup y with | some d => runD T.glo (T.call wf m n) T.lim wf m d ds | none => match T.exts.lookup y with | some g => g.2 ds | none => .stuck) = _
        rw [hn, hg]
      rw [e]
      exact ⟨fa, fd, ps, h1, h5.mono (by omega), h2, h3, h4, h6⟩
end
end TI
set_option Elab.async false
set_option linter.all false
set_option maxRecDepth 100000
set_option maxHeartbeats 4000000
/-! the head's facts for the evaluator -/
namespace TI
open PySem PySem.Spec PyProof.Rows L2
section
variable {P : Program} {w : World} {K : PySem.W.Frag} {mg : Str → Option Value} {base h : Heap} {cx : CXT} {er : Er}
theorem fn_is (X : K.In h) (G : h.Ns mainGlobals mg) {nm : Str} {st : Stmt} {d : Df} (hb : d.body = defBody st) (hs : d.sc = defScope st) (cg : (He.Fa.glo nm).ok K = true) (F : ∃ fd, FunD K nm nm (defArgs st) (defBody st) (defScope st) [] [] (He.ga K nm) fd)
    (S : FnScope d.N (d.N.take d.np) d.sc) (hl : (d.N.take d.np).length = d.np)
    (hbind : ∀ (kV doc pm : Value) (an : Option Addr) (cdv ct : Value) (us : List Value), us.length = (d.N.take d.np).length → bindArgs (PySem.W.fnOf nm nm (defArgs st) (defBody st) (defScope st) .none kV doc pm an cdv ct) ⟨us, []⟩ = pure ((d.N.take d.np).zip us)) :
    FnIs P w K mg base cx er (nm, d) := by
  obtain ⟨fd, F⟩ := F
  refine ⟨He.ga K nm, fd, nm, nm, defArgs st, [], He.glo_ok X G cg, F.bindsN hbind, ?_, S, hl, He.eqO_ok cg⟩
  rw [show (nm, d).2.body = defBody st from hb, show (nm, d).2.sc = defScope st from hs]
  exact F
/-- what a constant, a dict of the top is -/
def ConIs (K : PySem.W.Frag) (w : World) (mg : Str → Option Value) (p : Str × Glo) : Prop := match p.2 with
  | .con d => d.pu = true ∧ ∃ u v, mg p.1 = some u ∧ RelV v u ∧ ∀ H, Rp K H d v F0
  | .kd kvs => ∃ a es n, mg p.1 = some (.ref a) ∧ KDict K w a es n ∧ ∀ z, ∃ r, PySem.W.nsIn K a z = some r ∧ (match kvs.lookup z with
    | none => r = none
    | some d => d.pu = true ∧ ∃ u v, r = some u ∧ RelV v u ∧ ∀ H, Rp K H d v F0)
  | .mth id => mg p.1 = some (.builtin id)
  | _ => True
theorem glo_cls {T : Tab} {x : Str} {d : List Str} (h : T.glo x = .cls d) : T.cons.lookup x = some (.cls d) := by
  unfold Tab.glo at h
  cases e : T.fns.lookup x with
  | some d => rw [e] at h; cases h
  | none =>
    rw [e] at h
    dsimp only at h
    cases e2 : T.exts.lookup x with
    | some g => rw [e2] at h; cases h
    | none =>
      rw [e2] at h
      dsimp only at h
      cases e3 : T.cons.lookup x with
      | none => rw [e3] at h; dsimp only at h; split at h <;> cases h
      | some g => cases g <;> (rw [e3] at h; dsimp only at h; first | (cases h; rfl) | (cases h) | (split at h <;> cases h))
theorem glo_mth {T : Tab} {x : Str} {d : String} (h : T.glo x = .mth d) : T.cons.lookup x = some (.mth d) := by
  unfold Tab.glo at h
  cases e : T.fns.lookup x with
  | some d => rw [e] at h; cases h
  | none =>
    rw [e] at h
    dsimp only at h
    cases e2 : T.exts.lookup x with
    | some g => rw [e2] at h; cases h
    | none =>
      rw [e2] at h
      dsimp only at h
      cases e3 : T.cons.lookup x with
      | none => rw [e3] at h; dsimp only at h; split at h <;> cases h
      | some g => cases g <;> (rw [e3] at h; dsimp only at h; first | (cases h; rfl) | (cases h) | (split at h <;> cases h))
theorem glo_con {T : Tab} {x : Str} {d : D} (h : T.glo x = .con d) : T.cons.lookup x = some (.con d) := by
  unfold Tab.glo at h
  cases e : T.fns.lookup x with
  | some d => rw [e] at h; cases h
  | none =>
    rw [e] at h
    dsimp only at h
    cases e2 : T.exts.lookup x with
    | some g => rw [e2] at h; cases h
    | none =>
      rw [e2] at h
      dsimp only at h
      cases e3 : T.cons.lookup x with
      | none => rw [e3] at h; dsimp only at h; split at h <;> cases h
      | some g => cases g <;> (rw [e3] at h; dsimp only at h; first | (cases h; rfl) | (cases h) | (split at h <;> cases h))
theorem glo_kd {T : Tab} {x : Str} {d : List (Str × D)} (h : T.glo x = .kd d) : T.cons.lookup x = some (.kd d) := by
  unfold Tab.glo at h
  cases e : T.fns.lookup x with
  | some d => rw [e] at h; cases h
  | none =>
    rw [e] at h
    dsimp only at h
    cases e2 : T.exts.lookup x with
    | some g => rw [e2] at h; cases h
    | none =>
      rw [e2] at h
      dsimp only at h
      cases e3 : T.cons.lookup x with
      | none => rw [e3] at h; dsimp only at h; split at h <;> cases h
      | some g => cases g <;> (rw [e3] at h; dsimp only at h; first | (cases h; rfl) | (cases h) | (split at h <;> cases h))
theorem glo_bi {T : Tab} {x : Str} (h : T.glo x = .bi) : x ∈ T.bis := by
  unfold Tab.glo at h
  cases e : T.fns.lookup x with
  | some d => rw [e] at h; cases h
  | none =>
    rw [e] at h
    dsimp only at h
    cases e2 : T.exts.lookup x with
    | some g => rw [e2] at h; cases h
    | none =>
      rw [e2] at h
      dsimp only at h
      have fin : (match T.bis.contains x with | true => Glo.bi | false => Glo.no) = .bi → x ∈ T.bis := by
        intro q
        cases e4 : T.bis.contains x with
        | true => exact List.contains_iff_mem.mp e4
        | false => rw [e4] at q; cases q
      cases e3 : T.cons.lookup x with
      | none => rw [e3] at h; exact fin h
      | some g => cases g <;> (rw [e3] at h; first | exact fin h | cases h)
theorem go_of {T : Tab} (hb : ∀ x ∈ T.bis, mg x = none) (hc : ∀ p ∈ T.cons, ConIs K w mg p) : GOk K w mg T.glo :=
  ⟨fun x h => hb x (glo_bi h), fun x d h => hc _ (lookup_mem (glo_con h)), fun x kvs h => hc _ (lookup_mem (glo_kd h)), fun x id h => hc _ (lookup_mem (glo_mth h))⟩
theorem con_mth (X : K.In h) (G : h.Ns mainGlobals mg) {x : Str} {id : String} (c : He.eqO (PySem.W.nsIn K mainGlobals x) (some (some (.builtin id))) = true) : ConIs K w mg (x, .mth id) := PySem.W.mg_of X G (He.eqO_ok c)
theorem con_str (X : K.In h) (G : h.Ns mainGlobals mg) {x z : Str} (c : (He.Fa.str x z).ok K = true) : ConIs K w mg (x, .con (.str z)) := by
  obtain ⟨t, e⟩ := He.str_ok X G c
  exact ⟨rfl, .str z t, .str z, e, ⟨t, rfl⟩, fun _ => rfl⟩
theorem con_int (X : K.In h) (G : h.Ns mainGlobals mg) {x : Str} {z : Int} (c : (He.Fa.int x z).ok K = true) : ConIs K w mg (x, .con (.int z)) := by
  obtain ⟨t, e⟩ := He.int_ok X G c
  exact ⟨rfl, .int z t, .int z, e, ⟨t, rfl⟩, fun _ => rfl⟩
/-! the dicts of the top -/
open He in
theorem keys_all {P : Params} : ∀ {l : List DictEntry} {ks : List Str}, l.map He.keyOf = keysIn P ks → ∀ e ∈ l, ∃ k t, e.key = .str k t ∧ k ∈ ks
  | [], _, _, e, he => by simp at he
  | a :: r, [], h, _, _ => by cases h
  | a :: r, k :: ks, h, e, he => by
    have h1 : He.keyOf a :: r.map He.keyOf = some (k, PyData.keyHash P k) :: keysIn P ks := h
    injection h1 with h2 h3
    rcases List.mem_cons.mp he with rfl | he
    · unfold He.keyOf at h2
      split at h2
      · rename_i x t q
        obtain ⟨h5, h6⟩ := Prod.mk.inj (Option.some.inj h2)
        exact ⟨x, t, q, by rw [h5]; exact List.mem_cons_self⟩
      · cases h2
    · obtain ⟨k', t, q, hk⟩ := keys_all h3 e he
      exact ⟨k', t, q, List.mem_cons_of_mem _ hk⟩
open He in
theorem ns_out {a : Addr} {ks : List Str} (h : dicW K a = some (keysIn w.params ks)) {z : Str} (hz : z ∉ ks) : PySem.W.nsIn K a z = some none := by
  unfold dicW at h
  split at h
  · rename_i c es n sl q
    split at h
    · have hk := keys_all (Option.some.inj h)
      unfold PySem.W.nsIn
      rw [q]
      dsimp only
      have hf : es.toList.find? (·.key.isStr z) = none := by
        rw [List.find?_eq_none]
        intro e he hs
        obtain ⟨k, t, hk1, hk2⟩ := hk e he
        rw [hk1] at hs
        have : k = z := by simpa [Value.isStr] using hs
        exact hz (this ▸ hk2)
      rw [hf]
      dsimp only
      have ha : es.toList.any (·.refKey) = false := by
        rw [List.any_eq_false]
        intro e he hs
        obtain ⟨k, t, hk1, hk2⟩ := hk e he
        unfold PySem.DictEntry.refKey at hs
        rw [hk1] at hs
        cases hs
      rw [ha]
      rfl
    · cases h
  · cases h
/-- a written value as the text has it -/
def dvD : He.Dv → D
  | .non => .non
  | .bl b => .bl b
  | .int i => .int i
  | .str x => .str x
  | _ => .ty ""
def dvOk : He.Dv → Bool
  | .non => true
  | .bl b => true
  | .int i => true
  | .str x => true
  | _ => false
theorem dv_rp {q : He.Dv} (h : dvOk q = true) : (dvD q).pu = true ∧ ∀ H, Rp K H (dvD q) (q.v K) F0 := by
  cases q <;> first | exact ⟨rfl, fun _ => rfl⟩ | (cases h)
theorem lookup_map {α β : Type} (f : α → β) : ∀ (l : List (Str × α)) (z : Str), (l.map fun q => (q.1, f q.2)).lookup z = (l.lookup z).map f
  | [], z => rfl
  | (y, a) :: l, z => by
    rw [List.map_cons, List.lookup_cons, List.lookup_cons]
    cases z == y with
    | true => rfl
    | false => exact lookup_map f l z
theorem lookup_none {α : Type} : ∀ {l : List (Str × α)} {z : Str}, l.lookup z = none → z ∉ l.map (·.1)
  | [], z, _ => by simp
  | (y, a) :: l, z, h => by
    rw [List.lookup_cons] at h
    cases e : z == y with
    | true => rw [e] at h; cases h
    | false =>
      rw [e] at h
      have := lookup_none h
      simp only [List.map_cons, List.mem_cons, not_or]
      exact ⟨by intro q; subst q; simp at e, this⟩
theorem con_kd (X : K.In h) (G : h.Ns mainGlobals mg) {x : Str} {kvs : List (Str × He.Dv)} (cg : (He.Fa.glo x).ok K = true) (cd : He.dicW K (He.ga K x) = some (He.keysIn w.params (kvs.map (·.1)))) (cv : He.valsB K (He.ga K x) kvs = true) (co : kvs.all (fun q => dvOk q.2) = true) :
    ConIs K w mg (x, .kd (kvs.map fun q => (q.1, dvD q.2))) := by
  obtain ⟨es, n, kd⟩ := He.dicW_ok cd
  refine ⟨He.ga K x, es, n, He.glo_ok X G cg, kd, fun z => ?_⟩
  rw [lookup_map]
  cases e : kvs.lookup z with
  | none => exact ⟨none, ns_out cd (lookup_none e), rfl⟩
  | some q =>
    have hm := lookup_mem e
    obtain ⟨u, h1, h2⟩ := He.valsB_ok cv hm
    obtain ⟨p1, p2⟩ := dv_rp (K := K) (List.all_eq_true.mp co _ hm)
    exact ⟨some u, h1, p1, u, q.v K, rfl, h2, p2⟩
/-- the script: a list that nobody writes -/
theorem sqf_of {H : Hp} {a : Addr} {vs : List V} (ho : Only H) (hs : SqL K H a vs) : SqF K H a vs := by
  rcases hs with (hs | ⟨o, hs⟩) | hs
  · rcases ho a with h | ⟨o, xs, h⟩
    · rw [h] at hs; cases hs
    · rw [h] at hs; cases hs
  · exact .inl ⟨o, hs⟩
  · exact .inr hs
theorem rps_ints {H : Hp} : ∀ ns : List Int, Rps K H (ns.map D.int) (ns.map V.int) F0
  | [] => rfl
  | n :: ns => ⟨.int n, ns.map V.int, F0, F0, rfl, rfl, rps_ints ns, fun _ q => q, fun _ q => q, fun _ q => q.elim⟩
theorem pus_ints : ∀ ns : List Int, D.pus (ns.map D.int) = true
  | [] => rfl
  | n :: ns => by show (true && _) = true; rw [pus_ints ns]; rfl
def er0 : Er := fun _ _ _ _ _ => False
/-- the law's promise from its equation -/
theorem law_sp {g : List D → Res} {H : Hp} {a : Addr} {ns : List Int} (ho : Only H) (hs : SqL K H a (ns.map V.int)) (e : g [.rol (ns.map D.int)] = .ret (.bl true) [none]) :
    SpD K er 1 g [.ref a] H (fun v _ => v = .bl true) fun _ _ _ => False := by
  refine ⟨rfl, [.rol (ns.map D.int)], F0, ⟨.ref a, [], F0, F0, rfl, ⟨a, ns.map V.int, rfl, sqf_of ho hs, pus_ints ns, rps_ints ns⟩, rfl, fun _ q => q, fun _ q => q, fun _ q => q.elim⟩, ?_⟩
  rw [e]
  intro v H' Fv Ff _ _ _ _ r _
  exact r
end
end TI
set_option Elab.async false
set_option linter.all false
set_option maxRecDepth 100000
set_option maxHeartbeats 4000000
/-! own exceptions: what the head must say, their making, their looks in a clause -/
namespace TI
open PySem PySem.Spec PyProof.Rows L2
/-- an error with the fields fs, as the row's heap has it -/
def erX (K : PySem.W.Frag) (mg : Str → Option Value) : Er := fun c fs cls dx H => ∃ Ca d ws, mg c = some (.ref Ca) ∧ cls = .ref Ca ∧ dx = some d ∧ H d = some (.xd ws) ∧ ∀ f x, fs.lookup f = some x → ∃ v, ws.lookup f = some v ∧ x.pu = true ∧ Rp K H x v F0
theorem zip_lookup {K : PySem.W.Frag} {H : Hp} : ∀ {ps : List Str} {ds : List D} {vs : List V} {f : Str} {x : D}, Rps K H ds vs F0 → D.pus ds = true → (ps.zip ds).lookup f = some x → ∃ v, (ps.zip vs).lookup f = some v ∧ x.pu = true ∧ Rp K H x v F0
  | [], _, _, _, _, _, _, h => by cases h
  | p :: ps, [], _, _, _, _, _, h => by cases h
  | p :: ps, d :: ds, vs, f, x, hr, hp, h => by
    obtain ⟨v, ws, G1, G2, rfl, h1, h2, s1, s2, _⟩ := hr
    rw [D.pus, Bool.and_eq_true] at hp
    rw [List.zip_cons_cons, List.lookup_cons] at h ⊢
    cases e : f == p with
    | true =>
      rw [e] at h
      cases h
      exact ⟨v, rfl, hp.1, Rp.pure _ _ _ hp.1 h1⟩
    | false =>
      rw [e] at h
      exact zip_lookup (Rps.mono _ _ _ _ s2 h2) hp.2 h
theorem erX_made {K : PySem.W.Frag} {mg : Str → Option Value} {x : Str} {ps : List Str} {Ca : Addr} (hm : mg x = some (.ref Ca)) : ∀ (ds : List D) (vs : List V) (d : Addr) (fs : List (Str × V)) (H : Hp), ds.length = ps.length → D.pus ds = true → Rps K H ds vs F0 → H d = some (.xd fs) → (∀ f, fs.lookup f = (ps.zip vs).lookup f) → erX K mg x (ps.zip ds) (.ref Ca) (some d) H :=
  fun ds vs d fs H _ pu hr hd hl => ⟨Ca, d, fs, hm, rfl, rfl, hd, fun f y hy => by
    rw [hl f]
    exact zip_lookup hr pu hy⟩
/-! ### the class, by a look -/
def oexB (K : PySem.W.Frag) (C : Addr) : Bool := match K.lookup C with
  | some ⟨.type "type", _, .cls cd, sl⟩ => (match cd.mro, sl.toList with
    | .ref c :: l, [_, _, _, _, some (.builtin nw), _] => decide (c = C) && (decide (nw = "ValueError.__new__") && (!cd.hasDel && (cd.hasDict && PySem.HandSPX.refsVE l)))
    | _, _ => false)
  | _ => false
def oexB2 (K : PySem.W.Frag) (C : Addr) : Bool := oexB K C && (decide (PySem.W.findIn K (.ref C) "__setattr__" = some (some (.builtin "object.__setattr__"))) && (decide (PySem.W.subIn K (.ref C) (.type "BaseException") = some true) && (decide (PySem.W.typeIn K (.ref C) = some (.type "type")) && PySem.W.keepIn K (.ref C))))
theorem oex_cls {K : PySem.W.Frag} {C : Addr} (h : oexB K C = true) : ∃ nm q N bs bm sn sub ab col dd k0 k1 k2 k3 k5, K.lookup C = some (excClassObj nm q C N bs bm true sn sub ab col dd k0 k1 k2 k3 k5 "ValueError.__new__") ∧ PySem.HandSPX.refsVE bm = true := by
  unfold oexB at h
  split at h
  · rename_i dd cd sl hlk
    split at h
    · rename_i c l a0 a1 a2 a3 nw a5 em es
      rw [Bool.and_eq_true, Bool.and_eq_true, Bool.and_eq_true, Bool.and_eq_true, decide_eq_true_eq, decide_eq_true_eq, Bool.not_eq_true'] at h
      obtain ⟨e1, e2, e3, e4, e5⟩ := h
      obtain ⟨n1, n2, n3, n4, n5, n6, n7, n8, n9, n10, n11⟩ := cd
      dsimp only at em e3 e4
      subst em e1 e2 e3 e4
      obtain ⟨sl⟩ := sl
      dsimp only at es
      subst es
      exact ⟨_, _, _, _, l, _, _, _, _, dd, a0, a1, a2, a3, a5, hlk, e5⟩
    · cases h
  · cases h
theorem oex_ok {K : PySem.W.Frag} {C : Addr} (h : oexB2 K C = true) : OexC K C := by
  unfold oexB2 at h
  rw [Bool.and_eq_true, Bool.and_eq_true, Bool.and_eq_true, Bool.and_eq_true, decide_eq_true_eq, decide_eq_true_eq, decide_eq_true_eq] at h
  exact ⟨oex_cls h.1, h.2.1, h.2.2.1, h.2.2.2.1, h.2.2.2.2⟩
/-! ### __init__ -/
section
variable {P : Program} {w : World} {K : PySem.W.Frag} {mg : Str → Option Value} {base : Heap}
theorem init_one {x qual f : Str} {params : Arguments} {scope : Scope} {kws : List (Str × V)} {fI Ca : Addr} {fd : FuncData} {p1 p2 p3 p4 : Pos} (F : FunD K x qual params [.Assign [.Attribute (.Name "self" p1) f p2] (.Name f p3) p4] scope [] kws fI fd)
    (S : FnScope ["self", f] ["self", f] scope) (hv : scope.names.lookup f = some .local) (hs : scope.names.lookup ("self" : Str) = some NameKind.local) (hd : (f == ("__debug__" : Str)) = false) (hc : (f == ("__classdict__" : Str)) = false) (T : OexC K Ca) (hno : PySem.W.findIn K (.ref Ca) f = some none) :
    FnOk P w K mg base CX0 1 fI fd ["self", f] (spI Ca [f]) := by
  refine F.ok S (fun vs H Q E h => ?_) (fun cdv A outer s H vs Q E hr h => ?_)
  · obtain ⟨a, ws, rfl, hl, _⟩ := h
    rw [List.length_cons, hl]; rfl
  · obtain ⟨a, ws, rfl, hl, ha, hq⟩ := h
    obtain ⟨v, rfl⟩ : ∃ v, ws = [v] := List.length_eq_one_iff.mp hl
    refine ⟨_, pss_one (ps_ost (pe_var (i := 0) rfl (.inl hs) rfl rfl) (pe_var (i := 1) rfl (.inl hv) hd hc)), ?_⟩
    exact ⟨v, rfl, .ref a, rfl, a, Ca, rfl, T, hno, .inl ⟨ha, fun dx hdx hne => hq dx [(f, v)] _ hdx hne upd_same (by rw [upd_ne hne, upd_same]) (fun g => rfl) fun b h1 h2 => by rw [upd_ne h1, upd_ne h2]⟩⟩
theorem init_two {x qual f g : Str} {params : Arguments} {scope : Scope} {kws : List (Str × V)} {fI Ca : Addr} {fd : FuncData} {p1 p2 p3 p4 q1 q2 q3 q4 : Pos} (F : FunD K x qual params [.Assign [.Attribute (.Name "self" p1) f p2] (.Name f p3) p4, .Assign [.Attribute (.Name "self" q1) g q2] (.Name g q3) q4] scope [] kws fI fd)
    (S : FnScope ["self", f, g] ["self", f, g] scope) (hv : scope.names.lookup f = some .local) (hw : scope.names.lookup g = some .local) (hs : scope.names.lookup ("self" : Str) = some NameKind.local) (hd : (f == ("__debug__" : Str)) = false) (hc : (f == ("__classdict__" : Str)) = false)
    (hd2 : (g == ("__debug__" : Str)) = false) (hc2 : (g == ("__classdict__" : Str)) = false) (hfg : f ≠ g) (T : OexC K Ca) (hno : PySem.W.findIn K (.ref Ca) f = some none) (hno2 : PySem.W.findIn K (.ref Ca) g = some none) :
    FnOk P w K mg base CX0 1 fI fd ["self", f, g] (spI Ca [f, g]) := by
  refine F.ok S (fun vs H Q E h => ?_) (fun cdv A outer s H vs Q E hr h => ?_)
  · obtain ⟨a, ws, rfl, hl, _⟩ := h
    rw [List.length_cons, hl]; rfl
  · obtain ⟨a, ws, rfl, hl, ha, hq⟩ := h
    obtain ⟨v, u, rfl⟩ : ∃ v u, ws = [v, u] := match ws, hl with | [v, u], _ => ⟨v, u, rfl⟩
    refine ⟨_, pss_cons (ps_ost (pe_var (i := 0) rfl (.inl hs) rfl rfl) (pe_var (i := 1) rfl (.inl hv) hd hc)) (pss_one (ps_ost (pe_var (i := 0) rfl (.inl hs) rfl rfl) (pe_var (i := 2) rfl (.inl hw) hd2 hc2))), ?_⟩
    refine ⟨v, rfl, .ref a, rfl, a, Ca, rfl, T, hno, .inl ⟨ha, fun dx hdx hne => ?_⟩⟩
    have hda : upd (upd H dx (exd dx [(f, v)])) a (exo a Ca (some dx)) dx = some (exd dx [(f, v)]) := by rw [upd_ne hne, upd_same]
    refine ⟨u, rfl, .ref a, rfl, a, Ca, rfl, T, hno2, .inr ⟨dx, [(f, v)], upd_same, hda, by simp, ?_⟩⟩
    refine hq dx [(g, u), (f, v)] _ hdx hne (by rw [upd_ne (Ne.symm hne), upd_same]) upd_same (fun z => ?_) fun b h1 h2 => by rw [upd_ne h2, upd_ne h1, upd_ne h2]
    show ([(g, u), (f, v)] : List (Str × V)).lookup z = ([(f, v), (g, u)] : List (Str × V)).lookup z
    by_cases e1 : z = f
    · subst e1
      have : (z == g) = false := by simpa using hfg
      simp [List.lookup, this]
    · have n1 : (z == f) = false := by simpa using e1
      by_cases e2 : z = g
      · subst e2; simp [List.lookup, n1]
      · have n2 : (z == g) = false := by simpa using e2
        simp [List.lookup, n1, n2]
end
end TI
set_option Elab.async false
set_option linter.all false
set_option maxRecDepth 100000
set_option maxHeartbeats 4000000
/-! isinstance of a caught error that has fields -/
namespace TX
open PySem PySem.W PySem.Calls PyProof.Rows
section
variable {prog : Program} {w : World} {Ar : Around} {E : Value → Shared → Prop} {s : Shared} {K : Frag} {x C : Addr} {ob : Obj} {od : Option Obj}
/-- what the class must say -/
structure AskC (K : Frag) (C : Addr) : Prop where
  own : findIn K (.ref C) "__getattribute__" = some (some (.builtin "BaseException.__getattribute__"))
  alt : findIn K (.ref C) "__getattr__" = some none
  sub : subIn K (.ref C) (.type "BaseException") = some true
  dct : hasDictIn K C = true
  kls : findIn K (.ref C) "__class__" = some (some (.builtin "object.__class__"))
  get : specialIn K (.builtin "object.__class__") "__get__" = some (some (.builtin "getset_descriptor.__get__"))
  tak : takesIn K (.builtin "object.__class__") = some true
  mro : mroIn K C (.type "object") = some true
theorem AskC.cd (T : AskC K C) : ∃ cd, clsIn K C = some cd := by
  obtain ⟨cd, hc, _⟩ := any_some T.dct
  exact ⟨cd, hc⟩
theorem AskC.look (T : AskC K C) : findObj K C od "__class__" = some (.bind (.builtin "getset_descriptor.__get__") (.builtin "object.__class__")) := by
  obtain ⟨cd, hc⟩ := T.cd
  unfold findObj
  rw [hc]
  rw [Option.bind_some, T.kls]
  rw [Option.bind_some]
  simp [T.get, T.tak]
theorem AskC.klass (T : AskC K C) {Q : Option Value → Shared → Prop} (Y : K.In s.heap) (J : InstAt s.heap x ob C od) (hq : Q (some (.ref C)) { s with toks := s.toks + 1 }) : wpAny (model prog w) Ar (getAttr? (.ref x) "__class__") Q E s := by
  obtain ⟨hp, gg, dd, tt, oo⟩ := s
  have ty := J.type (M := model prog w)
  have f1 := looks_findIn (M := model prog w) Y T.own
  have f2 := looks_findIn (M := model prog w) Y T.alt
  have f3 := looks_find (M := model prog w) Y J T.look
  have isE : Looks (model prog w) hp (isInstance (.ref x) (.type "BaseException")) true := ty.andThen (looks_subIn Y T.sub)
  have n0 : (false && onTheHeap (Value.builtin "BaseException.__getattribute__")) = false := rfl
  have n2 : (Value.builtin "BaseException.__getattribute__" == Value.builtin "object.__getattribute__") = false := by decide +kernel
  have n1 : (onTheHeap (Value.ref C) && Value.builtin "BaseException.__getattribute__" == Value.builtin "object.__getattribute__") = false := by
    rw [n2]; rfl
  unfold getAttr?
  unfold getAttrBy?
  unfold getAttrBy
  refine wpAny_bind (wpAny_mkText ?_)
  refine wpAny_bind (wpAny_attempt ?_)
  refine wpAny_holding (wpAny_bind (ty.at ?_))
  refine wpAny_bind (f1.at ?_)
  show wpAny _ _ (if (onTheHeap (Value.ref C) && Value.builtin "BaseException.__getattribute__" == Value.builtin "object.__getattribute__") = true then _ else _) _ _ _
  rw [n1]
  rw [if_neg Bool.false_ne_true]
  unfold getAttrByItsOwn
  unfold hookBefore
  refine wpAny_bind ?_
  rw [if_pos (show onTheHeap (Value.ref C) = true from rfl)]
  refine f2.at (wpAny_bind (wpAny_attempt ?_))
  refine wpAny_holding ?_
  unfold callGetattribute
  rw [n0]
  rw [if_neg Bool.false_ne_true]
  unfold boundAndCalled
  rw [PySem.F.excAttr_ValueError.ga.bind (.ref x)]
  refine wpAny_bind (wpAny_pure ?_)
  show wpAny _ _ (call (.builtin "BaseException.__getattribute__") [.ref x, .str "__class__" tt]) _ _ _
  refine wpAny_call (codeAny_call_builtin PySem.F.excAttr_ValueError.ga.plain PySem.F.entry_bexc_ga (@check_slot (model prog w) _ _ ⟨hp, gg, dd, tt + 1, oo⟩ "BaseException.__getattribute__" "BaseException" "__getattribute__" (.ref x) [.str "__class__" tt] [] _ (by decide +kernel) (by decide +kernel) isE (PySem.F.args_bexc_ga (.ref x) (.str "__class__" tt)) ?_))
  unfold Builtin.«object.__getattribute__»
  refine wpAny_bind (wpAny_of_eq (a := ((Value.ref x : Value), [Value.str "__class__" tt])) (by first | rfl | (simp only [slotArgs]; rfl)) ?_)
  refine wpAny_bind (wpAny_pure ?_)
  refine wpAny_bind (ty.at (wpAny_bind (f3.at ?_)))
  show wpAny _ _ (holding [Value.builtin "object.__class__"] (call (.builtin "getset_descriptor.__get__") [.builtin "object.__class__", .ref x, .ref C]) >>= ret) _ _ _
  refine wpAny_bind (wpAny_holding (wpAny_call (class_get (s := ⟨hp, gg, dd, tt + 1, oo⟩) (ox := ob) (od := od) Y J T.mro ?_)))
  refine wpAny_pure ?_
  show wpAny _ _ (handedOut (.ref C)) _ _ _
  rw [handedOut_of (v := .ref C) rfl]
  first
    | exact wpAny_pure (wpAny_pure hq)
    | exact wpAny_pure hq
    | exact wpAny_pure (wpAny_bind (wpAny_pure (wpAny_pure hq)))
theorem AskC.kit (T : AskC K C) : KitX K (.ref x) (.ref C) (fun h => ∃ o, InstAt h x ob C (some o)) where
  ty := fun _ _ _ ⟨_, J⟩ => J.type
  it := fun _ _ Y _ => by
    obtain ⟨cd, hc⟩ := T.cd
    unfold clsIn at hc
    split at hc
    · rename_i c' d' cd' sl' lk
      intro A' Q' E' s' k q
      unfold isType
      unfold loadHead
      exact wpAny_bind (wpAny_loadPart (k _ _ (Y _ _ lk)) (wpAny_pure q))
    · cases hc
  ne := fun h tp dd its n sl Y htp => by
    obtain ⟨cd, hc⟩ := T.cd
    refine Bool.eq_false_iff.mpr fun z => ?_
    obtain rfl : C = tp := Value.ref.inj (beq_iff_eq.mp z)
    unfold clsIn at hc
    split at hc
    · rename_i c' d' cd' sl' lk
      have two := (Y _ _ lk).symm.trans htp
      cases two
    · cases hc
  ca := fun Y ⟨_, J⟩ k => T.klass Y J k
end
end TX
namespace TI
open PySem PySem.Spec PyProof.Rows L2
/-- isinstance(e, c), e the error that the suite holds, with its fields -/
def rAsk (K : PySem.W.Frag) (C a : Addr) (d : Option Addr) : List V → Hp → VK → Prop := fun xs H Q => ∃ (c : V) (cv : Value) (b : Bool) (dd : Addr) (fs : List (Str × V)), xs = [.ref a, c] ∧ (∀ u, RelV c u → u = cv) ∧ d = some dd ∧ H dd = some (.xd fs) ∧ PySem.W.kitOne K (.ref C) cv = some b ∧ Q (.bl b) H
theorem call_ask {X : Cx} {a C : Addr} {d : Option Addr} {oe : Obj} {pn : List (Addr × Obj)} (T : TX.AskC X.K C) (hz : Zc (.ref C) d oe) (hf : ∃ vs, oe.data = .fields vs) : CallR (X.suite a ((a, oe) :: pn)) (.builtin "isinstance") (rAsk X.K C a d) := by
  intro pins s σ H xs us Q I r h
  obtain ⟨c, cv, b, dd, fs, rfl, hcv, rfl, hdd, e, q⟩ := h
  obtain ⟨u1, u2, rfl, r1, r2⟩ := vals2 r
  cases r1
  cases hcv _ r2
  obtain ⟨hget, _⟩ := I.pin (a, oe) (List.mem_append.mpr (.inl List.mem_cons_self))
  obtain ⟨vs, hv⟩ := hf
  have hx : ObjOk X.prog X.w H s.heap dd (.xd fs) := I.hok dd _ hdd
  obtain ⟨mA, hns, _⟩ := hx
  obtain ⟨od, ho, _⟩ := lookIn_ns hns
  have J : PySem.W.InstAt s.heap a oe C (some od) := ⟨hget, hz.1, by unfold PySem.W.notCls; rw [hv] <;> rfl, by rw [hz.2]; exact ho⟩
  exact PySem.W.kia_one T.kit I.kIn ⟨od, J⟩ e (fun z => nomatch z) fun tk => ⟨.bl b, H, I.kept (t' := tk) fun _ _ z => z, rfl, q⟩
end TI
set_option Elab.async false
set_option linter.all false
set_option maxRecDepth 100000
set_option maxHeartbeats 4000000
/-! texts: one sign sought, exchanged -/
namespace TI
open PySem PySem.Spec PyProof.Rows L2 Builtin Builtin.Str PySem.StrLaws

def one (c : Nat) : PySem.Str := ⟨#[c]⟩
theorem sub_one (x : PySem.Str) (c i : Nat) : (i + (one c).length ≤ x.length ∧ subAt x (one c) i = true) ↔ x.cps.toList[i]? = some c := by
  have e1 : (one c).length = 1 := rfl
  rw [e1]
  unfold subAt
  rw [e1]
  have hl : x.length = x.cps.size := rfl
  constructor
  · rintro ⟨h1, h2⟩
    have h3 : x.cps.extract i (i + 1) = (one c).cps := by simpa using h2
    have h4 := congrArg (fun (a : Array Nat) => a[0]?) h3
    have hi : i < x.cps.size := by omega
    have h5 : (x.cps.extract i (i + 1))[0]? = x.cps[i]? := by
      rw [Array.getElem?_extract]
      simp
      intro h; omega
    rw [h5] at h4
    rw [Array.getElem?_toList, h4]
    rfl
  · intro h
    rw [Array.getElem?_toList] at h
    have hi : i < x.cps.size := by
      rcases Nat.lt_or_ge i x.cps.size with q | q
      · exact q
      · rw [Array.getElem?_eq_none q] at h; cases h
    refine ⟨by omega, ?_⟩
    have : x.cps.extract i (i + 1) = (one c).cps := by
      apply Array.ext
      · simp [one]; omega
      · intro j h1 h2
        have hj : j = 0 := by simp [one] at h2; omega
        subst hj
        rw [Array.getElem?_eq_getElem hi] at h
        cases h
        simp [one]
    rw [this]
    simp
theorem at_one (x : PySem.Str) (c hi i : Nat) (hh : hi ≤ x.length) : At x (one c) hi i ↔ i < hi ∧ x.cps.toList[i]? = some c := by
  have e1 : (one c).length = 1 := rfl
  unfold At
  constructor
  · rintro ⟨h1, h2⟩
    rw [e1] at h1
    exact ⟨by omega, (sub_one x c i).mp ⟨by rw [e1]; omega, h2⟩⟩
  · rintro ⟨h1, h2⟩
    exact ⟨by rw [e1]; omega, ((sub_one x c i).mpr h2).2⟩
theorem range'_split2 {p n a : Nat} {pre post : List Nat} (h : List.range' p n = pre ++ a :: post) : p ≤ a ∧ a < p + n ∧ ∀ k, p ≤ k → k < a → k ∈ pre := by
  have hL : n = pre.length + (post.length + 1) := by
    have := congrArg List.length h
    simpa using this
  have hlen : p + pre.length = a := by
    have h1 : (List.range' p n)[pre.length]? = some a := by rw [h]; simp
    rw [List.getElem?_range'] at h1
    · simpa using h1
    · omega
  refine ⟨by omega, by omega, fun k h1 h2 => ?_⟩
  have h3 : (List.range' p n)[k - p]? = pre[k - p]? := by rw [h, List.getElem?_append_left (by omega)]
  rw [List.getElem?_range'] at h3
  · have h4 : pre[k - p]? = some k := by rw [← h3]; simp; omega
    exact List.mem_of_getElem? h4
  · omega
theorem findIn_nat (x : PySem.Str) (c p s : Nat) (hp : p ≤ s) (hs : s ≤ x.length) : Txt.findIn x (one c) (p : Int) (s : Int) = (match occurrences x (one c) p s 1 with | k :: _ => (k : Int) | [] => -1) := by
  have e1 : fromIndex x.length (p : Int) = p := by unfold fromIndex; rw [if_neg (by omega)]; omega
  have e2 : toIndexW x.length (s : Int) = s := by unfold toIndexW; rw [if_neg (by omega)]; omega
  unfold Txt.findIn
  rw [e1, e2]
  cases occurrences x (one c) p s 1 <;> rfl
theorem find_at {x : PySem.Str} {c p s k : Nat} (hpk : p ≤ k) (hks : k < s) (hs : s ≤ x.length) (hc : x.cps.toList[k]? = some c) (hno : ∀ i, p ≤ i → i < k → x.cps.toList[i]? ≠ some c) : Txt.findIn x (one c) (p : Int) (s : Int) = (k : Int) := by
  rw [findIn_nat x c p s (by omega) hs, occ_eq]
  rcases occ_first x (one c) s 1 (Nat.le_refl _) (List.range' p (s + 1 - p)) p (fun i hi => by simp [List.mem_range'] at hi; omega) with ⟨h0, hn⟩ | ⟨pre, a, post, e, h0, ha, hn⟩
  · exact absurd ((at_one x c s k hs).mpr ⟨hks, hc⟩) (hn k (List.mem_range'_1.mpr (by omega)))
  · obtain ⟨r1, r2, r3⟩ := range'_split2 e
    have ha' := (at_one x c s a hs).mp ha
    have hak : a = k := by
      rcases Nat.lt_trichotomy a k with h | h | h
      · exact absurd ha'.2 (hno a r1 h)
      · exact h
      · exact absurd ((at_one x c s k hs).mpr ⟨hks, hc⟩) (hn k (r3 k hpk h))
    subst hak
    cases hh : (forIn (List.range' p (s + 1 - p)) ((#[] : Array Nat), p) (occBody x (one c) s 1)).run.fst with
    | mk l =>
      rw [hh] at h0
      cases l with
      | nil => simp at h0
      | cons b l => simp at h0; subst h0; rfl
theorem find_no {x : PySem.Str} {c p s : Nat} (hp : p ≤ s) (hs : s ≤ x.length) (hno : ∀ i, p ≤ i → i < s → x.cps.toList[i]? ≠ some c) : Txt.findIn x (one c) (p : Int) (s : Int) = -1 := by
  rw [findIn_nat x c p s hp hs, occ_eq]
  rcases occ_first x (one c) s 1 (Nat.le_refl _) (List.range' p (s + 1 - p)) p (fun i hi => by simp [List.mem_range'] at hi; omega) with ⟨h0, hn⟩ | ⟨pre, a, post, e, h0, ha, hn⟩
  · rw [h0]
  · obtain ⟨r1, r2, r3⟩ := range'_split2 e
    have ha' := (at_one x c s a hs).mp ha
    exact absurd ha'.2 (hno a r1 ha'.1)
/-! ### one sign exchanged -/
def pos1 (c : Nat) : List Nat → Nat → List Nat
  | [], _ => []
  | a :: cs, o => if a = c then o :: pos1 c cs (o + 1) else pos1 c cs (o + 1)
theorem occ_all (x : PySem.Str) (c limit : Nat) : ∀ (cs : List Nat) (o : Nat) (arr : Array Nat) (free : Nat), x.cps.toList.drop o = cs → arr.size + cs.length < limit → free ≤ o → o ≤ x.length →
    (forIn (List.range' o (cs.length + 1)) (arr, free) (occBody x (one c) x.length limit)).run.fst.toList = arr.toList ++ pos1 c cs o
  | [], o, arr, free, hd, hl, hf, ho => by
    rw [show List.range' o (([] : List Nat).length + 1) = [o] from rfl, List.forIn_cons]
    have hol : x.length ≤ o := by
      have := congrArg List.length hd
      simp at this
      show x.cps.size ≤ o
      omega
    unfold occBody
    rw [if_neg (fun h => by have := h.1.2; have e1 : (one c).length = 1 := rfl; omega)]
    simp [pos1]
  | a :: cs, o, arr, free, hd, hl, hf, ho => by
    have hlen : (a :: cs).length + 1 = (cs.length + 1) + 1 := rfl
    rw [hlen, List.range'_succ, List.forIn_cons]
    have ha : x.cps.toList[o]? = some a := by
      have := congrArg (fun l => l[0]?) hd
      simpa using this
    have hd' : x.cps.toList.drop (o + 1) = cs := by
      have := congrArg (fun l => l.drop 1) hd
      simpa [List.drop_drop] using this
    have hlt : o < x.length := by
      have h1 : o < x.cps.toList.length := (List.getElem?_eq_some_iff.mp ha).1
      show o < x.cps.size
      simpa using h1
    unfold occBody
    simp only [List.length_cons] at hl
    by_cases hc : a = c
    · subst hc
      have h2 := (sub_one x a o).mpr ha
      rw [if_pos ⟨⟨⟨by show arr.size < limit; omega, hf⟩, h2.1⟩, h2.2⟩]
      have ih := occ_all x a limit cs (o + 1) (arr.push o) (o + (one a).length) hd' (by simp; omega) (by show o + 1 ≤ o + 1; omega) (by omega)
      simp only [Nat.add_comm 1] at *
      show (forIn (List.range' (o + 1) (cs.length + 1)) (arr.push o, o + (one a).length) (occBody x (one a) x.length limit)).run.fst.toList = _
      rw [ih]
      simp [pos1]
    · rw [if_neg (fun h => by
        have := (sub_one x c o).mp ⟨h.1.2, h.2⟩
        rw [ha] at this
        cases this
        exact hc rfl)]
      have ih := occ_all x c limit cs (o + 1) arr free hd' (by omega) (by omega) (by omega)
      show (forIn (List.range' (o + 1) (cs.length + 1)) (arr, free) (occBody x (one c) x.length limit)).run.fst.toList = _
      rw [ih]
      simp [pos1, hc]
theorem occ_one (x : PySem.Str) (c : Nat) : occurrences x (one c) 0 x.length (x.length + 1) = pos1 c x.cps.toList 0 := by
  rw [occ_eq]
  have := occ_all x c (x.length + 1) x.cps.toList 0 #[] 0 rfl (by show 0 + x.cps.toList.length < x.cps.size + 1; simp) (Nat.le_refl _) (Nat.zero_le _)
  have e : x.length + 1 - 0 = x.cps.toList.length + 1 := by show x.cps.size + 1 - 0 = _; simp
  rw [e, this]
  simp
def gl (z : List Nat) : List (List Nat) → List Nat
  | [] => []
  | p :: ps => p ++ ps.flatMap fun q => z ++ q
theorem glued_gl (z : PySem.Str) (ps : List PySem.Str) : (glued z ps).cps.toList = gl z.cps.toList (ps.map (·.cps.toList)) := by
  have key : ∀ (l : List PySem.Str) (acc : Array Nat), (l.foldl (fun acc p => acc ++ z.cps ++ p.cps) acc).toList = acc.toList ++ (l.map (·.cps.toList)).flatMap fun q => z.cps.toList ++ q := fun l => by
    induction l with
    | nil => intro acc; simp
    | cons p l ih => intro acc; rw [List.foldl_cons, ih]; simp
  unfold glued
  cases ps with
  | nil => rfl
  | cons p ps =>
    show ((ps.foldl _ p.cps)).toList = _
    rw [key]
    rfl
theorem pieces (z L : List Nat) (c : Nat) : ∀ (cs : List Nat) (o s : Nat), L.drop o = cs → s ≤ o → o ≤ L.length →
    gl z (((s :: (pos1 c cs o).map (· + 1)).zip (pos1 c cs o ++ [L.length])).map fun p => (L.take p.2).drop p.1) = (L.take o).drop s ++ cs.flatMap fun a => if a = c then z else [a]
  | [], o, s, hd, hs, ho => by
    have : L.length ≤ o := by
      have := congrArg List.length hd
      simp at this
      omega
    have e : o = L.length := by omega
    simp [pos1, gl, e]
  | a :: cs, o, s, hd, hs, ho => by
    have ha : L[o]? = some a := by
      have := congrArg (fun l => l[0]?) hd
      simpa using this
    have hd' : L.drop (o + 1) = cs := by
      have := congrArg (fun l => l.drop 1) hd
      simpa [List.drop_drop] using this
    have hlt : o < L.length := (List.getElem?_eq_some_iff.mp ha).1
    have hta : L.take (o + 1) = L.take o ++ [a] := by
      rw [List.take_succ, ha]; rfl
    by_cases hc : a = c
    · have ep : pos1 c (a :: cs) o = o :: pos1 c cs (o + 1) := by simp [pos1, hc]
      rw [ep]
      have ih := pieces z L c cs (o + 1) (o + 1) hd' (Nat.le_refl _) (by omega)
      have e0 : (L.take (o + 1)).drop (o + 1) = [] := by simp
      rw [e0, List.nil_append] at ih
      rw [List.map_cons, List.cons_append, List.zip_cons_cons, List.map_cons]
      have ne : ∀ (q : List (Nat × Nat)), q ≠ [] → ∀ p0 : List Nat, gl z (p0 :: q.map fun p => (L.take p.2).drop p.1) = p0 ++ (z ++ gl z (q.map fun p => (L.take p.2).drop p.1)) := fun q hq p0 => by
        cases q with
        | nil => exact absurd rfl hq
        | cons u v => simp [gl]
      rw [ne _ (by
        intro h
        have := congrArg List.length h
        simp at this), ih]
      simp [hc]
    · have ep : pos1 c (a :: cs) o = pos1 c cs (o + 1) := by simp [pos1, hc]
      rw [ep, pieces z L c cs (o + 1) s hd' (by omega) (by omega), hta]
      have : (L.take o ++ [a]).drop s = (L.take o).drop s ++ [a] := by
        rw [List.drop_append_of_le_length (by simp; omega)]
      rw [this]
      simp [hc]
theorem replace_one (x z : PySem.Str) (c : Nat) : (Txt.replace x (one c) z).cps.toList = x.cps.toList.flatMap fun a => if a = c then z.cps.toList else [a] := by
  unfold Txt.replace
  rw [occ_one]
  have e1 : ((one c).length == 0) = false := rfl
  rw [e1, Bool.false_and, Bool.or_false]
  by_cases he : (pos1 c x.cps.toList 0).isEmpty = true
  · rw [if_pos he]
    have : ∀ (cs : List Nat) (o : Nat), pos1 c cs o = [] → (cs.flatMap fun a => if a = c then z.cps.toList else [a]) = cs := fun cs => by
      induction cs with
      | nil => intro o _; rfl
      | cons a cs ih =>
        intro o h
        by_cases hc : a = c
        · simp [pos1, hc] at h
        · have h2 : pos1 c cs (o + 1) = [] := by simpa [pos1, hc] using h
          rw [List.flatMap_cons, ih _ h2, if_neg hc]
          rfl
    exact (this _ 0 (List.isEmpty_iff.mp he)).symm
  · rw [if_neg he, glued_gl]
    have := pieces z.cps.toList x.cps.toList c x.cps.toList 0 0 rfl (Nat.le_refl _) (Nat.zero_le _)
    simp only [List.take_zero, List.drop_nil, List.nil_append] at this
    rw [← this]
    unfold partsBetween
    congr 1
    rw [List.map_map]
    have el : x.length = x.cps.toList.length := by show x.cps.size = _; simp
    rw [el]
    show List.map _ (List.zip (0 :: (pos1 c x.cps.toList 0).map (· + 1)) _) = _
    refine List.map_congr_left fun p _ => ?_
    show (x.cps.extract p.1 p.2).toList = _
    rw [Array.toList_extract]
    simp [List.extract_eq_drop_take, List.drop_take]
end TI
set_option Elab.async false
set_option linter.all false
set_option maxRecDepth 100000
set_option maxHeartbeats 4000000
/-! texts: cut, digits, numbers -/
namespace TI
open PySem PySem.Spec PyProof.Rows L2 Builtin Builtin.Str PySem.StrLaws PySem.NumText PySem.W.KIN

abbrev Ls (x : PySem.Str) : List Nat := x.cps.toList
theorem Ls_len (x : PySem.Str) : (Ls x).length = x.length := by show x.cps.toList.length = x.cps.size; simp
theorem Str_ext {x y : PySem.Str} (h : Ls x = Ls y) : x = y := by
  cases x; cases y
  congr 1
  exact Array.toList_inj.mp h
theorem Ls_append (x y : PySem.Str) : Ls (x ++ y) = Ls x ++ Ls y := by
  show (x.cps ++ y.cps).toList = _
  simp
theorem cut_nat (x : PySem.Str) (p s : Nat) (hp : p ≤ s) : Ls (cutS x (some (p : Int)) (some (s : Int))) = ((Ls x).drop p).take (s - p) := by
  have hl : x.cps.toList.length = x.length := Ls_len x
  have hl2 : x.cps.size = x.length := rfl
  unfold cutS
  rw [HT.sIx_nat, HT.sIx_nat]
  show ((x.cps.toList.drop _).take _).toArray.toList = _
  rw [List.toList_toArray]
  rcases Nat.lt_or_ge s x.length with h | h
  · rw [Nat.min_eq_left (by omega), Nat.min_eq_left (by omega)]
  · rw [Nat.min_eq_right h]
    rcases Nat.lt_or_ge p x.length with h2 | h2
    · rw [Nat.min_eq_left (by omega)]
      rw [List.take_of_length_le (by simp; omega), List.take_of_length_le (by simp; omega)]
    · rw [Nat.min_eq_right h2]
      have e1 : x.cps.toList.drop x.length = [] := List.drop_of_length_le (by omega)
      have e2 : x.cps.toList.drop p = [] := List.drop_of_length_le (by omega)
      rw [e1, e2]; simp
/-- one sign at a place -/
theorem cut_one {x : PySem.Str} {pre post : List Nat} {a : Nat} (h : Ls x = pre ++ a :: post) : cutS x (some (pre.length : Int)) (some ((pre.length : Int) + 1)) = one a := by
  apply Str_ext
  have := cut_nat x pre.length (pre.length + 1) (by omega)
  rw [show ((pre.length + 1 : Nat) : Int) = (pre.length : Int) + 1 from by omega] at this
  rw [this, h]
  simp [one]
theorem cut_end {x : PySem.Str} {p : Nat} (h : x.length ≤ p) : cutS x (some (p : Int)) (some ((p : Int) + 1)) = ⟨#[]⟩ := by
  apply Str_ext
  have := cut_nat x p (p + 1) (by omega)
  rw [show ((p + 1 : Nat) : Int) = (p : Int) + 1 from by omega] at this
  rw [this, List.drop_of_length_le (by rw [Ls_len]; exact h), List.take_nil]
theorem lstrip_eq (x y : PySem.Str) : Ls (Txt.lstripChars x y) = (Ls x).dropWhile y.cps.contains := by
  have hd : ∀ (l : List Nat) (f : Nat → Bool), l.drop (l.takeWhile f).length = l.dropWhile f := fun l f => by
    induction l with
    | nil => rfl
    | cons a l ih =>
      rw [List.takeWhile_cons, List.dropWhile_cons]
      cases f a <;> simp [ih]
  unfold Txt.lstripChars Txt.stripBy
  have key : Ls (stripped y.cps.contains true false x) = (Ls x).dropWhile y.cps.contains := by
    unfold stripped
    show (x.cps.extract _ _).toList = _
    rw [Array.toList_extract]
    show (x.cps.toList.extract (x.cps.toList.takeWhile y.cps.contains).length x.length) = _
    rw [List.extract_eq_drop_take, hd]
    refine List.take_of_length_le ?_
    have h1 := congrArg List.length (hd x.cps.toList y.cps.contains)
    rw [List.length_drop] at h1
    have h2 := Ls_len x
    show _ ≤ x.length - _
    have h3 : x.cps.toList.length = x.length := h2
    omega
  by_cases hs : stripSame y.cps.contains true false x = true
  · rw [if_pos hs]
    unfold stripSame at hs
    rw [Bool.and_eq_true] at hs
    have h0 : (x.cps.toList.takeWhile y.cps.contains).length = 0 := by simpa [stripLo] using hs.1
    have := hd x.cps.toList y.cps.contains
    rw [h0] at this
    exact this
  · rw [if_neg hs]; exact key
/-! ### numbers -/
theorem toDigits_head : ∀ (m : Nat), 0 < m → ∀ c l, (Nat.toDigits 10 m).map Char.toNat = c :: l → c ≠ 48 := by
  intro m
  induction m using Nat.strongRecOn with
  | _ m ih =>
    intro hm c l h
    by_cases h10 : m < 10
    · rw [Nat.toDigits_of_lt_base h10] at h
      have hc : (Nat.digitChar m).toNat = c := by simpa using congrArg (fun l => l.headD 0) h
      have hdig : ∀ d : Nat, d < 10 → 0 < d → (Nat.digitChar d).toNat ≠ 48 := by decide
      rw [← hc]; exact hdig m h10 hm
    · have t : Nat.toDigits 10 (m / 10) ++ Nat.toDigits 10 (m % 10) = Nat.toDigits 10 (10 * (m / 10) + m % 10) := Nat.toDigits_append_toDigits (by decide) (by omega) (Nat.mod_lt m (by decide))
      rw [Nat.div_add_mod] at t
      rw [← t, List.map_append] at h
      cases hq : (Nat.toDigits 10 (m / 10)).map Char.toNat with
      | nil =>
        have := List.map_eq_nil_iff.mp hq
        have h2 := Nat.length_toDigits_pos (b := 10) (n := m / 10)
        rw [this] at h2
        simp at h2
      | cons c' l' =>
        rw [hq] at h
        have hc : c' = c := by simpa using congrArg (fun l => l.headD 0) h
        rw [← hc]
        exact ih (m / 10) (by omega) (by omega) c' l' hq
theorem toDigits_len (k : Nat) : ∀ (m : Nat), m < 10 ^ (k + 1) → (Nat.toDigits 10 m).length ≤ k + 1 := by
  induction k with
  | zero => intro m h; rw [Nat.toDigits_of_lt_base (by simpa using h)]; simp
  | succ k ih =>
    intro m h
    by_cases h10 : m < 10
    · rw [Nat.toDigits_of_lt_base h10]; simp
    · have t : Nat.toDigits 10 (m / 10) ++ Nat.toDigits 10 (m % 10) = Nat.toDigits 10 (10 * (m / 10) + m % 10) := Nat.toDigits_append_toDigits (by decide) (by omega) (Nat.mod_lt m (by decide))
      rw [Nat.div_add_mod] at t
      rw [← t, List.length_append, Nat.toDigits_of_lt_base (Nat.mod_lt m (by decide))]
      have := ih (m / 10) (by rw [Nat.div_lt_iff_lt_mul (by decide)]; rw [Nat.pow_succ] at h; exact h)
      simp
      omega
def ndg (m : Nat) : List Nat := (Nat.toDigits 10 m).map Char.toNat
theorem ndg_all (m : Nat) : AllDigits (ndg m) := by
  intro c hc
  obtain ⟨ch, hch, e⟩ := List.mem_map.mp hc
  have r := digit_range (Nat.isDigit_of_mem_toDigits (by decide) (by decide) hch)
  rw [← e]
  exact r
theorem ndg_ne (m : Nat) : ndg m ≠ [] := by
  intro e
  have h2 := Nat.length_toDigits_pos (b := 10) (n := m)
  rw [List.map_eq_nil_iff.mp e] at h2
  simp at h2
theorem int_nat (m : Nat) : Ls (PySem.Str.ofString (toString ((m : Nat) : Int))) = ndg m := signs_num m
theorem int_negs (m : Nat) : Ls (PySem.Str.ofString (toString (-((m + 1 : Nat) : Int)))) = 45 :: ndg (m + 1) := by
  show (PySem.Str.ofString _).cps.toList = _
  rw [signs_ofString]
  have e : toString (-((m + 1 : Nat) : Int)) = "-" ++ toString (m + 1) := rfl
  rw [e, String.toList_append]
  show 45 :: ((toString (m + 1)).toList.map Char.toNat) = _
  show 45 :: ((Nat.repr (m + 1)).toList.map Char.toNat) = _
  rw [Nat.toList_repr]
  rfl
end TI
set_option linter.all false
/-! rationals: sums, bounds, the pair in lowest terms; core Lean alone -/
namespace RQ
theorem den_ne (x : Rat) : ((x.den : Int)) ≠ 0 := by
  have := x.den_nz
  omega
theorem den_pos (x : Rat) : (0 : Int) < (x.den : Int) := by
  have := x.den_nz
  omega
theorem self_eq (x : Rat) : x = (x.num : Rat) / ((x.den : Int) : Rat) := by rw [← Rat.divInt_eq_div, Rat.num_divInt_den]
theorem cast_ne {a : Int} (h : a ≠ 0) : (a : Rat) ≠ 0 := by simpa using h
theorem den_cast (x : Rat) : ((x.den : Int) : Rat) ≠ 0 := cast_ne (den_ne x)
theorem plus_eq (x y : Rat) : Rat.divInt (x.num * y.den + y.num * x.den) (x.den * y.den) = x + y := by
  rw [Rat.divInt_eq_div]
  have hx := self_eq x
  have hy := self_eq y
  have h1 := den_cast x
  have h2 := den_cast y
  conv => rhs; rw [hx, hy]
  grind
theorem minus_eq (x y : Rat) : Rat.divInt (x.num * y.den - y.num * x.den) (x.den * y.den) = x - y := by
  rw [Rat.divInt_eq_div]
  have hx := self_eq x
  have hy := self_eq y
  have h1 := den_cast x
  have h2 := den_cast y
  conv => rhs; rw [hx, hy]
  grind
theorem mul_eq (x y : Rat) : Rat.divInt (x.num * y.num) (x.den * y.den) = x * y := by
  rw [Rat.divInt_eq_div]
  have hx := self_eq x
  have hy := self_eq y
  have h1 := den_cast x
  have h2 := den_cast y
  conv => rhs; rw [hx, hy]
  grind
theorem den_prod_ne (x y : Rat) : (x.den : Int) * y.den ≠ 0 := Int.mul_ne_zero (den_ne x) (den_ne y)
theorem den_prod_pos (x y : Rat) : (0 : Int) < (x.den : Int) * y.den := Int.mul_pos (den_pos x) (den_pos y)
/-! the lowest terms -/
def gcdI (a b : Int) : Int := ((Nat.gcd a.natAbs b.natAbs : Nat) : Int)
theorem gcd_pos (a : Int) {b : Int} (hb : b ≠ 0) : 0 < gcdI a b := by
  unfold gcdI
  have : 0 < Nat.gcd a.natAbs b.natAbs := Nat.gcd_pos_of_pos_right _ (Int.natAbs_pos.mpr hb)
  omega
theorem gcd_dl (a b : Int) : gcdI a b ∣ a := by
  unfold gcdI
  exact Int.natAbs_dvd_natAbs.mp (by rw [Int.natAbs_natCast]; exact Nat.gcd_dvd_left _ _)
theorem gcd_dr (a b : Int) : gcdI a b ∣ b := by
  unfold gcdI
  exact Int.natAbs_dvd_natAbs.mp (by rw [Int.natAbs_natCast]; exact Nat.gcd_dvd_right _ _)
theorem gcd_le (a : Int) {b : Int} (hb : b ≠ 0) : (gcdI a b).natAbs ≤ b.natAbs := by
  unfold gcdI
  rw [Int.natAbs_natCast]
  exact Nat.le_of_dvd (Int.natAbs_pos.mpr hb) (Nat.gcd_dvd_right _ _)
theorem num_pos (a : Int) {b : Int} (hb : 0 < b) : (Rat.divInt a b).num = a / gcdI a b := by
  rw [Rat.num_divInt, Int.sign_eq_one_of_pos hb, Int.one_mul]
  unfold gcdI
  rw [show b.gcd a = Nat.gcd b.natAbs a.natAbs from rfl, Nat.gcd_comm]
theorem den_pos' (a : Int) {b : Int} (hb : 0 < b) : ((Rat.divInt a b).den : Int) = b / gcdI a b := by
  rw [Rat.den_divInt, if_neg (by omega)]
  unfold gcdI
  rw [show b.gcd a = Nat.gcd b.natAbs a.natAbs from rfl, Nat.gcd_comm, Int.natCast_ediv]
  congr 1
  omega
theorem num_neg (a : Int) {b : Int} (hb : b < 0) : (Rat.divInt a b).num = (-a) / gcdI a b := by
  rw [Rat.num_divInt, Int.sign_eq_neg_one_of_neg hb]
  unfold gcdI
  rw [show b.gcd a = Nat.gcd b.natAbs a.natAbs from rfl, Nat.gcd_comm]
  congr 1
  omega
theorem den_neg' (a : Int) {b : Int} (hb : b < 0) : ((Rat.divInt a b).den : Int) = (-b) / gcdI a b := by
  rw [Rat.den_divInt, if_neg (by omega)]
  unfold gcdI
  rw [show b.gcd a = Nat.gcd b.natAbs a.natAbs from rfl, Nat.gcd_comm, Int.natCast_ediv]
  congr 1
  omega
theorem num_f (a : Int) {b : Int} (hb : 0 < b) : a.fdiv (gcdI a b) = (Rat.divInt a b).num := by
  rw [num_pos a hb, Int.fdiv_eq_ediv_of_dvd (gcd_dl a b)]
theorem den_f (a : Int) {b : Int} (hb : 0 < b) : b.fdiv (gcdI a b) = ((Rat.divInt a b).den : Int) := by
  rw [den_pos' a hb, Int.fdiv_eq_ediv_of_dvd (gcd_dr a b)]
theorem num_fn (a : Int) {b : Int} (hb : b < 0) : a.fdiv (-(gcdI a b)) = (Rat.divInt a b).num := by
  rw [num_neg a hb, Int.fdiv_eq_ediv_of_dvd (Int.neg_dvd.mpr (gcd_dl a b)), Int.ediv_neg, Int.neg_ediv_of_dvd (gcd_dl a b)]
theorem den_fn (a : Int) {b : Int} (hb : b < 0) : b.fdiv (-(gcdI a b)) = ((Rat.divInt a b).den : Int) := by
  rw [den_neg' a hb, Int.fdiv_eq_ediv_of_dvd (Int.neg_dvd.mpr (gcd_dr a b)), Int.ediv_neg, Int.neg_ediv_of_dvd (gcd_dr a b)]
/-! bounds -/
def Bd (n : Nat) (i : Int) : Prop := i.natAbs < 2 ^ n
structure Bq (p q : Nat) (x : Rat) : Prop where
  n : Bd p x.num
  d : Bd q (x.den : Int)
theorem Bd.mono {n m : Nat} {i : Int} (h : Bd n i) (e : n ≤ m) : Bd m i := Nat.lt_of_lt_of_le h (Nat.pow_le_pow_right (by decide) e)
theorem Bd.mul {n m : Nat} {i j : Int} (h : Bd n i) (k : Bd m j) : Bd (n + m) (i * j) := by
  unfold Bd at *
  rw [Int.natAbs_mul, Nat.pow_add]
  exact Nat.mul_lt_mul'' h k
theorem Bd.add {n : Nat} {i j : Int} (h : Bd n i) (k : Bd n j) : Bd (n + 1) (i + j) := by
  unfold Bd at *
  have := Int.natAbs_add_le i j
  rw [Nat.pow_succ]
  omega
theorem Bd.neg {n : Nat} {i : Int} (h : Bd n i) : Bd n (-i) := by
  unfold Bd at *
  rw [Int.natAbs_neg]; exact h
theorem Bd.sub {n : Nat} {i j : Int} (h : Bd n i) (k : Bd n j) : Bd (n + 1) (i - j) := by
  rw [Int.sub_eq_add_neg]
  exact h.add k.neg
theorem Bq.mono {p q p' q' : Nat} {x : Rat} (h : Bq p q x) (e : p ≤ p') (f : q ≤ q') : Bq p' q' x := ⟨h.n.mono e, h.d.mono f⟩
theorem bq_divInt {p q : Nat} {a b : Int} (ha : Bd p a) (hb : Bd q b) (h0 : 0 < b) : Bq p q (Rat.divInt a b) := by
  constructor
  · unfold Bd at *
    rw [num_pos a h0]
    refine Nat.lt_of_le_of_lt ?_ ha
    have hd := gcd_dl a b
    have hp := gcd_pos a (b := b) (by omega)
    rw [Int.natAbs_ediv_of_dvd hd]
    exact Nat.div_le_self _ _
  · unfold Bd at *
    rw [den_pos' a h0]
    refine Nat.lt_of_le_of_lt ?_ hb
    rw [Int.natAbs_ediv_of_dvd (gcd_dr a b)]
    exact Nat.div_le_self _ _
theorem Bq.add {p1 q1 p2 q2 p : Nat} {x y : Rat} (h : Bq p1 q1 x) (k : Bq p2 q2 y) (e : p1 + q2 ≤ p) (f : p2 + q1 ≤ p) : Bq (p + 1) (q1 + q2) (x + y) := by
  rw [← plus_eq]
  exact bq_divInt (((h.n.mul k.d).mono e).add ((k.n.mul h.d).mono f)) (h.d.mul k.d) (den_prod_pos x y)
theorem Bq.sub {p1 q1 p2 q2 p : Nat} {x y : Rat} (h : Bq p1 q1 x) (k : Bq p2 q2 y) (e : p1 + q2 ≤ p) (f : p2 + q1 ≤ p) : Bq (p + 1) (q1 + q2) (x - y) := by
  rw [← minus_eq]
  exact bq_divInt (((h.n.mul k.d).mono e).sub ((k.n.mul h.d).mono f)) (h.d.mul k.d) (den_prod_pos x y)
theorem Bq.mul {p1 q1 p2 q2 : Nat} {x y : Rat} (h : Bq p1 q1 x) (k : Bq p2 q2 y) : Bq (p1 + p2) (q1 + q2) (x * y) := by
  rw [← mul_eq]
  exact bq_divInt (h.n.mul k.n) (h.d.mul k.d) (den_prod_pos x y)
theorem Bd.log {n : Nat} {i : Int} (h : Bd n i) : i.natAbs.log2 ≤ n := by
  unfold Bd at h
  by_cases h0 : i.natAbs = 0
  · rw [h0]; simp
  · exact Nat.le_of_lt ((Nat.log2_lt h0).mpr h)
/-! Euclid -/
def euc : Nat → Nat → Nat → Nat × Nat
  | 0, a, b => (a, b)
  | n + 1, a, b => if b = 0 then (a, b) else euc n b (a % b)
theorem euc_gcd : ∀ (n a b : Nat), Nat.gcd (euc n a b).1 (euc n a b).2 = Nat.gcd a b
  | 0, a, b => rfl
  | n + 1, a, b => by
    unfold euc
    split
    · rfl
    · rw [euc_gcd n b (a % b), Nat.gcd_comm b, ← Nat.gcd_rec, Nat.gcd_comm]
theorem mod_half {b r : Nat} (hr : r ≠ 0) (h : r ≤ b) : 2 * (b % r) < b := by
  have h1 : b % r < r := Nat.mod_lt _ (by omega)
  have h2 := Nat.div_add_mod b r
  have h3 : 1 ≤ b / r := (Nat.one_le_div_iff (by omega)).mpr h
  have h4 : r * 1 ≤ r * (b / r) := Nat.mul_le_mul_left r h3
  omega
theorem euc_zero : ∀ (k n a b : Nat), b < 2 ^ k → 2 * k ≤ n → (euc n a b).2 = 0
  | 0, n, a, b, h, _ => by
    have : b = 0 := by simpa using h
    subst this
    cases n with
    | zero => rfl
    | succ n => unfold euc; rw [if_pos rfl]
  | k + 1, n, a, b, h, hn => by
    obtain ⟨n, rfl⟩ : ∃ m, n = m + 2 := ⟨n - 2, by omega⟩
    unfold euc
    split
    · assumption
    · rename_i hb
      unfold euc
      split
      · assumption
      · rename_i hr
        refine euc_zero k n (a % b) (b % (a % b)) ?_ (by omega)
        have := mod_half hr (Nat.le_of_lt (Nat.mod_lt a (by omega)))
        rw [Nat.pow_succ] at h
        omega
theorem euc_eq (k n a b : Nat) (h : b < 2 ^ k) (hn : 2 * k ≤ n) : (euc n a b).1 = Nat.gcd a b := by
  have h1 := euc_gcd n a b
  rw [euc_zero k n a b h hn, Nat.gcd_zero_right] at h1
  exact h1
end RQ
set_option linter.all false
/-! waves of rationals; core Lean alone -/
namespace RW
/-- a wave: its period, its corners -/
structure Wv where
  L : Int
  cs : List (Int × Rat)
structure Wv.Ok (w : Wv) : Prop where
  pos : 0 < w.L
  ne : w.cs ≠ []
  asc : w.cs.Pairwise (fun a b => a.1 < b.1)
  lo : ∀ c ∈ w.cs, 0 ≤ c.1
  hi : ∀ c ∈ w.cs, c.1 < w.L
def fst (w : Wv) : Int × Rat := w.cs.headD (0, 0)
def lst (w : Wv) : Int × Rat := w.cs.getLastD (0, 0)
def lef (w : Wv) (r : Int) : Int × Rat := (w.cs.filter fun c => decide (c.1 ≤ r)).getLastD ((lst w).1 - w.L, (lst w).2)
def rig (w : Wv) (r : Int) : Int × Rat := (w.cs.filter fun c => decide (r < c.1)).headD ((fst w).1 + w.L, (fst w).2)
def hAt (w : Wv) (t : Int) : Rat := (lef w (t % w.L)).2 + ((t % w.L - (lef w (t % w.L)).1 : Int) : Rat) * ((rig w (t % w.L)).2 - (lef w (t % w.L)).2) / (((rig w (t % w.L)).1 - (lef w (t % w.L)).1 : Int) : Rat)
def wat (h : Rat) (ws : List Wv) (t : Int) : Rat := ws.foldl (fun a w => a + hAt w t) h

/-! what corners tell, over all minutes -/
def Ext (w : Wv) (p : Int) (h : Rat) : Prop := (p % w.L, h) ∈ w.cs
structure IsVal (w : Wv) (t : Int) (v : Rat) : Prop where
  ex : ∃ p h q k, Ext w p h ∧ Ext w q k ∧ p ≤ t ∧ t < q ∧ (∀ x, p < x → x < q → ∀ h, ¬ Ext w x h) ∧ v = h + ((t - p : Int) : Rat) * (k - h) / ((q - p : Int) : Rat)
theorem pw_fun : ∀ {l : List (Int × Rat)}, l.Pairwise (fun a b => a.1 < b.1) → ∀ {m h k}, (m, h) ∈ l → (m, k) ∈ l → h = k
  | [], _, m, h, k, a, _ => by simp at a
  | c :: l, hp, m, h, k, a, b => by
    obtain ⟨h1, h2⟩ := List.pairwise_cons.mp hp
    rcases List.mem_cons.mp a with a | a <;> rcases List.mem_cons.mp b with b | b
    · rw [← a] at b; exact (Prod.mk.inj b).2.symm
    · have := h1 _ b; rw [← a] at this; simp at this
    · have := h1 _ a; rw [← b] at this; simp at this
    · exact pw_fun h2 a b
theorem Wv.Ok.uni {w : Wv} (o : w.Ok) {p : Int} {h k : Rat} (a : Ext w p h) (b : Ext w p k) : h = k := pw_fun o.asc a b
theorem IsVal.uni {w : Wv} (o : w.Ok) {t : Int} {v u : Rat} (a : IsVal w t v) (b : IsVal w t u) : v = u := by
  obtain ⟨p, h, q, k, e1, e2, l1, l2, no, rfl⟩ := a.ex
  obtain ⟨p', h', q', k', e1', e2', l1', l2', no', rfl⟩ := b.ex
  have hp : p = p' := by
    rcases Int.lt_trichotomy p p' with z | z | z
    · exact absurd e1' (no p' z (by omega) h')
    · exact z
    · exact absurd e1 (no' p z (by omega) h)
  have hq : q = q' := by
    rcases Int.lt_trichotomy q q' with z | z | z
    · exact absurd e2 (no' q (by omega) z k)
    · exact z
    · exact absurd e2' (no q' (by omega) z k')
  subst hp; subst hq
  rw [o.uni e1 e1', o.uni e2 e2']
/-! the greatest below, the least above -/
theorem last_in {α : Type} {l : List α} {d : α} : l ≠ [] → l.getLastD d ∈ l := by
  intro h
  cases l with
  | nil => exact absurd rfl h
  | cons a r =>
    rw [List.getLastD_cons]
    exact List.getLastD_mem_cons
theorem head_in {α : Type} {l : List α} {d : α} : l ≠ [] → l.headD d ∈ l := by
  intro h
  cases l with
  | nil => exact absurd rfl h
  | cons a r => exact List.mem_cons_self
theorem last_max : ∀ {l : List (Int × Rat)} {d : Int × Rat}, l.Pairwise (fun a b => a.1 < b.1) → ∀ c ∈ l, c.1 ≤ (l.getLastD d).1
  | [], _, _, c, hc => by simp at hc
  | a :: r, d, hp, c, hc => by
    obtain ⟨h1, h2⟩ := List.pairwise_cons.mp hp
    rw [List.getLastD_cons]
    rcases List.mem_cons.mp hc with rfl | hc
    · by_cases hr : r = []
      · subst hr; exact Int.le_refl _
      · exact Int.le_of_lt (h1 _ (last_in hr))
    · exact last_max h2 c hc
theorem head_min {l : List (Int × Rat)} {d : Int × Rat} (hp : l.Pairwise (fun a b => a.1 < b.1)) : ∀ c ∈ l, (l.headD d).1 ≤ c.1 := by
  cases l with
  | nil => intro c hc; simp at hc
  | cons a r =>
    intro c hc
    obtain ⟨h1, h2⟩ := List.pairwise_cons.mp hp
    rcases List.mem_cons.mp hc with rfl | hc
    · exact Int.le_refl _
    · exact Int.le_of_lt (h1 c hc)
theorem lst_in {w : Wv} (o : w.Ok) : lst w ∈ w.cs := last_in o.ne
theorem fst_in {w : Wv} (o : w.Ok) : fst w ∈ w.cs := head_in o.ne
theorem lef_cases {w : Wv} (o : w.Ok) (r : Int) : (lef w r ∈ w.cs ∧ (lef w r).1 ≤ r ∧ ∀ c ∈ w.cs, c.1 ≤ r → c.1 ≤ (lef w r).1) ∨ (lef w r = ((lst w).1 - w.L, (lst w).2) ∧ ∀ c ∈ w.cs, r < c.1) := by
  by_cases h : (w.cs.filter fun c => decide (c.1 ≤ r)) = []
  · right
    unfold lef
    rw [h]
    refine ⟨rfl, fun c hc => ?_⟩
    have := List.filter_eq_nil_iff.mp h c hc
    simp only [decide_eq_true_eq] at this
    omega
  · left
    have hm := last_in (d := ((lst w).1 - w.L, (lst w).2)) h
    obtain ⟨m1, m2⟩ := List.mem_filter.mp hm
    refine ⟨m1, of_decide_eq_true m2, fun c hc hr => ?_⟩
    exact last_max (List.Pairwise.filter _ o.asc) c (List.mem_filter.mpr ⟨hc, decide_eq_true hr⟩)
theorem rig_cases {w : Wv} (o : w.Ok) (r : Int) : (rig w r ∈ w.cs ∧ r < (rig w r).1 ∧ ∀ c ∈ w.cs, r < c.1 → (rig w r).1 ≤ c.1) ∨ (rig w r = ((fst w).1 + w.L, (fst w).2) ∧ ∀ c ∈ w.cs, c.1 ≤ r) := by
  by_cases h : (w.cs.filter fun c => decide (r < c.1)) = []
  · right
    unfold rig
    rw [h]
    refine ⟨rfl, fun c hc => ?_⟩
    have := List.filter_eq_nil_iff.mp h c hc
    simp only [decide_eq_true_eq] at this
    omega
  · left
    have hm := head_in (d := ((fst w).1 + w.L, (fst w).2)) h
    obtain ⟨m1, m2⟩ := List.mem_filter.mp hm
    refine ⟨m1, of_decide_eq_true m2, fun c hc hr => ?_⟩
    exact head_min (List.Pairwise.filter _ o.asc) c (List.mem_filter.mpr ⟨hc, decide_eq_true hr⟩)
/-- left and right of a rest: bounds -/
theorem lr_bounds {w : Wv} (o : w.Ok) {r : Int} (h0 : 0 ≤ r) (h1 : r < w.L) : -w.L ≤ (lef w r).1 ∧ (lef w r).1 ≤ r ∧ r < (rig w r).1 ∧ (rig w r).1 < 2 * w.L ∧ (rig w r).1 - (lef w r).1 ≤ w.L := by
  have hp := o.pos
  have l1 := o.lo _ (lst_in o)
  have l2 := o.hi _ (lst_in o)
  have f1 := o.lo _ (fst_in o)
  have f2 := o.hi _ (fst_in o)
  rcases lef_cases o r with ⟨a1, a2, a3⟩ | ⟨a1, a2⟩ <;> rcases rig_cases o r with ⟨b1, b2, b3⟩ | ⟨b1, b2⟩
  · have := o.lo _ a1; have := o.hi _ b1
    omega
  · have := o.lo _ a1
    have q : (fst w).1 ≤ (lef w r).1 := by
      have e : (fst w).1 ≤ r := b2 _ (fst_in o)
      exact a3 _ (fst_in o) e
    rw [b1]
    dsimp only
    omega
  · have := o.hi _ b1
    have q : (rig w r).1 ≤ (lst w).1 := b3 _ (lst_in o) (a2 _ (lst_in o))
    rw [a1]
    dsimp only
    omega
  · have := a2 _ (fst_in o); have := b2 _ (fst_in o)
    omega
theorem emod_in {x L : Int} (h0 : 0 ≤ x) (h1 : x < L) : x % L = x := Int.emod_eq_of_lt h0 h1
theorem hAt_val {w : Wv} (o : w.Ok) (t : Int) : IsVal w t (hAt w t) := by
  have hp := o.pos
  have h0 := Int.emod_nonneg t (b := w.L) (by omega)
  have h1 := Int.emod_lt_of_pos t hp
  have hb : ∀ y : Int, (t - t % w.L + y) % w.L = y % w.L := fun y => by
    rw [show t - t % w.L + y = y + w.L * (t / w.L) by have := Int.mul_ediv_add_emod t w.L; omega, Int.add_mul_emod_self_left]
  generalize hr : t % w.L = r at *
  have B := lr_bounds o h0 h1
  refine ⟨t - r + (lef w r).1, (lef w r).2, t - r + (rig w r).1, (rig w r).2, ?_, ?_, by omega, by omega, ?_, ?_⟩
  · unfold Ext
    rw [hb]
    rcases lef_cases o r with ⟨a1, a2, a3⟩ | ⟨a1, a2⟩
    · rw [emod_in (o.lo _ a1) (o.hi _ a1)]; exact a1
    · rw [a1]
      dsimp only
      rw [Int.sub_emod_right, emod_in (o.lo _ (lst_in o)) (o.hi _ (lst_in o))]
      exact lst_in o
  · unfold Ext
    rw [hb]
    rcases rig_cases o r with ⟨a1, a2, a3⟩ | ⟨a1, a2⟩
    · rw [emod_in (o.lo _ a1) (o.hi _ a1)]; exact a1
    · rw [a1]
      dsimp only
      rw [Int.add_emod_right, emod_in (o.lo _ (fst_in o)) (o.hi _ (fst_in o))]
      exact fst_in o
  · intro x hx1 hx2 h he
    obtain ⟨y, rfl⟩ : ∃ y, x = t - r + y := ⟨x - (t - r), by omega⟩
    unfold Ext at he
    rw [hb] at he
    have y1 : (lef w r).1 < y := by omega
    have y2 : y < (rig w r).1 := by omega
    have em := Int.emod_nonneg y (b := w.L) (by omega)
    have eM := Int.emod_lt_of_pos y hp
    by_cases c1 : y < 0
    · have e : y % w.L = y + w.L := by
        rw [← Int.add_emod_right, emod_in (by omega) (by omega)]
      rw [e] at he
      have := last_max (d := (0, 0)) o.asc _ he
      dsimp only at this
      rcases lef_cases o r with ⟨a1, a2, a3⟩ | ⟨a1, a2⟩
      · have := o.lo _ a1; omega
      · rw [a1] at y1
        dsimp only at y1
        have : (lst w).1 = (w.cs.getLastD (0, 0)).1 := rfl
        omega
    · by_cases c2 : y < w.L
      · rw [emod_in (by omega) c2] at he
        by_cases c3 : y ≤ r
        · rcases lef_cases o r with ⟨a1, a2, a3⟩ | ⟨a1, a2⟩
          · have := a3 _ he c3; dsimp only at this; omega
          · have := a2 _ he; dsimp only at this; omega
        · rcases rig_cases o r with ⟨a1, a2, a3⟩ | ⟨a1, a2⟩
          · have := a3 _ he (by dsimp only; omega); dsimp only at this; omega
          · have := a2 _ he; dsimp only at this; omega
      · have e : y % w.L = y - w.L := by
          rw [← Int.sub_emod_right, emod_in (by omega) (by omega)]
        rw [e] at he
        have := head_min (d := (0, 0)) o.asc _ he
        dsimp only at this
        rcases rig_cases o r with ⟨a1, a2, a3⟩ | ⟨a1, a2⟩
        · have := o.hi _ a1; omega
        · rw [a1] at y2
          dsimp only at y2
          have : (fst w).1 = (w.cs.headD (0, 0)).1 := rfl
          omega
  · unfold hAt
    rw [hr, show t - (t - r + (lef w r).1) = r - (lef w r).1 by omega, show t - r + (rig w r).1 - (t - r + (lef w r).1) = (rig w r).1 - (lef w r).1 by omega]
/-- a wave moved: the value is the one so many minutes ahead -/
theorem hAt_moved {w w' : Wv} (o : w.Ok) (o' : w'.Ok) (s : Int) (hL : w'.L = w.L) (hc : ∀ m h, (m, h) ∈ w'.cs ↔ ∃ m0, (m0, h) ∈ w.cs ∧ m = (m0 + s) % w.L) (t : Int) : hAt w' t = hAt w (t - s) := by
  have hx : ∀ p h, Ext w' p h ↔ Ext w (p - s) h := by
    intro p h
    unfold Ext
    rw [hL, hc]
    constructor
    · rintro ⟨m0, hm, e⟩
      have e2 : (p - s) % w.L = m0 := by
        rw [Int.sub_emod, e, ← Int.sub_emod, show m0 + s - s = m0 by omega]
        exact emod_in (o.lo _ hm) (o.hi _ hm)
      rw [e2]; exact hm
    · intro hm
      refine ⟨_, hm, ?_⟩
      rw [Int.add_emod, Int.emod_emod, ← Int.add_emod, show p - s + s = p by omega]
  refine IsVal.uni o' (hAt_val o' t) ?_
  obtain ⟨p, h, q, k, e1, e2, l1, l2, no, e⟩ := (hAt_val o (t - s)).ex
  refine ⟨p + s, h, q + s, k, (hx _ _).mpr (by rw [show p + s - s = p by omega]; exact e1), (hx _ _).mpr (by rw [show q + s - s = q by omega]; exact e2), by omega, by omega, fun x x1 x2 h' he => ?_, ?_⟩
  · exact no (x - s) (by omega) (by omega) h' ((hx _ _).mp he)
  · rw [e, show t - (p + s) = t - s - p by omega, show q + s - (p + s) = q - p by omega]
/-- a wave grown -/
def grown (k : Rat) (w : Wv) : Wv := ⟨w.L, w.cs.map fun c => (c.1, c.2 * k)⟩
theorem headD_map {α β : Type} (f : α → β) (l : List α) (d : α) : (l.map f).headD (f d) = f (l.headD d) := by cases l <;> rfl
theorem lastD_map {α β : Type} (f : α → β) : ∀ (l : List α) (d : α), (l.map f).getLastD (f d) = f (l.getLastD d)
  | [], d => rfl
  | a :: r, d => by rw [List.map_cons, List.getLastD_cons, List.getLastD_cons, lastD_map f r a]
theorem filt_map (P : Int → Bool) (k : Rat) (l : List (Int × Rat)) : (l.map fun c => (c.1, c.2 * k)).filter (fun c => P c.1) = (l.filter fun c => P c.1).map fun c => (c.1, c.2 * k) := by
  rw [List.filter_map]; rfl
theorem lst_grown (k : Rat) (w : Wv) (h : w.cs ≠ []) : lst (grown k w) = ((lst w).1, (lst w).2 * k) := by
  unfold lst grown
  cases e : w.cs with
  | nil => exact absurd e h
  | cons a r =>
    dsimp only
    rw [List.map_cons, List.getLastD_cons, List.getLastD_cons]
    exact lastD_map (fun c : Int × Rat => (c.1, c.2 * k)) r a
theorem fst_grown (k : Rat) (w : Wv) (h : w.cs ≠ []) : fst (grown k w) = ((fst w).1, (fst w).2 * k) := by
  unfold fst grown
  cases e : w.cs with
  | nil => exact absurd e h
  | cons a r => rfl
theorem lef_grown (k : Rat) (w : Wv) (h : w.cs ≠ []) (r : Int) : lef (grown k w) r = ((lef w r).1, (lef w r).2 * k) := by
  unfold lef
  rw [lst_grown k w h]
  show ((w.cs.map fun c => (c.1, c.2 * k)).filter (fun c => decide (c.1 ≤ r))).getLastD _ = _
  rw [filt_map (fun x => decide (x ≤ r)) k]
  exact lastD_map (fun c : Int × Rat => (c.1, c.2 * k)) _ ((lst w).1 - w.L, (lst w).2)
theorem rig_grown (k : Rat) (w : Wv) (h : w.cs ≠ []) (r : Int) : rig (grown k w) r = ((rig w r).1, (rig w r).2 * k) := by
  unfold rig
  rw [fst_grown k w h]
  show ((w.cs.map fun c => (c.1, c.2 * k)).filter (fun c => decide (r < c.1))).headD _ = _
  rw [filt_map (fun x => decide (r < x)) k]
  exact headD_map (fun c : Int × Rat => (c.1, c.2 * k)) _ ((fst w).1 + w.L, (fst w).2)
theorem hAt_grown (k : Rat) (w : Wv) (h : w.cs ≠ []) (t : Int) : hAt (grown k w) t = hAt w t * k := by
  unfold hAt
  rw [show (grown k w).L = w.L from rfl, lef_grown k w h, rig_grown k w h]
  dsimp only
  rw [Rat.div_def, Rat.div_def]
  grind
theorem grown_ok {k : Rat} {w : Wv} (o : w.Ok) : (grown k w).Ok := by
  refine ⟨o.pos, ?_, ?_, ?_, ?_⟩
  · intro h
    exact o.ne (by simpa [grown] using h)
  · unfold grown
    dsimp only
    rw [List.pairwise_map]
    exact o.asc
  · intro c hc
    obtain ⟨c0, h0, rfl⟩ := List.mem_map.mp hc
    exact o.lo c0 h0
  · intro c hc
    obtain ⟨c0, h0, rfl⟩ := List.mem_map.mp hc
    exact o.hi c0 h0
/-! sums of waves -/
theorem wat_acc (ws : List Wv) (t : Int) : ∀ h : Rat, wat h ws t = h + wat 0 ws t := by
  induction ws with
  | nil => intro h; unfold wat; simp only [List.foldl_nil]; grind
  | cons w ws ih =>
    intro h
    show wat (h + hAt w t) ws t = h + wat (0 + hAt w t) ws t
    rw [ih (h + hAt w t), ih (0 + hAt w t)]
    grind
theorem wat_cons (h : Rat) (w : Wv) (ws : List Wv) (t : Int) : wat h (w :: ws) t = hAt w t + wat h ws t := by
  show wat (h + hAt w t) ws t = _
  rw [wat_acc ws t (h + hAt w t), wat_acc ws t h]
  grind
theorem wat_add (h1 h2 : Rat) (ws us : List Wv) (t : Int) : wat (h1 + h2) (ws ++ us) t = wat h1 ws t + wat h2 us t := by
  induction ws with
  | nil =>
    rw [List.nil_append, wat_acc us t (h1 + h2), wat_acc us t h2]
    show h1 + h2 + _ = h1 + (h2 + _)
    grind
  | cons w ws ih => rw [List.cons_append, wat_cons, wat_cons, ih]; grind
theorem wat_grown (k h : Rat) (ws : List Wv) (hw : ∀ w ∈ ws, w.cs ≠ []) (t : Int) : wat (h * k) (ws.map (grown k)) t = wat h ws t * k := by
  induction ws with
  | nil => rfl
  | cons w ws ih =>
    rw [List.map_cons, wat_cons, wat_cons, ih fun u hu => hw u (List.mem_cons_of_mem _ hu), hAt_grown k w (hw w List.mem_cons_self)]
    grind
end RW
namespace RW
open RQ
/-! the line's value, as the program and as the law reckon it -/
theorem lin_eq (l R : Rat) (m n r : Int) (h : m < n) : Rat.divInt (l.num * R.den * (n - m) + (r - m) * (R.num * l.den - l.num * R.den)) (l.den * R.den * (n - m)) = l + ((r - m : Int) : Rat) * (R - l) / ((n - m : Int) : Rat) := by
  rw [Rat.divInt_eq_div]
  have hx := self_eq l
  have hy := self_eq R
  have h1 := den_cast l
  have h2 := den_cast R
  have h3 : ((n - m : Int) : Rat) ≠ 0 := cast_ne (by omega)
  conv => rhs; rw [hx, hy]
  grind
theorem lin_law (l R : Rat) (m n r : Int) (h : m < n) : l + Rat.divInt ((R - l).num * (r - m)) ((R - l).den * (n - m)) = l + ((r - m : Int) : Rat) * (R - l) / ((n - m : Int) : Rat) := by
  rw [Rat.divInt_eq_div]
  have hx := self_eq (R - l)
  have h1 := den_cast (R - l)
  have h3 : ((n - m : Int) : Rat) ≠ 0 := cast_ne (by omega)
  conv => rhs; rw [hx]
  grind
theorem hAt_law (w : Wv) (o : w.Ok) (t : Int) : (lef w (t % w.L)).2 + Rat.divInt (((rig w (t % w.L)).2 - (lef w (t % w.L)).2).num * (t % w.L - (lef w (t % w.L)).1)) (((rig w (t % w.L)).2 - (lef w (t % w.L)).2).den * ((rig w (t % w.L)).1 - (lef w (t % w.L)).1)) = hAt w t := by
  have hp := o.pos
  have B := lr_bounds o (Int.emod_nonneg t (b := w.L) (by omega)) (Int.emod_lt_of_pos t hp)
  exact lin_law _ _ _ _ _ (by omega)
theorem hAt_prog (w : Wv) (o : w.Ok) (t : Int) : Rat.divInt ((lef w (t % w.L)).2.num * (rig w (t % w.L)).2.den * ((rig w (t % w.L)).1 - (lef w (t % w.L)).1) + (t % w.L - (lef w (t % w.L)).1) * ((rig w (t % w.L)).2.num * (lef w (t % w.L)).2.den - (lef w (t % w.L)).2.num * (rig w (t % w.L)).2.den)) ((lef w (t % w.L)).2.den * (rig w (t % w.L)).2.den * ((rig w (t % w.L)).1 - (lef w (t % w.L)).1)) = hAt w t := by
  have hp := o.pos
  have B := lr_bounds o (Int.emod_nonneg t (b := w.L) (by omega)) (Int.emod_lt_of_pos t hp)
  exact lin_eq _ _ _ _ _ (by omega)
/-- what is bounded: the period below 2^k, the heights -/
structure Wv.Bd (w : Wv) (k p q : Nat) : Prop where
  per : w.L < 2 ^ k
  hts : ∀ c ∈ w.cs, Bq p q c.2
theorem lef_bq {w : Wv} (o : w.Ok) {k p q : Nat} (b : w.Bd k p q) (r : Int) : Bq p q (lef w r).2 := by
  rcases lef_cases o r with ⟨a1, _⟩ | ⟨a1, _⟩
  · exact b.hts _ a1
  · rw [a1]; exact b.hts (lst w) (lst_in o)
theorem rig_bq {w : Wv} (o : w.Ok) {k p q : Nat} (b : w.Bd k p q) (r : Int) : Bq p q (rig w r).2 := by
  rcases rig_cases o r with ⟨a1, _⟩ | ⟨a1, _⟩
  · exact b.hts _ a1
  · rw [a1]; exact b.hts (fst w) (fst_in o)
theorem gap_bd {w : Wv} (o : w.Ok) {k p q : Nat} (b : w.Bd k p q) (t : Int) : 0 < (rig w (t % w.L)).1 - (lef w (t % w.L)).1 ∧ RQ.Bd (k + 1) ((rig w (t % w.L)).1 - (lef w (t % w.L)).1) ∧ RQ.Bd (k + 1) (t % w.L - (lef w (t % w.L)).1) := by
  have hp := o.pos
  have B := lr_bounds o (Int.emod_nonneg t (b := w.L) (by omega)) (Int.emod_lt_of_pos t hp)
  have hk := b.per
  have h2 : (2 : Nat) ^ (k + 1) = 2 * 2 ^ k := by rw [Nat.pow_succ]; omega
  have h3 : ((2 ^ k : Nat) : Int) = (2 : Int) ^ k := by simp
  refine ⟨by omega, ?_, ?_⟩ <;> unfold RQ.Bd <;> omega
theorem hAt_bq {w : Wv} (o : w.Ok) {k p q : Nat} (b : w.Bd k p q) (t : Int) : Bq (p + 2 * q + 3 + k) (3 * q + k + 1) (hAt w t) := by
  rw [← hAt_law w o t]
  obtain ⟨g1, g2, g3⟩ := gap_bd o b t
  have hl := lef_bq o b (t % w.L)
  have hr := rig_bq o b (t % w.L)
  have hd := Bq.sub hr hl (p := p + q) (by omega) (by omega)
  have hx := bq_divInt (hd.n.mul g3) (hd.d.mul g2) (Int.mul_pos (den_pos _) g1)
  exact (Bq.add hl hx (p := p + 2 * q + 2 + k) (by omega) (by omega)).mono (by omega) (by omega)
end RW
set_option Elab.async false
set_option linter.all false
set_option maxRecDepth 100000
set_option maxHeartbeats 4000000
/-! the defs of the text, as the evaluator runs them -/
namespace K00
open PySem PySem.Spec PyProof.Rows L2 TI
def topS (i : Nat) : Stmt := PySem.Challenge.pw_surewater_k00_tides_waters.main.body.getD i (.Pass ⟨0, 0, 0, 0⟩)
def df_is_ratio : Df := ⟨["thing", "part"], 1, defScope (topS 4), defBody (topS 4)⟩
def df_ratio : Df := ⟨["a", "b", "shared"], 2, defScope (topS 5), defBody (topS 5)⟩
def df_plus : Df := ⟨["one", "other"], 2, defScope (topS 6), defBody (topS 6)⟩
def df_minus : Df := ⟨["one", "other"], 2, defScope (topS 7), defBody (topS 7)⟩
def df_product : Df := ⟨["one", "other"], 2, defScope (topS 8), defBody (topS 8)⟩
def df_compare : Df := ⟨["one", "other", "gap"], 2, defScope (topS 9), defBody (topS 9)⟩
def df_write_ratio : Df := ⟨["one", "a", "b", "text"], 1, defScope (topS 10), defBody (topS 10)⟩
def df_digits : Df := ⟨["number", "chunks", "low"], 1, defScope (topS 11), defBody (topS 11)⟩
def df_height_at : Df := ⟨["wave", "minute", "period", "corners", "rest", "before", "after", "m", "a", "b", "n", "c", "d", "corner"], 2, defScope (topS 13), defBody (topS 13)⟩
def df_is_tide : Df := ⟨["thing"], 1, defScope (topS 20), defBody (topS 20)⟩
def df_is_any_tide : Df := ⟨["thing"], 1, defScope (topS 21), defBody (topS 21)⟩
def df_water : Df := ⟨["tide", "minute", "total", "wave"], 2, defScope (topS 22), defBody (topS 22)⟩
def df_later : Df := ⟨["tide", "minutes", "waves", "_", "period", "corners", "moved", "minute", "height"], 2, defScope (topS 23), defBody (topS 23)⟩
def df_times : Df := ⟨["tide", "ratio", "waves", "_", "period", "corners", "grown", "minute", "height"], 2, defScope (topS 24), defBody (topS 24)⟩
def df_added : Df := ⟨["one", "other"], 2, defScope (topS 25), defBody (topS 25)⟩
def df_taken : Df := ⟨["one", "other"], 2, defScope (topS 26), defBody (topS 26)⟩
def df_u_is_tide : Df := ⟨["thing", "suits", "wave"], 2, defScope (topS 27), defBody (topS 27)⟩
def df_is_wave : Df := ⟨["thing", "suits", "period", "corners", "least", "corner"], 2, defScope (topS 28), defBody (topS 28)⟩
def df_is_whole : Df := ⟨["thing", "least", "most"], 3, defScope (topS 29), defBody (topS 29)⟩
def df_is_typed : Df := ⟨["thing"], 1, defScope (topS 30), defBody (topS 30)⟩
def df_law_cell : Df := ⟨["script", "k"], 2, defScope (topS 32), defBody (topS 32)⟩
def df_law_digits : Df := ⟨["script", "first", "last", "digits", "k", "cell", "turn", "seed"], 3, defScope (topS 33), defBody (topS 33)⟩
def df_law_draw : Df := ⟨["box", "many", "at"], 2, defScope (topS 34), defBody (topS 34)⟩
def df_law_pick : Df := ⟨["box", "things"], 2, defScope (topS 35), defBody (topS 35)⟩
def df_law_like : Df := ⟨["told", "due", "k"], 2, defScope (topS 36), defBody (topS 36)⟩
def df_law_gcd : Df := ⟨["one", "other", "turn"], 2, defScope (topS 37), defBody (topS 37)⟩
def df_law_ratio : Df := ⟨["a", "b", "step"], 2, defScope (topS 38), defBody (topS 38)⟩
def df_law_plus : Df := ⟨["one", "other"], 2, defScope (topS 39), defBody (topS 39)⟩
def df_law_minus : Df := ⟨["one", "other"], 2, defScope (topS 40), defBody (topS 40)⟩
def df_law_product : Df := ⟨["one", "other"], 2, defScope (topS 41), defBody (topS 41)⟩
def df_law_less : Df := ⟨["one", "other"], 2, defScope (topS 42), defBody (topS 42)⟩
def df_law_wave_at : Df := ⟨["wave", "minute", "length", "corners", "rest", "behind", "ahead", "left", "right", "rise", "corner"], 2, defScope (topS 43), defBody (topS 43)⟩
def df_law_water : Df := ⟨["tide", "minute", "found", "wave"], 2, defScope (topS 44), defBody (topS 44)⟩
def df_law_height : Df := ⟨["box"], 1, defScope (topS 45), defBody (topS 45)⟩
def df_law_wave : Df := ⟨["box", "periods", "length", "minutes", "k", "minute"], 2, defScope (topS 46), defBody (topS 46)⟩
def df_law_tide : Df := ⟨["box", "periods", "most", "k"], 3, defScope (topS 47), defBody (topS 47)⟩
def df_law_ratio_text : Df := ⟨["one"], 1, defScope (topS 48), defBody (topS 48)⟩
def df_law : Df := ⟨["script", "box", "periods", "one", "other", "s", "k", "ways", "minute", "here", "there", "due", "a", "b", "wrong", "bad", "worse", "j"], 1, defScope (topS 49), defBody (topS 49)⟩
def defs : List (Str × Df) := [(("is_ratio" : Str), df_is_ratio), (("ratio" : Str), df_ratio), (("plus" : Str), df_plus), (("minus" : Str), df_minus), (("product" : Str), df_product), (("compare" : Str), df_compare), (("write_ratio" : Str), df_write_ratio), (("_digits" : Str), df_digits), (("height_at" : Str), df_height_at), (("is_tide" : Str), df_is_tide), (("is_any_tide" : Str), df_is_any_tide), (("water" : Str), df_water), (("later" : Str), df_later), (("times" : Str), df_times), (("added" : Str), df_added), (("taken" : Str), df_taken), (("_is_tide" : Str), df_u_is_tide), (("_is_wave" : Str), df_is_wave), (("_is_whole" : Str), df_is_whole), (("_is_typed" : Str), df_is_typed), (("_law_cell" : Str), df_law_cell), (("_law_digits" : Str), df_law_digits), (("_law_draw" : Str), df_law_draw), (("_law_pick" : Str), df_law_pick), (("_law_like" : Str), df_law_like), (("_law_gcd" : Str), df_law_gcd), (("_law_ratio" : Str), df_law_ratio), (("_law_plus" : Str), df_law_plus), (("_law_minus" : Str), df_law_minus), (("_law_product" : Str), df_law_product), (("_law_less" : Str), df_law_less), (("_law_wave_at" : Str), df_law_wave_at), (("_law_water" : Str), df_law_water), (("_law_height" : Str), df_law_height), (("_law_wave" : Str), df_law_wave), (("_law_tide" : Str), df_law_tide), (("_law_ratio_text" : Str), df_law_ratio_text), (("law" : Str), df_law)]
def bis : List Str := ["abs", "all", "bool", "divmod", "int", "isinstance", "len", "range", "reversed", "set", "sorted", "str", "tuple"]
def cons : List (Str × Glo) := [("CHUNK", .con (.int 10000000000000000000000000000000000000000000000000000000000000000)), ("CHUNK_DIGITS", .con (.int 64)), ("MOST_WAVES", .con (.int 8)), ("MOST_CORNERS", .con (.int 24)), ("LONGEST_PERIOD", .con (.int 1800)), ("LARGEST", .con (.int 1000000)), ("GREATEST_LOW", .con (.int 60)), ("gcd", .mth "math.gcd")]
def TT (g : List D → Res) : Tab := ⟨defs, [], cons, bis, 640⟩
def getS (o : Option D) (k : D → Res) : Res := getK [o] 0 k
theorem getS_some (d : D) (k : D → Res) : getS (some d) k = k d := rfl
def asIK (d : D) (k : Int → Res) : Res := match d with
  | .int i => k i
  | _ => .stuck
def asLK (d : D) (k : List D → Res) : Res := match d with
  | .lst l => k l
  | _ => .stuck
def unpK (n : Nat) (d : D) (k : List D → Res) : Res := match d with
  | .tup l => ckK (decide (l.length = n)) (k l)
  | .lst l => ckK (decide (l.length = n)) (pusK l (k l))
  | _ => .stuck
def retK (d : D) (a b : Res) : Res := match d.pu with
  | true => a
  | false => b
def seqV (b : Bool) (d : D) (k : List D → Res) : Res := match d with
  | .tup l => k l
  | .rol l => k l
  | .lck l => k l
  | .lst l => ckK (!b) (pusK l (k l))
  | _ => .stuck
def enK (b : Bool) (d : D) (k : List D → Res) : Res := match d with
  | .rol ds => k ds
  | .lck ds => k ds
  | .lst ds => ckK (!b) (pusK ds (k ds))
  | _ => .stuck
def tupK (d : D) (k : List D → Res) : Res := match d with
  | .tup l => k l
  | _ => .stuck
def lstP (d : D) (k : List D → Res) : Res := match d with
  | .lst l => pusK l (k l)
  | _ => .stuck
def fnvK (d : D) (k : Str → Res) : Res := match d with
  | .fnv y => k y
  | _ => .stuck
def gfK (g : List D → Res) (y : Str) (k : Nat → Res) : Res := match (TT g).glo y with
  | .fn n => k n
  | _ => .stuck
theorem fnvK_f (y : Str) (k : Str → Res) : fnvK (.fnv y) k = k y := rfl
theorem i2K_ii (a b : Int) (k : Int → Int → Res) : i2K [.int a, .int b] k = k a b := rfl
def onRet (r : Res) (k : D → TI.Env → Res) (x : Str → List (Str × D) → Res) : Res := match r with
  | .ret d fin => k d fin
  | .exc c fs => x c fs
  | .stuck => .stuck
def exX (c : Str) (fs : List (Str × D)) : Res := .exc c fs
def xst (c : Str) (fs : List (Str × D)) : Res := .stuck
abbrev cl (g : List D → Res) (wf n : Nat) (f : Str) (ds : List D) : Res := (TT g).call wf 60 n f ds
def cdd (g : List D → Res) (wf n : Nat) (d : Df) : Cd := cdOf (TT g).glo ((TT g).call wf 60 n) (TT g).lim wf d
def at1 (l : List Stmt) (i : Nat) : Stmt := l.getD i (.Pass ⟨0, 0, 0, 0⟩)
def ifT : Stmt → List Stmt
  | .If _ a _ _ => a
  | _ => []
def ifF : Stmt → List Stmt
  | .If _ _ b _ => b
  | _ => []
def forB : Stmt → List Stmt
  | .For _ _ b _ _ => b
  | _ => []
def whB : Stmt → List Stmt
  | .While _ b _ _ => b
  | _ => []
def noE : Expr := .Constant .none 0 ⟨0, 0, 0, 0⟩
/-- a statement that runs on its own -/
def st1 (g : List D → Res) (wf n : Nat) (d : Df) (k : Nat) (st : Stmt) (ρ : TI.Env) (E : Nx) : Res := stepS1 (ev k) (cdd g wf n d) d.sc st ρ E
def stL (g : List D → Res) (wf n : Nat) (d : Df) (k : Nat) (l : List Stmt) (ρ : TI.Env) (E : Nx) : Res := (ev k).S (cdd g wf n d) d.sc l ρ E
def fst (g : List D → Res) (wf n : Nat) (d : Df) (k : Nat) (st : Stmt) : D → TI.Env → Nx → Res := match st with
  | .For tg _ body _ _ => fun x ρ2 E2 => (ev k).G (cdd g wf n d) d.sc tg x ρ2 fun ρ3 => (ev k).S (cdd g wf n d) d.sc body ρ3 E2
  | _ => fun _ _ _ => .stuck
def whC (g : List D → Res) (wf n : Nat) (d : Df) (k : Nat) (st : Stmt) : Nat → TI.Env → Nx → Res := match st with
  | .While c body _ _ => whileC (fun ρ1 q => (ev k).T (cdd g wf n d) d.sc c ρ1 q) (fun ρ1 E2 => (ev k).S (cdd g wf n d) d.sc body ρ1 E2)
  | _ => fun _ _ _ => .stuck
def lcs (g : List D → Res) (wf n : Nat) (d : Df) (k : Nat) (e : Expr) : D → TI.Env → (Option D → TI.Env → Res) → Res := match lcOf e with
  | some (elt, tg, _, ifs, scope) => lcStep (ev k) (cdd g wf n d) d.sc elt tg ifs scope
  | none => fun _ _ _ => .stuck
mutual
/-- the comprehensions that stand in an expression, from the left -/
def lcsE : Expr → List Expr
  | .ListComp elt [⟨tg, it, ifs, a⟩] sc p => .ListComp elt [⟨tg, it, ifs, a⟩] sc p :: (lcsE it ++ lcsE elt)
  | .Call f as _ _ => lcsE f ++ lcsEs as
  | .Attribute o _ _ => lcsE o
  | .BinOp a _ b _ => lcsE a ++ lcsE b
  | .Tuple es _ _ => lcsEs es
  | .List es _ => lcsEs es
  | .Compare a _ bs _ => lcsE a ++ lcsEs bs
  | .BoolOp _ es _ => lcsEs es
  | .UnaryOp _ a _ => lcsE a
  | .IfExp t a b _ => lcsE t ++ lcsE a ++ lcsE b
  | .Subscript b i _ => lcsE b ++ lcsE i
  | _ => []
def lcsEs : List Expr → List Expr
  | [] => []
  | e :: es => lcsE e ++ lcsEs es
end
def lcsS : Stmt → List Expr
  | .Return (some e) _ => lcsE e
  | .Assign _ e _ => lcsE e
  | .Expr e _ => lcsE e
  | .If c _ _ _ => lcsE c
  | .For _ it _ _ _ => lcsE it
  | .AugAssign _ _ e _ => lcsE e
  | _ => []
def lcAt (i : Nat) (st : Stmt) : Expr := (lcsS st).getD i noE
theorem stL_cons (g : List D → Res) (wf n : Nat) (d : Df) (k : Nat) (st : Stmt) (r : List Stmt) (ρ : TI.Env) (E : Nx) : stL g wf n d (k + 1) (st :: r) ρ E = st1 g wf n d k st ρ { E with nx := fun ρ1 => stL g wf n d k r ρ1 E } := rfl
theorem stL_nil (g : List D → Res) (wf n : Nat) (d : Df) (k : Nat) (ρ : TI.Env) (E : Nx) : stL g wf n d (k + 1) [] ρ E = E.nx ρ := rfl
theorem cl_run (g : List D → Res) (wf n : Nat) (f : Str) (d : Df) (ds : List D) (h : (TT g).fns.lookup f = some d) : cl g wf (n + 1) f ds = stL g wf n d 60 d.body (env0 d ds) (nx0 d.np) := by
  show (match (TT g).fns.lookup f with | some d => runD (TT g).glo ((TT g).call wf 60 n) (TT g).lim wf 60 d ds | none => _) = _
  rw [h]; rfl
theorem onRet_ret (d : D) (fin : TI.Env) (k : D → TI.Env → Res) (x : Str → List (Str × D) → Res) : onRet (.ret d fin) k x = k d fin := rfl
theorem onRet_exc (c : Str) (fs : List (Str × D)) (k : D → TI.Env → Res) (x : Str → List (Str × D) → Res) : onRet (.exc c fs) k x = x c fs := rfl
end K00
set_option Elab.async false
set_option linter.all false
set_option maxRecDepth 100000
set_option maxHeartbeats 4000000
/-! the defs of the text, as the evaluator runs them -/
namespace K00
open PySem PySem.Spec PyProof.Rows L2 TI
/-! BODY -/
/-! ### is_ratio -/
def b_is_ratio : List Stmt := df_is_ratio.body
theorem b_is_ratio_eq : b_is_ratio = [at1 b_is_ratio 0, at1 b_is_ratio 1, at1 b_is_ratio 2] := by kernel_rfl
theorem b_is_ratio_0 (g : List D → Res) (wf n : Nat) (o0 o1 : Option D) (E : Nx) : st1 g wf n df_is_ratio 59 (at1 b_is_ratio 0) [o0, o1] E =
  getS o0 fun d1 => dIsi d1 "tuple" fun z2 => dTru z2 fun c3 => (match (!c3) with | true => (match true with | true => stL g wf n df_is_ratio 59 (ifT (at1 b_is_ratio 0)) [o0, o1] E | false => stL g wf n df_is_ratio 59 (ifF (at1 b_is_ratio 0)) [o0, o1] E) | false => getS o0 fun d7 => getS o0 fun d4 => dLen d4 fun z5 => dEq z5 (.int 2) fun c6 => (match (!c6) with | true => stL g wf n df_is_ratio 59 (ifT (at1 b_is_ratio 0)) [o0, o1] E | false => stL g wf n df_is_ratio 59 (ifF (at1 b_is_ratio 0)) [o0, o1] E)) := by kernel_rfl
def b_is_ratio_0t : List Stmt := ifT (at1 b_is_ratio 0)
theorem b_is_ratio_0t_eq : b_is_ratio_0t = [at1 b_is_ratio_0t 0] := by kernel_rfl
theorem b_is_ratio_0t_0 (g : List D → Res) (wf n : Nat) (o0 o1 : Option D) (E : Nx) : st1 g wf n df_is_ratio 58 (at1 b_is_ratio_0t 0) [o0, o1] E =
  E.rt (.bl false) [o0, o1] := by kernel_rfl
theorem b_is_ratio_1 (g : List D → Res) (wf n : Nat) (o0 o1 : Option D) (E : Nx) : st1 g wf n df_is_ratio 58 (at1 b_is_ratio 1) [o0, o1] E =
  lockO o0 fun w1 => getS w1 fun d2 => seqV true d2 fun l3 => forC (fst g wf n df_is_ratio 58 (at1 b_is_ratio 1)) l3 [w1, o1] E := by kernel_rfl
theorem b_is_ratio_1x (g : List D → Res) (wf n : Nat) (x : D) (o0 o1 : Option D) (E : Nx) : fst g wf n df_is_ratio 58 (at1 b_is_ratio 1) x [o0, o1] E =
  stL g wf n df_is_ratio 58 (forB (at1 b_is_ratio 1)) [o0, some x] E := by kernel_rfl
def b_is_ratio_1b : List Stmt := forB (at1 b_is_ratio 1)
theorem b_is_ratio_1b_eq : b_is_ratio_1b = [at1 b_is_ratio_1b 0] := by kernel_rfl
theorem b_is_ratio_1b_0 (g : List D → Res) (wf n : Nat) (o0 o1 : Option D) (E : Nx) : st1 g wf n df_is_ratio 57 (at1 b_is_ratio_1b 0) [o0, o1] E =
  getS o1 fun d1 => dIsi d1 "int" fun z2 => dTru z2 fun c3 => (match (!c3) with | true => (match true with | true => stL g wf n df_is_ratio 57 (ifT (at1 b_is_ratio_1b 0)) [o0, o1] E | false => stL g wf n df_is_ratio 57 (ifF (at1 b_is_ratio_1b 0)) [o0, o1] E) | false => getS o1 fun d4 => dIsi d4 "bool" fun z5 => dTru z5 fun c6 => (match c6 with | true => stL g wf n df_is_ratio 57 (ifT (at1 b_is_ratio_1b 0)) [o0, o1] E | false => stL g wf n df_is_ratio 57 (ifF (at1 b_is_ratio_1b 0)) [o0, o1] E)) := by kernel_rfl
def b_is_ratio_1b_0t : List Stmt := ifT (at1 b_is_ratio_1b 0)
theorem b_is_ratio_1b_0t_eq : b_is_ratio_1b_0t = [at1 b_is_ratio_1b_0t 0] := by kernel_rfl
theorem b_is_ratio_1b_0t_0 (g : List D → Res) (wf n : Nat) (o0 o1 : Option D) (E : Nx) : st1 g wf n df_is_ratio 56 (at1 b_is_ratio_1b_0t 0) [o0, o1] E =
  E.rt (.bl false) [o0, o1] := by kernel_rfl
theorem b_is_ratio_2 (g : List D → Res) (wf n : Nat) (o0 o1 : Option D) (E : Nx) : st1 g wf n df_is_ratio 57 (at1 b_is_ratio 2) [o0, o1] E =
  getS o0 fun d1 => getS o0 fun d2 => dIx d2 (.int 1) fun z3 => dLe (.int 1) z3 fun c4 => dTru (.bl c4) fun c5 => (match c5 with | true => getS o0 fun d6 => getS o0 fun d7 => dIx d7 (.int 0) fun z8 => puK z8 (getS o0 fun d9 => getS o0 fun d10 => dIx d10 (.int 1) fun z11 => i2K [z8, z11] fun i12 i13 => dGcd i12 i13 fun z14 => dEq z14 (.int 1) fun c15 => E.rt (.bl c15) [o0, o1]) | false => E.rt (.bl c4) [o0, o1]) := by kernel_rfl
/-! ### ratio -/
def b_ratio : List Stmt := df_ratio.body
theorem b_ratio_eq : b_ratio = [at1 b_ratio 0, at1 b_ratio 1, at1 b_ratio 2] := by kernel_rfl
theorem b_ratio_0 (g : List D → Res) (wf n : Nat) (o0 o1 o2 : Option D) (E : Nx) : st1 g wf n df_ratio 59 (at1 b_ratio 0) [o0, o1, o2] E =
  getS o0 fun d7 => getS o1 fun d6 => getS o0 fun d1 => getS o1 fun d2 => i2K [d1, d2] fun i3 i4 => dGcd i3 i4 fun z5 => E.nx [o0, o1, some z5] := by kernel_rfl
theorem b_ratio_1 (g : List D → Res) (wf n : Nat) (o0 o1 o2 : Option D) (E : Nx) : st1 g wf n df_ratio 58 (at1 b_ratio 1) [o0, o1, o2] E =
  getS o1 fun d1 => dLt d1 (.int 0) fun c2 => (match c2 with | true => stL g wf n df_ratio 58 (ifT (at1 b_ratio 1)) [o0, o1, o2] E | false => stL g wf n df_ratio 58 (ifF (at1 b_ratio 1)) [o0, o1, o2] E) := by kernel_rfl
def b_ratio_1t : List Stmt := ifT (at1 b_ratio 1)
theorem b_ratio_1t_eq : b_ratio_1t = [at1 b_ratio_1t 0] := by kernel_rfl
theorem b_ratio_1t_0 (g : List D → Res) (wf n : Nat) (o0 o1 o2 : Option D) (E : Nx) : st1 g wf n df_ratio 57 (at1 b_ratio_1t 0) [o0, o1, o2] E =
  getS o2 fun d1 => dNeg d1 fun z2 => E.nx [o0, o1, some z2] := by kernel_rfl
theorem b_ratio_2 (g : List D → Res) (wf n : Nat) (o0 o1 o2 : Option D) (E : Nx) : st1 g wf n df_ratio 57 (at1 b_ratio 2) [o0, o1, o2] E =
  getS o0 fun d1 => getS o2 fun d2 => dDiv d1 d2 fun z3 => getS o1 fun d4 => getS o2 fun d5 => dDiv d4 d5 fun z6 => pusK [z3, z6] (E.rt (.tup [z3, z6]) [o0, o1, o2]) := by kernel_rfl
/-! ### plus -/
def b_plus : List Stmt := df_plus.body
theorem b_plus_eq : b_plus = [at1 b_plus 0] := by kernel_rfl
theorem b_plus_0 (g : List D → Res) (wf n : Nat) (o0 o1 : Option D) (E : Nx) : st1 g wf n df_plus 59 (at1 b_plus 0) [o0, o1] E =
  getS o0 fun d1 => getS o0 fun d2 => dIx d2 (.int 0) fun z3 => puK z3 (getS o1 fun d4 => getS o1 fun d5 => dIx d5 (.int 1) fun z6 => dMul z3 z6 fun z7 => getS o1 fun d8 => getS o1 fun d9 => dIx d9 (.int 0) fun z10 => puK z10 (getS o0 fun d11 => getS o0 fun d12 => dIx d12 (.int 1) fun z13 => dMul z10 z13 fun z14 => dAdd z7 z14 fun z15 => getS o0 fun d16 => getS o0 fun d17 => dIx d17 (.int 1) fun z18 => puK z18 (getS o1 fun d19 => getS o1 fun d20 => dIx d20 (.int 1) fun z21 => dMul z18 z21 fun z22 => onRet (cl g wf n "ratio" [z15, z22]) (fun r23 f24 => E.rt r23 [o0, o1]) exX))) := by kernel_rfl
/-! ### minus -/
def b_minus : List Stmt := df_minus.body
theorem b_minus_eq : b_minus = [at1 b_minus 0] := by kernel_rfl
theorem b_minus_0 (g : List D → Res) (wf n : Nat) (o0 o1 : Option D) (E : Nx) : st1 g wf n df_minus 59 (at1 b_minus 0) [o0, o1] E =
  getS o0 fun d1 => getS o0 fun d2 => dIx d2 (.int 0) fun z3 => puK z3 (getS o1 fun d4 => getS o1 fun d5 => dIx d5 (.int 1) fun z6 => dMul z3 z6 fun z7 => getS o1 fun d8 => getS o1 fun d9 => dIx d9 (.int 0) fun z10 => puK z10 (getS o0 fun d11 => getS o0 fun d12 => dIx d12 (.int 1) fun z13 => dMul z10 z13 fun z14 => dSub z7 z14 fun z15 => getS o0 fun d16 => getS o0 fun d17 => dIx d17 (.int 1) fun z18 => puK z18 (getS o1 fun d19 => getS o1 fun d20 => dIx d20 (.int 1) fun z21 => dMul z18 z21 fun z22 => onRet (cl g wf n "ratio" [z15, z22]) (fun r23 f24 => E.rt r23 [o0, o1]) exX))) := by kernel_rfl
/-! ### product -/
def b_product : List Stmt := df_product.body
theorem b_product_eq : b_product = [at1 b_product 0] := by kernel_rfl
theorem b_product_0 (g : List D → Res) (wf n : Nat) (o0 o1 : Option D) (E : Nx) : st1 g wf n df_product 59 (at1 b_product 0) [o0, o1] E =
  getS o0 fun d1 => getS o0 fun d2 => dIx d2 (.int 0) fun z3 => puK z3 (getS o1 fun d4 => getS o1 fun d5 => dIx d5 (.int 0) fun z6 => dMul z3 z6 fun z7 => getS o0 fun d8 => getS o0 fun d9 => dIx d9 (.int 1) fun z10 => puK z10 (getS o1 fun d11 => getS o1 fun d12 => dIx d12 (.int 1) fun z13 => dMul z10 z13 fun z14 => onRet (cl g wf n "ratio" [z7, z14]) (fun r15 f16 => E.rt r15 [o0, o1]) exX)) := by kernel_rfl
/-! ### compare -/
def b_compare : List Stmt := df_compare.body
theorem b_compare_eq : b_compare = [at1 b_compare 0, at1 b_compare 1, at1 b_compare 2] := by kernel_rfl
theorem b_compare_0 (g : List D → Res) (wf n : Nat) (o0 o1 o2 : Option D) (E : Nx) : st1 g wf n df_compare 59 (at1 b_compare 0) [o0, o1, o2] E =
  getS o0 fun d1 => getS o0 fun d2 => dIx d2 (.int 0) fun z3 => puK z3 (getS o1 fun d4 => getS o1 fun d5 => dIx d5 (.int 1) fun z6 => dMul z3 z6 fun z7 => getS o1 fun d8 => getS o1 fun d9 => dIx d9 (.int 0) fun z10 => puK z10 (getS o0 fun d11 => getS o0 fun d12 => dIx d12 (.int 1) fun z13 => dMul z10 z13 fun z14 => dSub z7 z14 fun z15 => E.nx [o0, o1, some z15])) := by kernel_rfl
theorem b_compare_1 (g : List D → Res) (wf n : Nat) (o0 o1 o2 : Option D) (E : Nx) : st1 g wf n df_compare 58 (at1 b_compare 1) [o0, o1, o2] E =
  getS o2 fun d1 => dLt d1 (.int 0) fun c2 => (match c2 with | true => stL g wf n df_compare 58 (ifT (at1 b_compare 1)) [o0, o1, o2] E | false => stL g wf n df_compare 58 (ifF (at1 b_compare 1)) [o0, o1, o2] E) := by kernel_rfl
def b_compare_1t : List Stmt := ifT (at1 b_compare 1)
theorem b_compare_1t_eq : b_compare_1t = [at1 b_compare_1t 0] := by kernel_rfl
theorem b_compare_1t_0 (g : List D → Res) (wf n : Nat) (o0 o1 o2 : Option D) (E : Nx) : st1 g wf n df_compare 57 (at1 b_compare_1t 0) [o0, o1, o2] E =
  dNeg (.int 1) fun z1 => E.rt z1 [o0, o1, o2] := by kernel_rfl
theorem b_compare_2 (g : List D → Res) (wf n : Nat) (o0 o1 o2 : Option D) (E : Nx) : st1 g wf n df_compare 57 (at1 b_compare 2) [o0, o1, o2] E =
  getS o2 fun d1 => dLt (.int 0) d1 fun c2 => (match c2 with | true => E.rt (.int 1) [o0, o1, o2] | false => E.rt (.int 0) [o0, o1, o2]) := by kernel_rfl
/-! ### write_ratio -/
def b_write_ratio : List Stmt := df_write_ratio.body
theorem b_write_ratio_eq : b_write_ratio = [at1 b_write_ratio 0, at1 b_write_ratio 1, at1 b_write_ratio 2] := by kernel_rfl
theorem b_write_ratio_0 (g : List D → Res) (wf n : Nat) (o0 o1 o2 o3 : Option D) (E : Nx) : st1 g wf n df_write_ratio 59 (at1 b_write_ratio 0) [o0, o1, o2, o3] E =
  getS o0 fun d1 => ckK (!true || D.pu d1) (unpK 2 d1 fun l2 => consK l2 fun d3 l4 => consK l4 fun d5 l6 => nilK l6 (E.nx [o0, some d3, some d5, o3])) := by kernel_rfl
theorem b_write_ratio_1 (g : List D → Res) (wf n : Nat) (o0 o1 o2 o3 : Option D) (E : Nx) : st1 g wf n df_write_ratio 58 (at1 b_write_ratio 1) [o0, o1, o2, o3] E =
  getS o1 fun d1 => dLe (.int 0) d1 fun c2 => (match c2 with | true => getS o1 fun d6 => getS o1 fun d3 => onRet (cl g wf n "_digits" [d3]) (fun r4 f5 => E.nx [o0, unlend d3 f5[0]?, o2, some r4]) exX | false => getS o1 fun d7 => dNeg d7 fun z8 => onRet (cl g wf n "_digits" [z8]) (fun r9 f10 => dAdd (.str "-") r9 fun z11 => E.nx [o0, o1, o2, some z11]) exX) := by kernel_rfl
theorem b_write_ratio_2 (g : List D → Res) (wf n : Nat) (o0 o1 o2 o3 : Option D) (E : Nx) : st1 g wf n df_write_ratio 57 (at1 b_write_ratio 2) [o0, o1, o2, o3] E =
  getS o2 fun d1 => dEq d1 (.int 1) fun c2 => (match c2 with | true => getS o3 fun d3 => retK d3 (E.rt d3 [o0, o1, o2, o3]) (ckK (decide (1 ≤ 3)) (E.rt d3 [o0, o1, o2, none])) | false => getS o3 fun d4 => dAdd d4 (.str "/") fun z5 => getS o2 fun d10 => getS o2 fun d6 => onRet (cl g wf n "_digits" [d6]) (fun r7 f8 => dAdd z5 r7 fun z9 => E.rt z9 [o0, o1, unlend d6 f8[0]?, o3]) exX) := by kernel_rfl
/-! ### _digits -/
def b_digits : List Stmt := df_digits.body
theorem b_digits_eq : b_digits = [at1 b_digits 0, at1 b_digits 1, at1 b_digits 2] := by kernel_rfl
theorem b_digits_0 (g : List D → Res) (wf n : Nat) (o0 o1 o2 : Option D) (E : Nx) : st1 g wf n df_digits 59 (at1 b_digits 0) [o0, o1, o2] E =
  E.nx [o0, some (.lst []), o2] := by kernel_rfl
theorem b_digits_1 (g : List D → Res) (wf n : Nat) (o0 o1 o2 : Option D) (E : Nx) : st1 g wf n df_digits 58 (at1 b_digits 1) [o0, o1, o2] E =
  whC g wf n df_digits 58 (at1 b_digits 1) wf [o0, o1, o2] E := by kernel_rfl
theorem b_digits_1w (g : List D → Res) (wf n w : Nat) (o0 o1 o2 : Option D) (E : Nx) : whC g wf n df_digits 58 (at1 b_digits 1) (w + 1) [o0, o1, o2] E =
  getS o0 fun d1 => dLe (.int 10000000000000000000000000000000000000000000000000000000000000000) d1 fun c2 => (match c2 with | true => stL g wf n df_digits 58 (whB (at1 b_digits 1)) [o0, o1, o2] { nx := fun ρ2 => whC g wf n df_digits 58 (at1 b_digits 1) w ρ2 E, bk := E.nx, ct := fun ρ2 => whC g wf n df_digits 58 (at1 b_digits 1) w ρ2 E, rt := E.rt } | false => E.nx [o0, o1, o2]) := by kernel_rfl
def b_digits_1b : List Stmt := whB (at1 b_digits 1)
theorem b_digits_1b_eq : b_digits_1b = [at1 b_digits_1b 0, at1 b_digits_1b 1] := by kernel_rfl
theorem b_digits_1b_0 (g : List D → Res) (wf n : Nat) (o0 o1 o2 : Option D) (E : Nx) : st1 g wf n df_digits 57 (at1 b_digits_1b 0) [o0, o1, o2] E =
  getS o0 fun d9 => getS o0 fun d1 => dDvm d1 (.int 10000000000000000000000000000000000000000000000000000000000000000) fun z2 => unpK 2 z2 fun l3 => consK l3 fun d4 l5 => puK d4 (getS o0 fun d6 => puK d6 (consK l5 fun d7 l8 => nilK l8 (E.nx [some d4, o1, some d7]))) := by kernel_rfl
-- not printed: b_digits_1b_1: method zfill
theorem b_digits_2 (g : List D → Res) (wf n : Nat) (o0 o1 o2 : Option D) (E : Nx) : st1 g wf n df_digits 57 (at1 b_digits 2) [o0, o1, o2] E =
  oK (asS [(.str "")]) fun s1 => getS o0 fun d8 => getS o0 fun d3 => dStr d3 fun z4 => frzK false z4 fun x2 => getS o1 fun d6 => lstP' d6 fun l5 => ckK (decide (List.length ((x2 :: (l5.reverse ++ [])) : List D) ≤ szLine)) (dJoin s1 (.lst (x2 :: (l5.reverse ++ []))) fun z7 => E.rt z7 [o0, o1, o2]) := by kernel_rfl
/-! ### height_at -/
def b_height_at : List Stmt := df_height_at.body
theorem b_height_at_eq : b_height_at = [at1 b_height_at 0, at1 b_height_at 1, at1 b_height_at 2, at1 b_height_at 3, at1 b_height_at 4, at1 b_height_at 5, at1 b_height_at 6] := by kernel_rfl
theorem b_height_at_0 (g : List D → Res) (wf n : Nat) (o0 o1 o2 o3 o4 o5 o6 o7 o8 o9 o10 o11 o12 o13 : Option D) (E : Nx) : st1 g wf n df_height_at 59 (at1 b_height_at 0) [o0, o1, o2, o3, o4, o5, o6, o7, o8, o9, o10, o11, o12, o13] E =
  getS o0 fun d1 => getS o0 fun d2 => dIx d2 (.int 1) fun z3 => puK z3 (getS o0 fun d4 => getS o0 fun d5 => dIx d5 (.int 2) fun z6 => puK z6 (E.nx [o0, o1, some z3, some z6, o4, o5, o6, o7, o8, o9, o10, o11, o12, o13])) := by kernel_rfl
theorem b_height_at_1 (g : List D → Res) (wf n : Nat) (o0 o1 o2 o3 o4 o5 o6 o7 o8 o9 o10 o11 o12 o13 : Option D) (E : Nx) : st1 g wf n df_height_at 58 (at1 b_height_at 1) [o0, o1, o2, o3, o4, o5, o6, o7, o8, o9, o10, o11, o12, o13] E =
  getS o1 fun d1 => getS o2 fun d2 => dMod d1 d2 fun z3 => E.nx [o0, o1, o2, o3, some z3, o5, o6, o7, o8, o9, o10, o11, o12, o13] := by kernel_rfl
def b_height_at_2_lc1_e : Expr := lcAt 0 (at1 b_height_at 2)
def b_height_at_2_lc1 (g : List D → Res) (wf n : Nat) : D → TI.Env → (Option D → TI.Env → Res) → Res := lcs g wf n df_height_at 57 b_height_at_2_lc1_e
theorem b_height_at_2_lc1_x (g : List D → Res) (wf n : Nat) (x : D) (o0 o1 o2 o3 o4 o5 o6 o7 o8 o9 o10 o11 o12 o13 : Option D) (k2 : Option D → TI.Env → Res) : b_height_at_2_lc1 g wf n x [o0, o1, o2, o3, o4, o5, o6, o7, o8, o9, o10, o11, o12, o13] k2 =
  dIx x (.int 0) fun z1 => getS o4 fun d2 => dLe z1 d2 fun c3 => (match c3 with | true => puK x (k2 (some x) [o0, o1, o2, o3, o4, o5, o6, o7, o8, o9, o10, o11, o12, some x]) | false => k2 none [o0, o1, o2, o3, o4, o5, o6, o7, o8, o9, o10, o11, o12, some x]) := by kernel_rfl
theorem b_height_at_2 (g : List D → Res) (wf n : Nat) (o0 o1 o2 o3 o4 o5 o6 o7 o8 o9 o10 o11 o12 o13 : Option D) (E : Nx) : st1 g wf n df_height_at 57 (at1 b_height_at 2) [o0, o1, o2, o3, o4, o5, o6, o7, o8, o9, o10, o11, o12, o13] E =
  lockO o3 fun w1 => getS w1 fun d2 => seqV true d2 fun l3 => ckK (hidOk [o0, o1, o2, w1, o4, o5, o6, o7, o8, o9, o10, o11, o12, o13] [13]) (lcC (b_height_at_2_lc1 g wf n) l3 [] [o0, o1, o2, w1, o4, o5, o6, o7, o8, o9, o10, o11, o12, none] fun a4 r5 => E.nx ((wipeB r5 [o0, o1, o2, w1, o4, o5, o6, o7, o8, o9, o10, o11, o12, o13] [13]).set 5 (some (.lst a4)))) := by kernel_rfl
theorem b_height_at_3 (g : List D → Res) (wf n : Nat) (o0 o1 o2 o3 o4 o5 o6 o7 o8 o9 o10 o11 o12 o13 : Option D) (E : Nx) : st1 g wf n df_height_at 56 (at1 b_height_at 3) [o0, o1, o2, o3, o4, o5, o6, o7, o8, o9, o10, o11, o12, o13] E =
  getS o3 fun d1 => getS o5 fun d7 => getS o5 fun d2 => dLen d2 fun z3 => asIK z3 fun i4 => getS o3 fun d5 => dSl d5 (some i4) none fun z6 => E.nx [o0, o1, o2, o3, o4, o5, some z6, o7, o8, o9, o10, o11, o12, o13] := by kernel_rfl
theorem b_height_at_4 (g : List D → Res) (wf n : Nat) (o0 o1 o2 o3 o4 o5 o6 o7 o8 o9 o10 o11 o12 o13 : Option D) (E : Nx) : st1 g wf n df_height_at 55 (at1 b_height_at 4) [o0, o1, o2, o3, o4, o5, o6, o7, o8, o9, o10, o11, o12, o13] E =
  getS o5 fun d1 => dTru d1 fun c2 => (match c2 with | true => getS o5 fun d3 => dNeg (.int 1) fun z4 => getS o5 fun d5 => dIx d5 z4 fun z6 => ckK (!true || D.pu z6) (unpK 2 z6 fun l7 => consK l7 fun d8 l9 => consK l9 fun d10 l11 => unpK 2 d10 fun l12 => consK l12 fun d13 l14 => consK l14 fun d15 l16 => nilK l16 (nilK l11 (E.nx [o0, o1, o2, o3, o4, o5, o6, some d8, some d13, some d15, o10, o11, o12, o13]))) | false => getS o3 fun d17 => dNeg (.int 1) fun z18 => getS o3 fun d19 => dIx d19 z18 fun z20 => dIx z20 (.int 0) fun z21 => getS o2 fun d22 => dSub z21 d22 fun z23 => getS o3 fun d24 => dNeg (.int 1) fun z25 => getS o3 fun d26 => dIx d26 z25 fun z27 => dIx z27 (.int 1) fun z28 => puK z28 (pusK [z23, z28] (ckK (!true || D.pu (.tup [z23, z28])) (unpK 2 (.tup [z23, z28]) fun l29 => consK l29 fun d30 l31 => consK l31 fun d32 l33 => unpK 2 d32 fun l34 => consK l34 fun d35 l36 => consK l36 fun d37 l38 => nilK l38 (nilK l33 (E.nx [o0, o1, o2, o3, o4, o5, o6, some d30, some d35, some d37, o10, o11, o12, o13])))))) := by kernel_rfl
theorem b_height_at_5 (g : List D → Res) (wf n : Nat) (o0 o1 o2 o3 o4 o5 o6 o7 o8 o9 o10 o11 o12 o13 : Option D) (E : Nx) : st1 g wf n df_height_at 54 (at1 b_height_at 5) [o0, o1, o2, o3, o4, o5, o6, o7, o8, o9, o10, o11, o12, o13] E =
  getS o6 fun d1 => dTru d1 fun c2 => (match c2 with | true => getS o6 fun d3 => getS o6 fun d4 => dIx d4 (.int 0) fun z5 => ckK (!true || D.pu z5) (unpK 2 z5 fun l6 => consK l6 fun d7 l8 => consK l8 fun d9 l10 => unpK 2 d9 fun l11 => consK l11 fun d12 l13 => consK l13 fun d14 l15 => nilK l15 (nilK l10 (E.nx [o0, o1, o2, o3, o4, o5, o6, o7, o8, o9, some d7, some d12, some d14, o13]))) | false => getS o3 fun d16 => getS o3 fun d17 => dIx d17 (.int 0) fun z18 => dIx z18 (.int 0) fun z19 => getS o2 fun d20 => dAdd z19 d20 fun z21 => getS o3 fun d22 => getS o3 fun d23 => dIx d23 (.int 0) fun z24 => dIx z24 (.int 1) fun z25 => puK z25 (pusK [z21, z25] (ckK (!true || D.pu (.tup [z21, z25])) (unpK 2 (.tup [z21, z25]) fun l26 => consK l26 fun d27 l28 => consK l28 fun d29 l30 => unpK 2 d29 fun l31 => consK l31 fun d32 l33 => consK l33 fun d34 l35 => nilK l35 (nilK l30 (E.nx [o0, o1, o2, o3, o4, o5, o6, o7, o8, o9, some d27, some d32, some d34, o13])))))) := by kernel_rfl
theorem b_height_at_6 (g : List D → Res) (wf n : Nat) (o0 o1 o2 o3 o4 o5 o6 o7 o8 o9 o10 o11 o12 o13 : Option D) (E : Nx) : st1 g wf n df_height_at 53 (at1 b_height_at 6) [o0, o1, o2, o3, o4, o5, o6, o7, o8, o9, o10, o11, o12, o13] E =
  getS o8 fun d1 => getS o12 fun d2 => dMul d1 d2 fun z3 => getS o10 fun d4 => getS o7 fun d5 => dSub d4 d5 fun z6 => dMul z3 z6 fun z7 => getS o4 fun d8 => getS o7 fun d9 => dSub d8 d9 fun z10 => getS o11 fun d11 => getS o9 fun d12 => dMul d11 d12 fun z13 => getS o8 fun d14 => getS o12 fun d15 => dMul d14 d15 fun z16 => dSub z13 z16 fun z17 => dMul z10 z17 fun z18 => dAdd z7 z18 fun z19 => getS o9 fun d20 => getS o12 fun d21 => dMul d20 d21 fun z22 => getS o10 fun d23 => getS o7 fun d24 => dSub d23 d24 fun z25 => dMul z22 z25 fun z26 => onRet (cl g wf n "ratio" [z19, z26]) (fun r27 f28 => E.rt r27 [o0, o1, o2, o3, o4, o5, o6, o7, o8, o9, o10, o11, o12, o13]) exX := by kernel_rfl
/-! ### is_tide -/
def b_is_tide : List Stmt := df_is_tide.body
theorem b_is_tide_eq : b_is_tide = [at1 b_is_tide 0] := by kernel_rfl
theorem b_is_tide_0 (g : List D → Res) (wf n : Nat) (o0 : Option D) (E : Nx) : st1 g wf n df_is_tide 59 (at1 b_is_tide 0) [o0] E =
  getS o0 fun d4 => puK (.fnv "_is_typed") (getS o0 fun d1 => onRet (cl g wf n "_is_tide" [d1, (.fnv "_is_typed")]) (fun r2 f3 => E.rt r2 [unlend d1 f3[0]?]) exX) := by kernel_rfl
/-! ### is_any_tide -/
def b_is_any_tide : List Stmt := df_is_any_tide.body
theorem b_is_any_tide_eq : b_is_any_tide = [at1 b_is_any_tide 0] := by kernel_rfl
theorem b_is_any_tide_0 (g : List D → Res) (wf n : Nat) (o0 : Option D) (E : Nx) : st1 g wf n df_is_any_tide 59 (at1 b_is_any_tide 0) [o0] E =
  getS o0 fun d4 => puK (.fnv "is_ratio") (getS o0 fun d1 => onRet (cl g wf n "_is_tide" [d1, (.fnv "is_ratio")]) (fun r2 f3 => E.rt r2 [unlend d1 f3[0]?]) exX) := by kernel_rfl
/-! ### water -/
def b_water : List Stmt := df_water.body
theorem b_water_eq : b_water = [at1 b_water 0, at1 b_water 1, at1 b_water 2] := by kernel_rfl
theorem b_water_0 (g : List D → Res) (wf n : Nat) (o0 o1 o2 o3 : Option D) (E : Nx) : st1 g wf n df_water 59 (at1 b_water 0) [o0, o1, o2, o3] E =
  getS o0 fun d1 => getS o0 fun d2 => dIx d2 (.int 1) fun z3 => puK z3 (E.nx [o0, o1, some z3, o3]) := by kernel_rfl
theorem b_water_1 (g : List D → Res) (wf n : Nat) (o0 o1 o2 o3 : Option D) (E : Nx) : st1 g wf n df_water 58 (at1 b_water 1) [o0, o1, o2, o3] E =
  getS o0 fun d1 => getS o0 fun d2 => dIx d2 (.int 2) fun z3 => seqV true z3 fun l4 => forC (fst g wf n df_water 58 (at1 b_water 1)) l4 [o0, o1, o2, o3] E := by kernel_rfl
theorem b_water_1x (g : List D → Res) (wf n : Nat) (x : D) (o0 o1 o2 o3 : Option D) (E : Nx) : fst g wf n df_water 58 (at1 b_water 1) x [o0, o1, o2, o3] E =
  stL g wf n df_water 58 (forB (at1 b_water 1)) [o0, o1, o2, some x] E := by kernel_rfl
def b_water_1b : List Stmt := forB (at1 b_water 1)
theorem b_water_1b_eq : b_water_1b = [at1 b_water_1b 0] := by kernel_rfl
theorem b_water_1b_0 (g : List D → Res) (wf n : Nat) (o0 o1 o2 o3 : Option D) (E : Nx) : st1 g wf n df_water 57 (at1 b_water_1b 0) [o0, o1, o2, o3] E =
  getS o2 fun d10 => getS o3 fun d9 => getS o1 fun d8 => getS o3 fun d1 => getS o1 fun d2 => onRet (cl g wf n "height_at" [d1, d2]) (fun r3 f4 => getS o2 fun d5 => onRet (cl g wf n "plus" [d5, r3]) (fun r6 f7 => E.nx [o0, unlend d2 f4[1]?, some r6, unlend d1 f4[0]?]) exX) exX := by kernel_rfl
theorem b_water_2 (g : List D → Res) (wf n : Nat) (o0 o1 o2 o3 : Option D) (E : Nx) : st1 g wf n df_water 57 (at1 b_water 2) [o0, o1, o2, o3] E =
  getS o2 fun d1 => retK d1 (E.rt d1 [o0, o1, o2, o3]) (ckK (decide (2 ≤ 2)) (E.rt d1 [o0, o1, none, o3])) := by kernel_rfl
/-! ### later -/
def b_later : List Stmt := df_later.body
theorem b_later_eq : b_later = [at1 b_later 0, at1 b_later 1, at1 b_later 2] := by kernel_rfl
theorem b_later_0 (g : List D → Res) (wf n : Nat) (o0 o1 o2 o3 o4 o5 o6 o7 o8 : Option D) (E : Nx) : st1 g wf n df_later 59 (at1 b_later 0) [o0, o1, o2, o3, o4, o5, o6, o7, o8] E =
  E.nx [o0, o1, some (.lst []), o3, o4, o5, o6, o7, o8] := by kernel_rfl
theorem b_later_1 (g : List D → Res) (wf n : Nat) (o0 o1 o2 o3 o4 o5 o6 o7 o8 : Option D) (E : Nx) : st1 g wf n df_later 58 (at1 b_later 1) [o0, o1, o2, o3, o4, o5, o6, o7, o8] E =
  getS o0 fun d1 => getS o0 fun d2 => dIx d2 (.int 2) fun z3 => seqV true z3 fun l4 => forC (fst g wf n df_later 58 (at1 b_later 1)) l4 [o0, o1, o2, o3, o4, o5, o6, o7, o8] E := by kernel_rfl
theorem b_later_1x (g : List D → Res) (wf n : Nat) (x : D) (o0 o1 o2 o3 o4 o5 o6 o7 o8 : Option D) (E : Nx) : fst g wf n df_later 58 (at1 b_later 1) x [o0, o1, o2, o3, o4, o5, o6, o7, o8] E =
  unpK 3 x fun l1 => consK l1 fun d2 l3 => consK l3 fun d4 l5 => consK l5 fun d6 l7 => nilK l7 (stL g wf n df_later 58 (forB (at1 b_later 1)) [o0, o1, o2, some d2, some d4, some d6, o6, o7, o8] E) := by kernel_rfl
def b_later_1b : List Stmt := forB (at1 b_later 1)
theorem b_later_1b_eq : b_later_1b = [at1 b_later_1b 0, at1 b_later_1b 1] := by kernel_rfl
def b_later_1b_0_lc1_e : Expr := lcAt 0 (at1 b_later_1b 0)
def b_later_1b_0_lc1 (g : List D → Res) (wf n : Nat) : D → TI.Env → (Option D → TI.Env → Res) → Res := lcs g wf n df_later 57 b_later_1b_0_lc1_e
theorem b_later_1b_0_lc1_x (g : List D → Res) (wf n : Nat) (x : D) (o0 o1 o2 o3 o4 o5 o6 o7 o8 : Option D) (k2 : Option D → TI.Env → Res) : b_later_1b_0_lc1 g wf n x [o0, o1, o2, o3, o4, o5, o6, o7, o8] k2 =
  unpK 2 x fun l1 => consK l1 fun d2 l3 => consK l3 fun d4 l5 => nilK l5 (getS o1 fun d6 => dAdd d2 d6 fun z7 => getS o4 fun d8 => dMod z7 d8 fun z9 => puK d4 (pusK [z9, d4] (k2 (some (.tup [z9, d4])) [o0, o1, o2, o3, o4, o5, o6, some d2, some d4]))) := by kernel_rfl
theorem b_later_1b_0 (g : List D → Res) (wf n : Nat) (o0 o1 o2 o3 o4 o5 o6 o7 o8 : Option D) (E : Nx) : st1 g wf n df_later 57 (at1 b_later_1b 0) [o0, o1, o2, o3, o4, o5, o6, o7, o8] E =
  lockO o5 fun w1 => getS w1 fun d2 => seqV true d2 fun l3 => ckK (hidOk [o0, o1, o2, o3, o4, w1, o6, o7, o8] [7, 8]) (lcC (b_later_1b_0_lc1 g wf n) l3 [] [o0, o1, o2, o3, o4, w1, o6, none, none] fun a4 r5 => E.nx ((wipeB r5 [o0, o1, o2, o3, o4, w1, o6, o7, o8] [7, 8]).set 6 (some (.lst a4)))) := by kernel_rfl
theorem b_later_1b_1 (g : List D → Res) (wf n : Nat) (o0 o1 o2 o3 o4 o5 o6 o7 o8 : Option D) (E : Nx) : st1 g wf n df_later 56 (at1 b_later_1b 1) [o0, o1, o2, o3, o4, o5, o6, o7, o8] E =
  getS o2 fun d1 => asLK d1 fun _ => getS o4 fun d9 => getS o6 fun d8 => getS o6 fun d2 => dSorted d2 fun z3 => dTup z3 fun z4 => getS o4 fun d5 => puK d5 (pusK [(.str "wave"), d5, z4] (getS o2 fun d6 => asLK d6 fun l7 => ckK (decide (l7.length < szLine)) (E.nx [o0, o1, some (.lst (l7 ++ [(.tup [(.str "wave"), d5, z4])])), o3, o4, o5, o6, o7, o8]))) := by kernel_rfl
theorem b_later_2 (g : List D → Res) (wf n : Nat) (o0 o1 o2 o3 o4 o5 o6 o7 o8 : Option D) (E : Nx) : st1 g wf n df_later 57 (at1 b_later 2) [o0, o1, o2, o3, o4, o5, o6, o7, o8] E =
  getS o0 fun d1 => getS o0 fun d2 => dIx d2 (.int 1) fun z3 => puK z3 (getS o2 fun d6 => getS o2 fun d4 => dTup d4 fun z5 => pusK [(.str "tide"), z3, z5] (E.rt (.tup [(.str "tide"), z3, z5]) [o0, o1, o2, o3, o4, o5, o6, o7, o8])) := by kernel_rfl
/-! ### times -/
def b_times : List Stmt := df_times.body
theorem b_times_eq : b_times = [at1 b_times 0, at1 b_times 1, at1 b_times 2] := by kernel_rfl
theorem b_times_0 (g : List D → Res) (wf n : Nat) (o0 o1 o2 o3 o4 o5 o6 o7 o8 : Option D) (E : Nx) : st1 g wf n df_times 59 (at1 b_times 0) [o0, o1, o2, o3, o4, o5, o6, o7, o8] E =
  E.nx [o0, o1, some (.lst []), o3, o4, o5, o6, o7, o8] := by kernel_rfl
theorem b_times_1 (g : List D → Res) (wf n : Nat) (o0 o1 o2 o3 o4 o5 o6 o7 o8 : Option D) (E : Nx) : st1 g wf n df_times 58 (at1 b_times 1) [o0, o1, o2, o3, o4, o5, o6, o7, o8] E =
  getS o0 fun d1 => getS o0 fun d2 => dIx d2 (.int 2) fun z3 => seqV true z3 fun l4 => forC (fst g wf n df_times 58 (at1 b_times 1)) l4 [o0, o1, o2, o3, o4, o5, o6, o7, o8] E := by kernel_rfl
theorem b_times_1x (g : List D → Res) (wf n : Nat) (x : D) (o0 o1 o2 o3 o4 o5 o6 o7 o8 : Option D) (E : Nx) : fst g wf n df_times 58 (at1 b_times 1) x [o0, o1, o2, o3, o4, o5, o6, o7, o8] E =
  unpK 3 x fun l1 => consK l1 fun d2 l3 => consK l3 fun d4 l5 => consK l5 fun d6 l7 => nilK l7 (stL g wf n df_times 58 (forB (at1 b_times 1)) [o0, o1, o2, some d2, some d4, some d6, o6, o7, o8] E) := by kernel_rfl
def b_times_1b : List Stmt := forB (at1 b_times 1)
theorem b_times_1b_eq : b_times_1b = [at1 b_times_1b 0, at1 b_times_1b 1] := by kernel_rfl
def b_times_1b_0_lc1_e : Expr := lcAt 0 (at1 b_times_1b 0)
def b_times_1b_0_lc1 (g : List D → Res) (wf n : Nat) : D → TI.Env → (Option D → TI.Env → Res) → Res := lcs g wf n df_times 57 b_times_1b_0_lc1_e
theorem b_times_1b_0_lc1_x (g : List D → Res) (wf n : Nat) (x : D) (o0 o1 o2 o3 o4 o5 o6 o7 o8 : Option D) (k2 : Option D → TI.Env → Res) : b_times_1b_0_lc1 g wf n x [o0, o1, o2, o3, o4, o5, o6, o7, o8] k2 =
  unpK 2 x fun l1 => consK l1 fun d2 l3 => consK l3 fun d4 l5 => nilK l5 (getS o1 fun d9 => getS o1 fun d6 => onRet (cl g wf n "product" [d4, d6]) (fun r7 f8 => puK d2 (pusK [d2, r7] (k2 (some (.tup [d2, r7])) [o0, unlend d6 f8[1]?, o2, o3, o4, o5, o6, some d2, unlend d4 f8[0]?]))) xst) := by kernel_rfl
theorem b_times_1b_0 (g : List D → Res) (wf n : Nat) (o0 o1 o2 o3 o4 o5 o6 o7 o8 : Option D) (E : Nx) : st1 g wf n df_times 57 (at1 b_times_1b 0) [o0, o1, o2, o3, o4, o5, o6, o7, o8] E =
  lockO o5 fun w1 => getS w1 fun d2 => seqV true d2 fun l3 => ckK (hidOk [o0, o1, o2, o3, o4, w1, o6, o7, o8] [7, 8]) (lcC (b_times_1b_0_lc1 g wf n) l3 [] [o0, o1, o2, o3, o4, w1, o6, none, none] fun a4 r5 => E.nx ((wipeB r5 [o0, o1, o2, o3, o4, w1, o6, o7, o8] [7, 8]).set 6 (some (.lst a4)))) := by kernel_rfl
theorem b_times_1b_1 (g : List D → Res) (wf n : Nat) (o0 o1 o2 o3 o4 o5 o6 o7 o8 : Option D) (E : Nx) : st1 g wf n df_times 56 (at1 b_times_1b 1) [o0, o1, o2, o3, o4, o5, o6, o7, o8] E =
  getS o2 fun d1 => asLK d1 fun _ => getS o4 fun d8 => getS o6 fun d7 => getS o6 fun d2 => dTup d2 fun z3 => getS o4 fun d4 => puK d4 (pusK [(.str "wave"), d4, z3] (getS o2 fun d5 => asLK d5 fun l6 => ckK (decide (l6.length < szLine)) (E.nx [o0, o1, some (.lst (l6 ++ [(.tup [(.str "wave"), d4, z3])])), o3, o4, o5, o6, o7, o8]))) := by kernel_rfl
theorem b_times_2 (g : List D → Res) (wf n : Nat) (o0 o1 o2 o3 o4 o5 o6 o7 o8 : Option D) (E : Nx) : st1 g wf n df_times 57 (at1 b_times 2) [o0, o1, o2, o3, o4, o5, o6, o7, o8] E =
  getS o0 fun d1 => getS o0 fun d2 => dIx d2 (.int 1) fun z3 => puK z3 (getS o1 fun d10 => getS o1 fun d4 => onRet (cl g wf n "product" [z3, d4]) (fun r5 f6 => getS o2 fun d9 => getS o2 fun d7 => dTup d7 fun z8 => pusK [(.str "tide"), r5, z8] (E.rt (.tup [(.str "tide"), r5, z8]) [o0, unlend d4 f6[1]?, o2, o3, o4, o5, o6, o7, o8])) exX) := by kernel_rfl
/-! ### added -/
def b_added : List Stmt := df_added.body
theorem b_added_eq : b_added = [at1 b_added 0] := by kernel_rfl
theorem b_added_0 (g : List D → Res) (wf n : Nat) (o0 o1 : Option D) (E : Nx) : st1 g wf n df_added 59 (at1 b_added 0) [o0, o1] E =
  getS o0 fun d1 => getS o0 fun d2 => dIx d2 (.int 1) fun z3 => puK z3 (getS o1 fun d4 => getS o1 fun d5 => dIx d5 (.int 1) fun z6 => puK z6 (onRet (cl g wf n "plus" [z3, z6]) (fun r7 f8 => getS o0 fun d9 => getS o0 fun d10 => dIx d10 (.int 2) fun z11 => puK z11 (getS o1 fun d12 => getS o1 fun d13 => dIx d13 (.int 2) fun z14 => dAdd z11 z14 fun z15 => pusK [(.str "tide"), r7, z15] (E.rt (.tup [(.str "tide"), r7, z15]) [o0, o1]))) exX)) := by kernel_rfl
/-! ### taken -/
def b_taken : List Stmt := df_taken.body
theorem b_taken_eq : b_taken = [at1 b_taken 0] := by kernel_rfl
theorem b_taken_0 (g : List D → Res) (wf n : Nat) (o0 o1 : Option D) (E : Nx) : st1 g wf n df_taken 59 (at1 b_taken 0) [o0, o1] E =
  getS o0 fun d9 => getS o1 fun d8 => dNeg (.int 1) fun z1 => pusK [z1, (.int 1)] (getS o1 fun d2 => onRet (cl g wf n "times" [d2, (.tup [z1, (.int 1)])]) (fun r3 f4 => getS o0 fun d5 => onRet (cl g wf n "added" [d5, r3]) (fun r6 f7 => E.rt r6 [unlend d5 f7[0]?, unlend d2 f4[0]?]) exX) exX) := by kernel_rfl
/-! ### _is_tide -/
def b_u_is_tide : List Stmt := df_u_is_tide.body
theorem b_u_is_tide_eq : b_u_is_tide = [at1 b_u_is_tide 0, at1 b_u_is_tide 1, at1 b_u_is_tide 2] := by kernel_rfl
theorem b_u_is_tide_0 (g : List D → Res) (wf n : Nat) (o0 o1 o2 : Option D) (E : Nx) : st1 g wf n df_u_is_tide 59 (at1 b_u_is_tide 0) [o0, o1, o2] E =
  getS o0 fun d1 => dIsi d1 "tuple" fun z2 => dTru z2 fun c3 => (match (!c3) with | true => (match true with | true => stL g wf n df_u_is_tide 59 (ifT (at1 b_u_is_tide 0)) [o0, o1, o2] E | false => stL g wf n df_u_is_tide 59 (ifF (at1 b_u_is_tide 0)) [o0, o1, o2] E) | false => getS o0 fun d11 => getS o0 fun d4 => dLen d4 fun z5 => dEq z5 (.int 3) fun c6 => (match (!c6) with | true => (match true with | true => stL g wf n df_u_is_tide 59 (ifT (at1 b_u_is_tide 0)) [o0, o1, o2] E | false => stL g wf n df_u_is_tide 59 (ifF (at1 b_u_is_tide 0)) [o0, o1, o2] E) | false => getS o0 fun d7 => getS o0 fun d8 => dIx d8 (.int 0) fun z9 => dEq z9 (.str "tide") fun c10 => (match (!c10) with | true => stL g wf n df_u_is_tide 59 (ifT (at1 b_u_is_tide 0)) [o0, o1, o2] E | false => stL g wf n df_u_is_tide 59 (ifF (at1 b_u_is_tide 0)) [o0, o1, o2] E))) := by kernel_rfl
def b_u_is_tide_0t : List Stmt := ifT (at1 b_u_is_tide 0)
theorem b_u_is_tide_0t_eq : b_u_is_tide_0t = [at1 b_u_is_tide_0t 0] := by kernel_rfl
theorem b_u_is_tide_0t_0 (g : List D → Res) (wf n : Nat) (o0 o1 o2 : Option D) (E : Nx) : st1 g wf n df_u_is_tide 58 (at1 b_u_is_tide_0t 0) [o0, o1, o2] E =
  E.rt (.bl false) [o0, o1, o2] := by kernel_rfl
theorem b_u_is_tide_1 (g : List D → Res) (wf n : Nat) (o0 o1 o2 : Option D) (E : Nx) : st1 g wf n df_u_is_tide 58 (at1 b_u_is_tide 1) [o0, o1, o2] E =
  getS o1 fun d3 => fnvK d3 fun y1 => gfK g y1 fun n2 => getS o0 fun d4 => getS o0 fun d5 => dIx d5 (.int 1) fun z6 => ckK (decide (1 = n2)) (puK z6 (onRet (cl g wf n y1 [z6]) (fun r7 f8 => dTru r7 fun c9 => (match (!c9) with | true => (match true with | true => stL g wf n df_u_is_tide 58 (ifT (at1 b_u_is_tide 1)) [o0, o1, o2] E | false => stL g wf n df_u_is_tide 58 (ifF (at1 b_u_is_tide 1)) [o0, o1, o2] E) | false => getS o0 fun d10 => getS o0 fun d11 => dIx d11 (.int 2) fun z12 => dIsi z12 "tuple" fun z13 => dTru z13 fun c14 => (match (!c14) with | true => (match true with | true => stL g wf n df_u_is_tide 58 (ifT (at1 b_u_is_tide 1)) [o0, o1, o2] E | false => stL g wf n df_u_is_tide 58 (ifF (at1 b_u_is_tide 1)) [o0, o1, o2] E) | false => getS o0 fun d15 => getS o0 fun d16 => dIx d16 (.int 2) fun z17 => dLen z17 fun z18 => dLt (.int 8) z18 fun c19 => (match c19 with | true => stL g wf n df_u_is_tide 58 (ifT (at1 b_u_is_tide 1)) [o0, o1, o2] E | false => stL g wf n df_u_is_tide 58 (ifF (at1 b_u_is_tide 1)) [o0, o1, o2] E)))) exX)) := by kernel_rfl
def b_u_is_tide_1t : List Stmt := ifT (at1 b_u_is_tide 1)
theorem b_u_is_tide_1t_eq : b_u_is_tide_1t = [at1 b_u_is_tide_1t 0] := by kernel_rfl
theorem b_u_is_tide_1t_0 (g : List D → Res) (wf n : Nat) (o0 o1 o2 : Option D) (E : Nx) : st1 g wf n df_u_is_tide 57 (at1 b_u_is_tide_1t 0) [o0, o1, o2] E =
  E.rt (.bl false) [o0, o1, o2] := by kernel_rfl
def b_u_is_tide_2_lc1_e : Expr := lcAt 0 (at1 b_u_is_tide 2)
def b_u_is_tide_2_lc1 (g : List D → Res) (wf n : Nat) : D → TI.Env → (Option D → TI.Env → Res) → Res := lcs g wf n df_u_is_tide 54 b_u_is_tide_2_lc1_e
theorem b_u_is_tide_2_lc1_x (g : List D → Res) (wf n : Nat) (x : D) (o0 o1 o2 : Option D) (k2 : Option D → TI.Env → Res) : b_u_is_tide_2_lc1 g wf n x [o0, o1, o2] k2 =
  getS o1 fun d4 => getS o1 fun d1 => onRet (cl g wf n "_is_wave" [x, d1]) (fun r2 f3 => k2 (some r2) [o0, unlend d1 f3[1]?, unlend x f3[0]?]) xst := by kernel_rfl
theorem b_u_is_tide_2 (g : List D → Res) (wf n : Nat) (o0 o1 o2 : Option D) (E : Nx) : st1 g wf n df_u_is_tide 57 (at1 b_u_is_tide 2) [o0, o1, o2] E =
  getS o0 fun d1 => getS o0 fun d2 => dIx d2 (.int 2) fun z3 => seqV true z3 fun l4 => ckK (hidOk [o0, o1, o2] [2]) (lcC (b_u_is_tide_2_lc1 g wf n) l4 [] [o0, o1, none] fun a5 r6 => dAll (.lst a5) fun z7 => E.rt z7 (wipeB r6 [o0, o1, o2] [2])) := by kernel_rfl
/-! ### _is_wave -/
def b_is_wave : List Stmt := df_is_wave.body
theorem b_is_wave_eq : b_is_wave = [at1 b_is_wave 0, at1 b_is_wave 1, at1 b_is_wave 2, at1 b_is_wave 3, at1 b_is_wave 4, at1 b_is_wave 5, at1 b_is_wave 6] := by kernel_rfl
theorem b_is_wave_0 (g : List D → Res) (wf n : Nat) (o0 o1 o2 o3 o4 o5 : Option D) (E : Nx) : st1 g wf n df_is_wave 59 (at1 b_is_wave 0) [o0, o1, o2, o3, o4, o5] E =
  getS o0 fun d1 => dIsi d1 "tuple" fun z2 => dTru z2 fun c3 => (match (!c3) with | true => (match true with | true => stL g wf n df_is_wave 59 (ifT (at1 b_is_wave 0)) [o0, o1, o2, o3, o4, o5] E | false => stL g wf n df_is_wave 59 (ifF (at1 b_is_wave 0)) [o0, o1, o2, o3, o4, o5] E) | false => getS o0 fun d11 => getS o0 fun d4 => dLen d4 fun z5 => dEq z5 (.int 3) fun c6 => (match (!c6) with | true => (match true with | true => stL g wf n df_is_wave 59 (ifT (at1 b_is_wave 0)) [o0, o1, o2, o3, o4, o5] E | false => stL g wf n df_is_wave 59 (ifF (at1 b_is_wave 0)) [o0, o1, o2, o3, o4, o5] E) | false => getS o0 fun d7 => getS o0 fun d8 => dIx d8 (.int 0) fun z9 => dEq z9 (.str "wave") fun c10 => (match (!c10) with | true => stL g wf n df_is_wave 59 (ifT (at1 b_is_wave 0)) [o0, o1, o2, o3, o4, o5] E | false => stL g wf n df_is_wave 59 (ifF (at1 b_is_wave 0)) [o0, o1, o2, o3, o4, o5] E))) := by kernel_rfl
def b_is_wave_0t : List Stmt := ifT (at1 b_is_wave 0)
theorem b_is_wave_0t_eq : b_is_wave_0t = [at1 b_is_wave_0t 0] := by kernel_rfl
theorem b_is_wave_0t_0 (g : List D → Res) (wf n : Nat) (o0 o1 o2 o3 o4 o5 : Option D) (E : Nx) : st1 g wf n df_is_wave 58 (at1 b_is_wave_0t 0) [o0, o1, o2, o3, o4, o5] E =
  E.rt (.bl false) [o0, o1, o2, o3, o4, o5] := by kernel_rfl
theorem b_is_wave_1 (g : List D → Res) (wf n : Nat) (o0 o1 o2 o3 o4 o5 : Option D) (E : Nx) : st1 g wf n df_is_wave 58 (at1 b_is_wave 1) [o0, o1, o2, o3, o4, o5] E =
  getS o0 fun d1 => getS o0 fun d2 => dIx d2 (.int 1) fun z3 => puK z3 (getS o0 fun d4 => getS o0 fun d5 => dIx d5 (.int 2) fun z6 => puK z6 (E.nx [o0, o1, some z3, some z6, o4, o5])) := by kernel_rfl
theorem b_is_wave_2 (g : List D → Res) (wf n : Nat) (o0 o1 o2 o3 o4 o5 : Option D) (E : Nx) : st1 g wf n df_is_wave 57 (at1 b_is_wave 2) [o0, o1, o2, o3, o4, o5] E =
  getS o2 fun d8 => getS o2 fun d1 => onRet (cl g wf n "_is_whole" [d1, (.int 1), (.int 1800)]) (fun r2 f3 => dTru r2 fun c4 => (match (!c4) with | true => (match true with | true => stL g wf n df_is_wave 57 (ifT (at1 b_is_wave 2)) [o0, o1, unlend d1 f3[0]?, o3, o4, o5] E | false => stL g wf n df_is_wave 57 (ifF (at1 b_is_wave 2)) [o0, o1, unlend d1 f3[0]?, o3, o4, o5] E) | false => getS o3 fun d5 => dIsi d5 "tuple" fun z6 => dTru z6 fun c7 => (match (!c7) with | true => stL g wf n df_is_wave 57 (ifT (at1 b_is_wave 2)) [o0, o1, unlend d1 f3[0]?, o3, o4, o5] E | false => stL g wf n df_is_wave 57 (ifF (at1 b_is_wave 2)) [o0, o1, unlend d1 f3[0]?, o3, o4, o5] E))) exX := by kernel_rfl
def b_is_wave_2t : List Stmt := ifT (at1 b_is_wave 2)
theorem b_is_wave_2t_eq : b_is_wave_2t = [at1 b_is_wave_2t 0] := by kernel_rfl
theorem b_is_wave_2t_0 (g : List D → Res) (wf n : Nat) (o0 o1 o2 o3 o4 o5 : Option D) (E : Nx) : st1 g wf n df_is_wave 56 (at1 b_is_wave_2t 0) [o0, o1, o2, o3, o4, o5] E =
  E.rt (.bl false) [o0, o1, o2, o3, o4, o5] := by kernel_rfl
theorem b_is_wave_3 (g : List D → Res) (wf n : Nat) (o0 o1 o2 o3 o4 o5 : Option D) (E : Nx) : st1 g wf n df_is_wave 56 (at1 b_is_wave 3) [o0, o1, o2, o3, o4, o5] E =
  getS o3 fun d8 => getS o3 fun d1 => dLen d1 fun z2 => dLt z2 (.int 1) fun c3 => (match c3 with | true => (match true with | true => stL g wf n df_is_wave 56 (ifT (at1 b_is_wave 3)) [o0, o1, o2, o3, o4, o5] E | false => stL g wf n df_is_wave 56 (ifF (at1 b_is_wave 3)) [o0, o1, o2, o3, o4, o5] E) | false => getS o3 fun d7 => getS o3 fun d4 => dLen d4 fun z5 => dLt (.int 24) z5 fun c6 => (match c6 with | true => stL g wf n df_is_wave 56 (ifT (at1 b_is_wave 3)) [o0, o1, o2, o3, o4, o5] E | false => stL g wf n df_is_wave 56 (ifF (at1 b_is_wave 3)) [o0, o1, o2, o3, o4, o5] E)) := by kernel_rfl
def b_is_wave_3t : List Stmt := ifT (at1 b_is_wave 3)
theorem b_is_wave_3t_eq : b_is_wave_3t = [at1 b_is_wave_3t 0] := by kernel_rfl
theorem b_is_wave_3t_0 (g : List D → Res) (wf n : Nat) (o0 o1 o2 o3 o4 o5 : Option D) (E : Nx) : st1 g wf n df_is_wave 55 (at1 b_is_wave_3t 0) [o0, o1, o2, o3, o4, o5] E =
  E.rt (.bl false) [o0, o1, o2, o3, o4, o5] := by kernel_rfl
theorem b_is_wave_4 (g : List D → Res) (wf n : Nat) (o0 o1 o2 o3 o4 o5 : Option D) (E : Nx) : st1 g wf n df_is_wave 55 (at1 b_is_wave 4) [o0, o1, o2, o3, o4, o5] E =
  E.nx [o0, o1, o2, o3, some (.int 0), o5] := by kernel_rfl
theorem b_is_wave_5 (g : List D → Res) (wf n : Nat) (o0 o1 o2 o3 o4 o5 : Option D) (E : Nx) : st1 g wf n df_is_wave 54 (at1 b_is_wave 5) [o0, o1, o2, o3, o4, o5] E =
  lockO o3 fun w1 => getS w1 fun d2 => seqV true d2 fun l3 => forC (fst g wf n df_is_wave 54 (at1 b_is_wave 5)) l3 [o0, o1, o2, w1, o4, o5] E := by kernel_rfl
theorem b_is_wave_5x (g : List D → Res) (wf n : Nat) (x : D) (o0 o1 o2 o3 o4 o5 : Option D) (E : Nx) : fst g wf n df_is_wave 54 (at1 b_is_wave 5) x [o0, o1, o2, o3, o4, o5] E =
  stL g wf n df_is_wave 54 (forB (at1 b_is_wave 5)) [o0, o1, o2, o3, o4, some x] E := by kernel_rfl
def b_is_wave_5b : List Stmt := forB (at1 b_is_wave 5)
theorem b_is_wave_5b_eq : b_is_wave_5b = [at1 b_is_wave_5b 0, at1 b_is_wave_5b 1, at1 b_is_wave_5b 2] := by kernel_rfl
theorem b_is_wave_5b_0 (g : List D → Res) (wf n : Nat) (o0 o1 o2 o3 o4 o5 : Option D) (E : Nx) : st1 g wf n df_is_wave 53 (at1 b_is_wave_5b 0) [o0, o1, o2, o3, o4, o5] E =
  getS o5 fun d1 => dIsi d1 "tuple" fun z2 => dTru z2 fun c3 => (match (!c3) with | true => (match true with | true => stL g wf n df_is_wave 53 (ifT (at1 b_is_wave_5b 0)) [o0, o1, o2, o3, o4, o5] E | false => stL g wf n df_is_wave 53 (ifF (at1 b_is_wave_5b 0)) [o0, o1, o2, o3, o4, o5] E) | false => getS o5 fun d7 => getS o5 fun d4 => dLen d4 fun z5 => dEq z5 (.int 2) fun c6 => (match (!c6) with | true => stL g wf n df_is_wave 53 (ifT (at1 b_is_wave_5b 0)) [o0, o1, o2, o3, o4, o5] E | false => stL g wf n df_is_wave 53 (ifF (at1 b_is_wave_5b 0)) [o0, o1, o2, o3, o4, o5] E)) := by kernel_rfl
def b_is_wave_5b_0t : List Stmt := ifT (at1 b_is_wave_5b 0)
theorem b_is_wave_5b_0t_eq : b_is_wave_5b_0t = [at1 b_is_wave_5b_0t 0] := by kernel_rfl
theorem b_is_wave_5b_0t_0 (g : List D → Res) (wf n : Nat) (o0 o1 o2 o3 o4 o5 : Option D) (E : Nx) : st1 g wf n df_is_wave 52 (at1 b_is_wave_5b_0t 0) [o0, o1, o2, o3, o4, o5] E =
  E.rt (.bl false) [o0, o1, o2, o3, o4, o5] := by kernel_rfl
theorem b_is_wave_5b_1 (g : List D → Res) (wf n : Nat) (o0 o1 o2 o3 o4 o5 : Option D) (E : Nx) : st1 g wf n df_is_wave 52 (at1 b_is_wave_5b 1) [o0, o1, o2, o3, o4, o5] E =
  getS o5 fun d1 => getS o5 fun d2 => dIx d2 (.int 0) fun z3 => puK z3 (getS o4 fun d19 => getS o2 fun d4 => dSub d4 (.int 1) fun z5 => getS o4 fun d6 => onRet (cl g wf n "_is_whole" [z3, d6, z5]) (fun r7 f8 => dTru r7 fun c9 => (match (!c9) with | true => (match true with | true => stL g wf n df_is_wave 52 (ifT (at1 b_is_wave_5b 1)) [o0, o1, o2, o3, unlend d6 f8[1]?, o5] E | false => stL g wf n df_is_wave 52 (ifF (at1 b_is_wave_5b 1)) [o0, o1, o2, o3, unlend d6 f8[1]?, o5] E) | false => getS o1 fun d12 => fnvK d12 fun y10 => gfK g y10 fun n11 => getS o5 fun d13 => getS o5 fun d14 => dIx d14 (.int 1) fun z15 => ckK (decide (1 = n11)) (puK z15 (onRet (cl g wf n y10 [z15]) (fun r16 f17 => dTru r16 fun c18 => (match (!c18) with | true => stL g wf n df_is_wave 52 (ifT (at1 b_is_wave_5b 1)) [o0, o1, o2, o3, unlend d6 f8[1]?, o5] E | false => stL g wf n df_is_wave 52 (ifF (at1 b_is_wave_5b 1)) [o0, o1, o2, o3, unlend d6 f8[1]?, o5] E)) exX)))) exX) := by kernel_rfl
def b_is_wave_5b_1t : List Stmt := ifT (at1 b_is_wave_5b 1)
theorem b_is_wave_5b_1t_eq : b_is_wave_5b_1t = [at1 b_is_wave_5b_1t 0] := by kernel_rfl
theorem b_is_wave_5b_1t_0 (g : List D → Res) (wf n : Nat) (o0 o1 o2 o3 o4 o5 : Option D) (E : Nx) : st1 g wf n df_is_wave 51 (at1 b_is_wave_5b_1t 0) [o0, o1, o2, o3, o4, o5] E =
  E.rt (.bl false) [o0, o1, o2, o3, o4, o5] := by kernel_rfl
theorem b_is_wave_5b_2 (g : List D → Res) (wf n : Nat) (o0 o1 o2 o3 o4 o5 : Option D) (E : Nx) : st1 g wf n df_is_wave 51 (at1 b_is_wave_5b 2) [o0, o1, o2, o3, o4, o5] E =
  getS o5 fun d1 => getS o5 fun d2 => dIx d2 (.int 0) fun z3 => dAdd z3 (.int 1) fun z4 => E.nx [o0, o1, o2, o3, some z4, o5] := by kernel_rfl
theorem b_is_wave_6 (g : List D → Res) (wf n : Nat) (o0 o1 o2 o3 o4 o5 : Option D) (E : Nx) : st1 g wf n df_is_wave 53 (at1 b_is_wave 6) [o0, o1, o2, o3, o4, o5] E =
  E.rt (.bl true) [o0, o1, o2, o3, o4, o5] := by kernel_rfl
/-! ### _is_whole -/
def b_is_whole : List Stmt := df_is_whole.body
theorem b_is_whole_eq : b_is_whole = [at1 b_is_whole 0] := by kernel_rfl
theorem b_is_whole_0 (g : List D → Res) (wf n : Nat) (o0 o1 o2 : Option D) (E : Nx) : st1 g wf n df_is_whole 59 (at1 b_is_whole 0) [o0, o1, o2] E =
  getS o0 fun d1 => dIsi d1 "int" fun z2 => dTru z2 fun c3 => (match c3 with | true => getS o0 fun d4 => dIsi d4 "bool" fun z5 => dTru z5 fun c6 => dTru (.bl (!c6)) fun c7 => (match c7 with | true => getS o1 fun d8 => puK d8 (getS o0 fun d9 => puK d9 (dLe d8 d9 fun c10 => (match c10 with | true => getS o2 fun d11 => dLe d9 d11 fun c12 => E.rt (.bl c12) [o0, o1, o2] | false => E.rt (.bl false) [o0, o1, o2]))) | false => E.rt (.bl (!c6)) [o0, o1, o2]) | false => puK z2 (E.rt z2 [o0, o1, o2])) := by kernel_rfl
/-! ### _is_typed -/
def b_is_typed : List Stmt := df_is_typed.body
theorem b_is_typed_eq : b_is_typed = [at1 b_is_typed 0] := by kernel_rfl
theorem b_is_typed_0 (g : List D → Res) (wf n : Nat) (o0 : Option D) (E : Nx) : st1 g wf n df_is_typed 59 (at1 b_is_typed 0) [o0] E =
  getS o0 fun d21 => getS o0 fun d1 => onRet (cl g wf n "is_ratio" [d1]) (fun r2 f3 => dTru r2 fun c4 => (match c4 with | true => dNeg (.int 1000000) fun z5 => puK z5 (getS (unlend d1 f3[0]?) fun d6 => getS (unlend d1 f3[0]?) fun d7 => dIx d7 (.int 0) fun z8 => puK z8 (dLe z5 z8 fun c9 => (match c9 with | true => dLe z8 (.int 1000000) fun c10 => dTru (.bl c10) fun c11 => (match c11 with | true => getS (unlend d1 f3[0]?) fun d12 => getS (unlend d1 f3[0]?) fun d13 => dIx d13 (.int 1) fun z14 => dLe z14 (.int 60) fun c15 => E.rt (.bl c15) [unlend d1 f3[0]?] | false => E.rt (.bl c10) [unlend d1 f3[0]?]) | false => dTru (.bl false) fun c16 => (match c16 with | true => getS (unlend d1 f3[0]?) fun d17 => getS (unlend d1 f3[0]?) fun d18 => dIx d18 (.int 1) fun z19 => dLe z19 (.int 60) fun c20 => E.rt (.bl c20) [unlend d1 f3[0]?] | false => E.rt (.bl false) [unlend d1 f3[0]?])))) | false => puK r2 (E.rt r2 [unlend d1 f3[0]?]))) exX := by kernel_rfl
/-! ### _law_cell -/
def b_law_cell : List Stmt := df_law_cell.body
theorem b_law_cell_eq : b_law_cell = [at1 b_law_cell 0, at1 b_law_cell 1] := by kernel_rfl
theorem b_law_cell_0 (g : List D → Res) (wf n : Nat) (o0 o1 : Option D) (E : Nx) : st1 g wf n df_law_cell 59 (at1 b_law_cell 0) [o0, o1] E =
  getS o1 fun d1 => puK d1 (getS o0 fun d5 => getS o0 fun d2 => dLen d2 fun z3 => dLt d1 z3 fun c4 => (match c4 with | true => stL g wf n df_law_cell 59 (ifT (at1 b_law_cell 0)) [o0, o1] E | false => stL g wf n df_law_cell 59 (ifF (at1 b_law_cell 0)) [o0, o1] E)) := by kernel_rfl
def b_law_cell_0t : List Stmt := ifT (at1 b_law_cell 0)
theorem b_law_cell_0t_eq : b_law_cell_0t = [at1 b_law_cell_0t 0] := by kernel_rfl
theorem b_law_cell_0t_0 (g : List D → Res) (wf n : Nat) (o0 o1 : Option D) (E : Nx) : st1 g wf n df_law_cell 58 (at1 b_law_cell_0t 0) [o0, o1] E =
  getS o0 fun d1 => getS o1 fun d2 => getS o0 fun d3 => dIx d3 d2 fun z4 => puK z4 (E.rt z4 [o0, o1]) := by kernel_rfl
theorem b_law_cell_1 (g : List D → Res) (wf n : Nat) (o0 o1 : Option D) (E : Nx) : st1 g wf n df_law_cell 58 (at1 b_law_cell 1) [o0, o1] E =
  E.rt (.int 0) [o0, o1] := by kernel_rfl
/-! ### _law_digits -/
def b_law_digits : List Stmt := df_law_digits.body
theorem b_law_digits_eq : b_law_digits = [at1 b_law_digits 0, at1 b_law_digits 1, at1 b_law_digits 2] := by kernel_rfl
theorem b_law_digits_0 (g : List D → Res) (wf n : Nat) (o0 o1 o2 o3 o4 o5 o6 o7 : Option D) (E : Nx) : st1 g wf n df_law_digits 59 (at1 b_law_digits 0) [o0, o1, o2, o3, o4, o5, o6, o7] E =
  E.nx [o0, o1, o2, some (.lst []), o4, o5, o6, o7] := by kernel_rfl
theorem b_law_digits_1 (g : List D → Res) (wf n : Nat) (o0 o1 o2 o3 o4 o5 o6 o7 : Option D) (E : Nx) : st1 g wf n df_law_digits 58 (at1 b_law_digits 1) [o0, o1, o2, o3, o4, o5, o6, o7] E =
  getS o1 fun d6 => getS o2 fun d5 => getS o1 fun d1 => getS o2 fun d2 => asIK d1 fun i3 => asIK d2 fun i4 => ckK (smallI i3 && smallI i4) (forC (fst g wf n df_law_digits 58 (at1 b_law_digits 1)) (rngL i3 (i4 - i3 : Int).toNat) [o0, o1, o2, o3, o4, o5, o6, o7] E) := by kernel_rfl
theorem b_law_digits_1x (g : List D → Res) (wf n : Nat) (x : D) (o0 o1 o2 o3 o4 o5 o6 o7 : Option D) (E : Nx) : fst g wf n df_law_digits 58 (at1 b_law_digits 1) x [o0, o1, o2, o3, o4, o5, o6, o7] E =
  stL g wf n df_law_digits 58 (forB (at1 b_law_digits 1)) [o0, o1, o2, o3, some x, o5, o6, o7] E := by kernel_rfl
def b_law_digits_1b : List Stmt := forB (at1 b_law_digits 1)
theorem b_law_digits_1b_eq : b_law_digits_1b = [at1 b_law_digits_1b 0, at1 b_law_digits_1b 1, at1 b_law_digits_1b 2, at1 b_law_digits_1b 3] := by kernel_rfl
theorem b_law_digits_1b_0 (g : List D → Res) (wf n : Nat) (o0 o1 o2 o3 o4 o5 o6 o7 : Option D) (E : Nx) : st1 g wf n df_law_digits 57 (at1 b_law_digits_1b 0) [o0, o1, o2, o3, o4, o5, o6, o7] E =
  getS o0 fun d6 => getS o4 fun d5 => getS o0 fun d1 => getS o4 fun d2 => onRet (cl g wf n "_law_cell" [d1, d2]) (fun r3 f4 => E.nx [unlend d1 f4[0]?, o1, o2, o3, unlend d2 f4[1]?, some r3, o6, o7]) exX := by kernel_rfl
theorem b_law_digits_1b_1 (g : List D → Res) (wf n : Nat) (o0 o1 o2 o3 o4 o5 o6 o7 : Option D) (E : Nx) : st1 g wf n df_law_digits 56 (at1 b_law_digits_1b 1) [o0, o1, o2, o3, o4, o5, o6, o7] E =
  getS o5 fun d1 => dLt d1 (.int 0) fun c2 => (match c2 with | true => stL g wf n df_law_digits 56 (ifT (at1 b_law_digits_1b 1)) [o0, o1, o2, o3, o4, o5, o6, o7] E | false => stL g wf n df_law_digits 56 (ifF (at1 b_law_digits_1b 1)) [o0, o1, o2, o3, o4, o5, o6, o7] E) := by kernel_rfl
def b_law_digits_1b_1t : List Stmt := ifT (at1 b_law_digits_1b 1)
theorem b_law_digits_1b_1t_eq : b_law_digits_1b_1t = [at1 b_law_digits_1b_1t 0] := by kernel_rfl
theorem b_law_digits_1b_1t_0 (g : List D → Res) (wf n : Nat) (o0 o1 o2 o3 o4 o5 o6 o7 : Option D) (E : Nx) : st1 g wf n df_law_digits 55 (at1 b_law_digits_1b_1t 0) [o0, o1, o2, o3, o4, o5, o6, o7] E =
  getS o5 fun d1 => dMul (.int 2) d1 fun z2 => dSub (.int 1) z2 fun z3 => E.nx [o0, o1, o2, o3, o4, some z3, o6, o7] := by kernel_rfl
theorem b_law_digits_1b_2 (g : List D → Res) (wf n : Nat) (o0 o1 o2 o3 o4 o5 o6 o7 : Option D) (E : Nx) : st1 g wf n df_law_digits 55 (at1 b_law_digits_1b 2) [o0, o1, o2, o3, o4, o5, o6, o7] E =
  getS o3 fun d4 => getS o3 fun d1 => dLen d1 fun z2 => dLt (.int 1500) z2 fun c3 => (match c3 with | true => stL g wf n df_law_digits 55 (ifT (at1 b_law_digits_1b 2)) [o0, o1, o2, o3, o4, o5, o6, o7] E | false => stL g wf n df_law_digits 55 (ifF (at1 b_law_digits_1b 2)) [o0, o1, o2, o3, o4, o5, o6, o7] E) := by kernel_rfl
def b_law_digits_1b_2t : List Stmt := ifT (at1 b_law_digits_1b 2)
theorem b_law_digits_1b_2t_eq : b_law_digits_1b_2t = [at1 b_law_digits_1b_2t 0] := by kernel_rfl
theorem b_law_digits_1b_2t_0 (g : List D → Res) (wf n : Nat) (o0 o1 o2 o3 o4 o5 o6 o7 : Option D) (E : Nx) : st1 g wf n df_law_digits 54 (at1 b_law_digits_1b_2t 0) [o0, o1, o2, o3, o4, o5, o6, o7] E =
  E.bk [o0, o1, o2, o3, o4, o5, o6, o7] := by kernel_rfl
theorem b_law_digits_1b_3 (g : List D → Res) (wf n : Nat) (o0 o1 o2 o3 o4 o5 o6 o7 : Option D) (E : Nx) : st1 g wf n df_law_digits 54 (at1 b_law_digits_1b 3) [o0, o1, o2, o3, o4, o5, o6, o7] E =
  getS o5 fun d1 => puK d1 (dPow (.int 10) (.int 18) fun z2 => dLe z2 d1 fun c3 => (match c3 with | true => stL g wf n df_law_digits 54 (ifT (at1 b_law_digits_1b 3)) [o0, o1, o2, o3, o4, o5, o6, o7] E | false => stL g wf n df_law_digits 54 (ifF (at1 b_law_digits_1b 3)) [o0, o1, o2, o3, o4, o5, o6, o7] E)) := by kernel_rfl
def b_law_digits_1b_3t : List Stmt := ifT (at1 b_law_digits_1b 3)
theorem b_law_digits_1b_3t_eq : b_law_digits_1b_3t = [at1 b_law_digits_1b_3t 0] := by kernel_rfl
theorem b_law_digits_1b_3t_0 (g : List D → Res) (wf n : Nat) (o0 o1 o2 o3 o4 o5 o6 o7 : Option D) (E : Nx) : st1 g wf n df_law_digits 53 (at1 b_law_digits_1b_3t 0) [o0, o1, o2, o3, o4, o5, o6, o7] E =
  ckK (smallI 60) (forC (fst g wf n df_law_digits 53 (at1 b_law_digits_1b_3t 0)) (rngL 0 (60 : Int).toNat) [o0, o1, o2, o3, o4, o5, o6, o7] E) := by kernel_rfl
theorem b_law_digits_1b_3t_0x (g : List D → Res) (wf n : Nat) (x : D) (o0 o1 o2 o3 o4 o5 o6 o7 : Option D) (E : Nx) : fst g wf n df_law_digits 53 (at1 b_law_digits_1b_3t 0) x [o0, o1, o2, o3, o4, o5, o6, o7] E =
  stL g wf n df_law_digits 53 (forB (at1 b_law_digits_1b_3t 0)) [o0, o1, o2, o3, o4, o5, some x, o7] E := by kernel_rfl
def b_law_digits_1b_3t_0b : List Stmt := forB (at1 b_law_digits_1b_3t 0)
theorem b_law_digits_1b_3t_0b_eq : b_law_digits_1b_3t_0b = [at1 b_law_digits_1b_3t_0b 0] := by kernel_rfl
theorem b_law_digits_1b_3t_0b_0 (g : List D → Res) (wf n : Nat) (o0 o1 o2 o3 o4 o5 o6 o7 : Option D) (E : Nx) : st1 g wf n df_law_digits 52 (at1 b_law_digits_1b_3t_0b 0) [o0, o1, o2, o3, o4, o5, o6, o7] E =
  getS o5 fun d1 => dLt (.int 0) d1 fun c2 => (match c2 with | true => stL g wf n df_law_digits 52 (ifT (at1 b_law_digits_1b_3t_0b 0)) [o0, o1, o2, o3, o4, o5, o6, o7] E | false => stL g wf n df_law_digits 52 (ifF (at1 b_law_digits_1b_3t_0b 0)) [o0, o1, o2, o3, o4, o5, o6, o7] E) := by kernel_rfl
def b_law_digits_1b_3t_0b_0t : List Stmt := ifT (at1 b_law_digits_1b_3t_0b 0)
theorem b_law_digits_1b_3t_0b_0t_eq : b_law_digits_1b_3t_0b_0t = [at1 b_law_digits_1b_3t_0b_0t 0, at1 b_law_digits_1b_3t_0b_0t 1] := by kernel_rfl
theorem b_law_digits_1b_3t_0b_0t_0 (g : List D → Res) (wf n : Nat) (o0 o1 o2 o3 o4 o5 o6 o7 : Option D) (E : Nx) : st1 g wf n df_law_digits 51 (at1 b_law_digits_1b_3t_0b_0t 0) [o0, o1, o2, o3, o4, o5, o6, o7] E =
  getS o3 fun d1 => asLK d1 fun _ => getS o5 fun d7 => getS o5 fun d2 => dInt 640 d2 fun z3 => dMod z3 (.int 1000) fun z4 => getS o3 fun d5 => asLK d5 fun l6 => ckK (decide (l6.length < szLine)) (E.nx [o0, o1, o2, some (.lst (l6 ++ [z4])), o4, o5, o6, o7]) := by kernel_rfl
theorem b_law_digits_1b_3t_0b_0t_1 (g : List D → Res) (wf n : Nat) (o0 o1 o2 o3 o4 o5 o6 o7 : Option D) (E : Nx) : st1 g wf n df_law_digits 50 (at1 b_law_digits_1b_3t_0b_0t 1) [o0, o1, o2, o3, o4, o5, o6, o7] E =
  getS o5 fun d1 => dDiv d1 (.int 1000) fun z2 => E.nx [o0, o1, o2, o3, o4, some z2, o6, o7] := by kernel_rfl
def b_law_digits_1b_3f : List Stmt := ifF (at1 b_law_digits_1b 3)
theorem b_law_digits_1b_3f_eq : b_law_digits_1b_3f = [at1 b_law_digits_1b_3f 0, at1 b_law_digits_1b_3f 1] := by kernel_rfl
theorem b_law_digits_1b_3f_0 (g : List D → Res) (wf n : Nat) (o0 o1 o2 o3 o4 o5 o6 o7 : Option D) (E : Nx) : st1 g wf n df_law_digits 53 (at1 b_law_digits_1b_3f 0) [o0, o1, o2, o3, o4, o5, o6, o7] E =
  getS o5 fun d1 => dMul d1 (.int 48271) fun z2 => getS o4 fun d3 => dMul d3 (.int 69621) fun z4 => dAdd z2 z4 fun z5 => dAdd z5 (.int 11) fun z6 => dInt 640 z6 fun z7 => dMod z7 (.int 2147483647) fun z8 => E.nx [o0, o1, o2, o3, o4, o5, o6, some z8] := by kernel_rfl
theorem b_law_digits_1b_3f_1 (g : List D → Res) (wf n : Nat) (o0 o1 o2 o3 o4 o5 o6 o7 : Option D) (E : Nx) : st1 g wf n df_law_digits 52 (at1 b_law_digits_1b_3f 1) [o0, o1, o2, o3, o4, o5, o6, o7] E =
  ckK (smallI 12) (forC (fst g wf n df_law_digits 52 (at1 b_law_digits_1b_3f 1)) (rngL 0 (12 : Int).toNat) [o0, o1, o2, o3, o4, o5, o6, o7] E) := by kernel_rfl
theorem b_law_digits_1b_3f_1x (g : List D → Res) (wf n : Nat) (x : D) (o0 o1 o2 o3 o4 o5 o6 o7 : Option D) (E : Nx) : fst g wf n df_law_digits 52 (at1 b_law_digits_1b_3f 1) x [o0, o1, o2, o3, o4, o5, o6, o7] E =
  stL g wf n df_law_digits 52 (forB (at1 b_law_digits_1b_3f 1)) [o0, o1, o2, o3, o4, o5, some x, o7] E := by kernel_rfl
def b_law_digits_1b_3f_1b : List Stmt := forB (at1 b_law_digits_1b_3f 1)
theorem b_law_digits_1b_3f_1b_eq : b_law_digits_1b_3f_1b = [at1 b_law_digits_1b_3f_1b 0, at1 b_law_digits_1b_3f_1b 1] := by kernel_rfl
theorem b_law_digits_1b_3f_1b_0 (g : List D → Res) (wf n : Nat) (o0 o1 o2 o3 o4 o5 o6 o7 : Option D) (E : Nx) : st1 g wf n df_law_digits 51 (at1 b_law_digits_1b_3f_1b 0) [o0, o1, o2, o3, o4, o5, o6, o7] E =
  getS o7 fun d1 => dMul d1 (.int 16807) fun z2 => getS o6 fun d3 => dMul (.int 7) d3 fun z4 => dAdd z2 z4 fun z5 => dAdd z5 (.int 1) fun z6 => dInt 640 z6 fun z7 => dMod z7 (.int 2147483647) fun z8 => E.nx [o0, o1, o2, o3, o4, o5, o6, some z8] := by kernel_rfl
theorem b_law_digits_1b_3f_1b_1 (g : List D → Res) (wf n : Nat) (o0 o1 o2 o3 o4 o5 o6 o7 : Option D) (E : Nx) : st1 g wf n df_law_digits 50 (at1 b_law_digits_1b_3f_1b 1) [o0, o1, o2, o3, o4, o5, o6, o7] E =
  getS o3 fun d1 => asLK d1 fun _ => getS o7 fun d2 => dDiv d2 (.int 997) fun z3 => dInt 640 z3 fun z4 => dMod z4 (.int 1000) fun z5 => getS o3 fun d6 => asLK d6 fun l7 => ckK (decide (l7.length < szLine)) (E.nx [o0, o1, o2, some (.lst (l7 ++ [z5])), o4, o5, o6, o7]) := by kernel_rfl
theorem b_law_digits_2 (g : List D → Res) (wf n : Nat) (o0 o1 o2 o3 o4 o5 o6 o7 : Option D) (E : Nx) : st1 g wf n df_law_digits 57 (at1 b_law_digits 2) [o0, o1, o2, o3, o4, o5, o6, o7] E =
  getS o3 fun d1 => retK d1 (E.rt d1 [o0, o1, o2, o3, o4, o5, o6, o7]) (ckK (decide (3 ≤ 3)) (E.rt d1 [o0, o1, o2, none, o4, o5, o6, o7])) := by kernel_rfl
/-! ### _law_draw -/
def b_law_draw : List Stmt := df_law_draw.body
theorem b_law_draw_eq : b_law_draw = [at1 b_law_draw 0, at1 b_law_draw 1, at1 b_law_draw 2, at1 b_law_draw 3] := by kernel_rfl
theorem b_law_draw_0 (g : List D → Res) (wf n : Nat) (o0 o1 o2 : Option D) (E : Nx) : st1 g wf n df_law_draw 59 (at1 b_law_draw 0) [o0, o1, o2] E =
  getS o0 fun d1 => getS o0 fun d2 => dIx d2 (.int 1) fun z3 => puK z3 (E.nx [o0, o1, some z3]) := by kernel_rfl
theorem b_law_draw_1 (g : List D → Res) (wf n : Nat) (o0 o1 o2 : Option D) (E : Nx) : st1 g wf n df_law_draw 58 (at1 b_law_draw 1) [o0, o1, o2] E =
  getS o2 fun d1 => dAdd d1 (.int 1) fun z2 => puK z2 (getS o0 fun d3 => getS o0 fun d4 => asLK d4 fun l5 => oK (ixN l5.length 1) fun m6 => E.nx [some (.lst (l5.set m6 z2)), o1, o2]) := by kernel_rfl
theorem b_law_draw_2 (g : List D → Res) (wf n : Nat) (o0 o1 o2 : Option D) (E : Nx) : st1 g wf n df_law_draw 57 (at1 b_law_draw 2) [o0, o1, o2] E =
  getS o2 fun d1 => puK d1 (getS o0 fun d2 => getS o0 fun d3 => dIx d3 (.int 0) fun z4 => dLen z4 fun z5 => dLt d1 z5 fun c6 => (match c6 with | true => stL g wf n df_law_draw 57 (ifT (at1 b_law_draw 2)) [o0, o1, o2] E | false => stL g wf n df_law_draw 57 (ifF (at1 b_law_draw 2)) [o0, o1, o2] E)) := by kernel_rfl
def b_law_draw_2t : List Stmt := ifT (at1 b_law_draw 2)
theorem b_law_draw_2t_eq : b_law_draw_2t = [at1 b_law_draw_2t 0] := by kernel_rfl
theorem b_law_draw_2t_0 (g : List D → Res) (wf n : Nat) (o0 o1 o2 : Option D) (E : Nx) : st1 g wf n df_law_draw 56 (at1 b_law_draw_2t 0) [o0, o1, o2] E =
  getS o0 fun d1 => getS o0 fun d2 => dIx d2 (.int 0) fun z3 => getS o2 fun d4 => dIx z3 d4 fun z5 => dInt 640 z5 fun z6 => getS o1 fun d7 => dMod z6 d7 fun z8 => E.rt z8 [o0, o1, o2] := by kernel_rfl
theorem b_law_draw_3 (g : List D → Res) (wf n : Nat) (o0 o1 o2 : Option D) (E : Nx) : st1 g wf n df_law_draw 56 (at1 b_law_draw 3) [o0, o1, o2] E =
  getS o2 fun d1 => dMul d1 (.int 7) fun z2 => dInt 640 z2 fun z3 => getS o1 fun d4 => dMod z3 d4 fun z5 => E.rt z5 [o0, o1, o2] := by kernel_rfl
/-! ### _law_pick -/
def b_law_pick : List Stmt := df_law_pick.body
theorem b_law_pick_eq : b_law_pick = [at1 b_law_pick 0] := by kernel_rfl
theorem b_law_pick_0 (g : List D → Res) (wf n : Nat) (o0 o1 : Option D) (E : Nx) : st1 g wf n df_law_pick 59 (at1 b_law_pick 0) [o0, o1] E =
  getS o1 fun d1 => getS o0 fun d12 => getS o0 fun d2 => onRet (cl g wf n "_law_draw" [d2, (.int 900)]) (fun r3 f4 => dInt 640 r3 fun z5 => getS o1 fun d11 => getS o1 fun d6 => dLen d6 fun z7 => dMod z5 z7 fun z8 => getS o1 fun d9 => dIx d9 z8 fun z10 => puK z10 (E.rt z10 [unlend d2 f4[0]?, o1])) exX := by kernel_rfl
/-! ### _law_like -/
def b_law_like : List Stmt := df_law_like.body
theorem b_law_like_eq : b_law_like = [at1 b_law_like 0, at1 b_law_like 1, at1 b_law_like 2, at1 b_law_like 3, at1 b_law_like 4, at1 b_law_like 5] := by kernel_rfl
theorem b_law_like_0 (g : List D → Res) (wf n : Nat) (o0 o1 o2 : Option D) (E : Nx) : st1 g wf n df_law_like 59 (at1 b_law_like 0) [o0, o1, o2] E =
  getS o1 fun d1 => dIsi d1 "tuple" fun z2 => dTru z2 fun c3 => (match c3 with | true => stL g wf n df_law_like 59 (ifT (at1 b_law_like 0)) [o0, o1, o2] E | false => stL g wf n df_law_like 59 (ifF (at1 b_law_like 0)) [o0, o1, o2] E) := by kernel_rfl
def b_law_like_0t : List Stmt := ifT (at1 b_law_like 0)
theorem b_law_like_0t_eq : b_law_like_0t = [at1 b_law_like_0t 0, at1 b_law_like_0t 1] := by kernel_rfl
theorem b_law_like_0t_0 (g : List D → Res) (wf n : Nat) (o0 o1 o2 : Option D) (E : Nx) : st1 g wf n df_law_like 58 (at1 b_law_like_0t 0) [o0, o1, o2] E =
  getS o0 fun d1 => dIsi d1 "tuple" fun z2 => dTru z2 fun c3 => (match (!c3) with | true => (match true with | true => stL g wf n df_law_like 58 (ifT (at1 b_law_like_0t 0)) [o0, o1, o2] E | false => stL g wf n df_law_like 58 (ifF (at1 b_law_like_0t 0)) [o0, o1, o2] E) | false => getS o0 fun d10 => getS o0 fun d4 => dLen d4 fun z5 => getS o1 fun d9 => getS o1 fun d6 => dLen d6 fun z7 => dEq z5 z7 fun c8 => (match (!c8) with | true => stL g wf n df_law_like 58 (ifT (at1 b_law_like_0t 0)) [o0, o1, o2] E | false => stL g wf n df_law_like 58 (ifF (at1 b_law_like_0t 0)) [o0, o1, o2] E)) := by kernel_rfl
def b_law_like_0t_0t : List Stmt := ifT (at1 b_law_like_0t 0)
theorem b_law_like_0t_0t_eq : b_law_like_0t_0t = [at1 b_law_like_0t_0t 0] := by kernel_rfl
theorem b_law_like_0t_0t_0 (g : List D → Res) (wf n : Nat) (o0 o1 o2 : Option D) (E : Nx) : st1 g wf n df_law_like 57 (at1 b_law_like_0t_0t 0) [o0, o1, o2] E =
  E.rt (.bl false) [o0, o1, o2] := by kernel_rfl
def b_law_like_0t_1_lc1_e : Expr := lcAt 0 (at1 b_law_like_0t 1)
def b_law_like_0t_1_lc1 (g : List D → Res) (wf n : Nat) : D → TI.Env → (Option D → TI.Env → Res) → Res := lcs g wf n df_law_like 55 b_law_like_0t_1_lc1_e
theorem b_law_like_0t_1_lc1_x (g : List D → Res) (wf n : Nat) (x : D) (o0 o1 o2 : Option D) (k2 : Option D → TI.Env → Res) : b_law_like_0t_1_lc1 g wf n x [o0, o1, o2] k2 =
  getS o0 fun d1 => getS o0 fun d2 => dIx d2 x fun z3 => puK z3 (getS o1 fun d4 => getS o1 fun d5 => dIx d5 x fun z6 => puK z6 (onRet (cl g wf n "_law_like" [z3, z6]) (fun r7 f8 => dTru r7 fun c9 => (match (!c9) with | true => k2 (some (.int 1)) [o0, o1, some x] | false => k2 none [o0, o1, some x])) xst)) := by kernel_rfl
theorem b_law_like_0t_1 (g : List D → Res) (wf n : Nat) (o0 o1 o2 : Option D) (E : Nx) : st1 g wf n df_law_like 57 (at1 b_law_like_0t 1) [o0, o1, o2] E =
  getS o1 fun d7 => getS o1 fun d1 => dLen d1 fun z2 => asIK z2 fun i3 => ckK (smallI i3) (ckK (hidOk [o0, o1, o2] [2]) (lcC (b_law_like_0t_1_lc1 g wf n) (rngL 0 (i3 : Int).toNat) [] [o0, o1, none] fun a4 r5 => dEq (.lst a4) (.lst []) fun c6 => E.rt (.bl c6) (wipeB r5 [o0, o1, o2] [2]))) := by kernel_rfl
theorem b_law_like_1 (g : List D → Res) (wf n : Nat) (o0 o1 o2 : Option D) (E : Nx) : st1 g wf n df_law_like 58 (at1 b_law_like 1) [o0, o1, o2] E =
  getS o1 fun d1 => dIs d1 .non fun c2 => (match c2 with | true => stL g wf n df_law_like 58 (ifT (at1 b_law_like 1)) [o0, o1, o2] E | false => stL g wf n df_law_like 58 (ifF (at1 b_law_like 1)) [o0, o1, o2] E) := by kernel_rfl
def b_law_like_1t : List Stmt := ifT (at1 b_law_like 1)
theorem b_law_like_1t_eq : b_law_like_1t = [at1 b_law_like_1t 0] := by kernel_rfl
theorem b_law_like_1t_0 (g : List D → Res) (wf n : Nat) (o0 o1 o2 : Option D) (E : Nx) : st1 g wf n df_law_like 57 (at1 b_law_like_1t 0) [o0, o1, o2] E =
  getS o0 fun d1 => dIs d1 .non fun c2 => E.rt (.bl c2) [o0, o1, o2] := by kernel_rfl
theorem b_law_like_2 (g : List D → Res) (wf n : Nat) (o0 o1 o2 : Option D) (E : Nx) : st1 g wf n df_law_like 57 (at1 b_law_like 2) [o0, o1, o2] E =
  getS o1 fun d1 => dIs d1 (.bl true) fun c2 => (match c2 with | true => stL g wf n df_law_like 57 (ifT (at1 b_law_like 2)) [o0, o1, o2] E | false => stL g wf n df_law_like 57 (ifF (at1 b_law_like 2)) [o0, o1, o2] E) := by kernel_rfl
def b_law_like_2t : List Stmt := ifT (at1 b_law_like 2)
theorem b_law_like_2t_eq : b_law_like_2t = [at1 b_law_like_2t 0] := by kernel_rfl
theorem b_law_like_2t_0 (g : List D → Res) (wf n : Nat) (o0 o1 o2 : Option D) (E : Nx) : st1 g wf n df_law_like 56 (at1 b_law_like_2t 0) [o0, o1, o2] E =
  getS o0 fun d1 => dIs d1 (.bl true) fun c2 => E.rt (.bl c2) [o0, o1, o2] := by kernel_rfl
theorem b_law_like_3 (g : List D → Res) (wf n : Nat) (o0 o1 o2 : Option D) (E : Nx) : st1 g wf n df_law_like 56 (at1 b_law_like 3) [o0, o1, o2] E =
  getS o1 fun d1 => dIs d1 (.bl false) fun c2 => (match c2 with | true => stL g wf n df_law_like 56 (ifT (at1 b_law_like 3)) [o0, o1, o2] E | false => stL g wf n df_law_like 56 (ifF (at1 b_law_like 3)) [o0, o1, o2] E) := by kernel_rfl
def b_law_like_3t : List Stmt := ifT (at1 b_law_like 3)
theorem b_law_like_3t_eq : b_law_like_3t = [at1 b_law_like_3t 0] := by kernel_rfl
theorem b_law_like_3t_0 (g : List D → Res) (wf n : Nat) (o0 o1 o2 : Option D) (E : Nx) : st1 g wf n df_law_like 55 (at1 b_law_like_3t 0) [o0, o1, o2] E =
  getS o0 fun d1 => dIs d1 (.bl false) fun c2 => E.rt (.bl c2) [o0, o1, o2] := by kernel_rfl
theorem b_law_like_4 (g : List D → Res) (wf n : Nat) (o0 o1 o2 : Option D) (E : Nx) : st1 g wf n df_law_like 55 (at1 b_law_like 4) [o0, o1, o2] E =
  getS o1 fun d1 => dIsi d1 "str" fun z2 => dTru z2 fun c3 => (match c3 with | true => stL g wf n df_law_like 55 (ifT (at1 b_law_like 4)) [o0, o1, o2] E | false => stL g wf n df_law_like 55 (ifF (at1 b_law_like 4)) [o0, o1, o2] E) := by kernel_rfl
def b_law_like_4t : List Stmt := ifT (at1 b_law_like 4)
theorem b_law_like_4t_eq : b_law_like_4t = [at1 b_law_like_4t 0] := by kernel_rfl
theorem b_law_like_4t_0 (g : List D → Res) (wf n : Nat) (o0 o1 o2 : Option D) (E : Nx) : st1 g wf n df_law_like 54 (at1 b_law_like_4t 0) [o0, o1, o2] E =
  getS o0 fun d1 => dIsi d1 "str" fun z2 => dTru z2 fun c3 => (match c3 with | true => oK (asS [(.str "")]) fun s4 => getS o0 fun d9 => getS o0 fun d5 => puK d5 (dJoin s4 (.lst [d5]) fun z6 => getS o1 fun d7 => dEq z6 d7 fun c8 => E.rt (.bl c8) [o0, o1, o2]) | false => puK z2 (E.rt z2 [o0, o1, o2])) := by kernel_rfl
theorem b_law_like_5 (g : List D → Res) (wf n : Nat) (o0 o1 o2 : Option D) (E : Nx) : st1 g wf n df_law_like 54 (at1 b_law_like 5) [o0, o1, o2] E =
  getS o0 fun d1 => dIsi d1 "int" fun z2 => dTru z2 fun c3 => (match c3 with | true => getS o0 fun d4 => dIsi d4 "bool" fun z5 => dTru z5 fun c6 => dTru (.bl (!c6)) fun c7 => (match c7 with | true => getS o0 fun d8 => getS o1 fun d9 => dEq d8 d9 fun c10 => E.rt (.bl c10) [o0, o1, o2] | false => E.rt (.bl (!c6)) [o0, o1, o2]) | false => puK z2 (E.rt z2 [o0, o1, o2])) := by kernel_rfl
/-! ### _law_gcd -/
def b_law_gcd : List Stmt := df_law_gcd.body
theorem b_law_gcd_eq : b_law_gcd = [at1 b_law_gcd 0, at1 b_law_gcd 1] := by kernel_rfl
theorem b_law_gcd_0 (g : List D → Res) (wf n : Nat) (o0 o1 o2 : Option D) (E : Nx) : st1 g wf n df_law_gcd 59 (at1 b_law_gcd 0) [o0, o1, o2] E =
  ckK (smallI 300) (forC (fst g wf n df_law_gcd 59 (at1 b_law_gcd 0)) (rngL 0 (300 : Int).toNat) [o0, o1, o2] E) := by kernel_rfl
theorem b_law_gcd_0x (g : List D → Res) (wf n : Nat) (x : D) (o0 o1 o2 : Option D) (E : Nx) : fst g wf n df_law_gcd 59 (at1 b_law_gcd 0) x [o0, o1, o2] E =
  stL g wf n df_law_gcd 59 (forB (at1 b_law_gcd 0)) [o0, o1, some x] E := by kernel_rfl
def b_law_gcd_0b : List Stmt := forB (at1 b_law_gcd 0)
theorem b_law_gcd_0b_eq : b_law_gcd_0b = [at1 b_law_gcd_0b 0, at1 b_law_gcd_0b 1] := by kernel_rfl
theorem b_law_gcd_0b_0 (g : List D → Res) (wf n : Nat) (o0 o1 o2 : Option D) (E : Nx) : st1 g wf n df_law_gcd 58 (at1 b_law_gcd_0b 0) [o0, o1, o2] E =
  getS o1 fun d1 => dEq d1 (.int 0) fun c2 => (match c2 with | true => stL g wf n df_law_gcd 58 (ifT (at1 b_law_gcd_0b 0)) [o0, o1, o2] E | false => stL g wf n df_law_gcd 58 (ifF (at1 b_law_gcd_0b 0)) [o0, o1, o2] E) := by kernel_rfl
def b_law_gcd_0b_0t : List Stmt := ifT (at1 b_law_gcd_0b 0)
theorem b_law_gcd_0b_0t_eq : b_law_gcd_0b_0t = [at1 b_law_gcd_0b_0t 0] := by kernel_rfl
theorem b_law_gcd_0b_0t_0 (g : List D → Res) (wf n : Nat) (o0 o1 o2 : Option D) (E : Nx) : st1 g wf n df_law_gcd 57 (at1 b_law_gcd_0b_0t 0) [o0, o1, o2] E =
  E.bk [o0, o1, o2] := by kernel_rfl
theorem b_law_gcd_0b_1 (g : List D → Res) (wf n : Nat) (o0 o1 o2 : Option D) (E : Nx) : st1 g wf n df_law_gcd 57 (at1 b_law_gcd_0b 1) [o0, o1, o2] E =
  getS o1 fun d9 => getS o0 fun d8 => getS o0 fun d1 => dInt 640 d1 fun z2 => getS o1 fun d3 => dMod z2 d3 fun z4 => getS o1 fun d5 => puK d5 (puK d5 (getS o0 fun d6 => puK d6 (puK z4 (getS o1 fun d7 => puK d7 (E.nx [some d5, some z4, o2]))))) := by kernel_rfl
theorem b_law_gcd_1 (g : List D → Res) (wf n : Nat) (o0 o1 o2 : Option D) (E : Nx) : st1 g wf n df_law_gcd 58 (at1 b_law_gcd 1) [o0, o1, o2] E =
  getS o0 fun d1 => retK d1 (E.rt d1 [o0, o1, o2]) (ckK (decide (2 ≤ 0)) (E.rt d1 [none, o1, o2])) := by kernel_rfl
/-! ### _law_ratio -/
def b_law_ratio : List Stmt := df_law_ratio.body
theorem b_law_ratio_eq : b_law_ratio = [at1 b_law_ratio 0, at1 b_law_ratio 1] := by kernel_rfl
theorem b_law_ratio_0 (g : List D → Res) (wf n : Nat) (o0 o1 o2 : Option D) (E : Nx) : st1 g wf n df_law_ratio 59 (at1 b_law_ratio 0) [o0, o1, o2] E =
  getS o0 fun d7 => getS o0 fun d1 => dAbs d1 fun z2 => getS o1 fun d6 => getS o1 fun d3 => onRet (cl g wf n "_law_gcd" [z2, d3]) (fun r4 f5 => E.nx [o0, unlend d3 f5[1]?, some r4]) exX := by kernel_rfl
theorem b_law_ratio_1 (g : List D → Res) (wf n : Nat) (o0 o1 o2 : Option D) (E : Nx) : st1 g wf n df_law_ratio 58 (at1 b_law_ratio 1) [o0, o1, o2] E =
  getS o0 fun d1 => getS o2 fun d2 => dDiv d1 d2 fun z3 => getS o1 fun d4 => getS o2 fun d5 => dDiv d4 d5 fun z6 => pusK [z3, z6] (E.rt (.tup [z3, z6]) [o0, o1, o2]) := by kernel_rfl
/-! ### _law_plus -/
def b_law_plus : List Stmt := df_law_plus.body
theorem b_law_plus_eq : b_law_plus = [at1 b_law_plus 0] := by kernel_rfl
theorem b_law_plus_0 (g : List D → Res) (wf n : Nat) (o0 o1 : Option D) (E : Nx) : st1 g wf n df_law_plus 59 (at1 b_law_plus 0) [o0, o1] E =
  getS o0 fun d1 => getS o0 fun d2 => dIx d2 (.int 0) fun z3 => puK z3 (getS o1 fun d4 => getS o1 fun d5 => dIx d5 (.int 1) fun z6 => dMul z3 z6 fun z7 => getS o1 fun d8 => getS o1 fun d9 => dIx d9 (.int 0) fun z10 => puK z10 (getS o0 fun d11 => getS o0 fun d12 => dIx d12 (.int 1) fun z13 => dMul z10 z13 fun z14 => dAdd z7 z14 fun z15 => getS o0 fun d16 => getS o0 fun d17 => dIx d17 (.int 1) fun z18 => puK z18 (getS o1 fun d19 => getS o1 fun d20 => dIx d20 (.int 1) fun z21 => dMul z18 z21 fun z22 => onRet (cl g wf n "_law_ratio" [z15, z22]) (fun r23 f24 => E.rt r23 [o0, o1]) exX))) := by kernel_rfl
/-! ### _law_minus -/
def b_law_minus : List Stmt := df_law_minus.body
theorem b_law_minus_eq : b_law_minus = [at1 b_law_minus 0] := by kernel_rfl
theorem b_law_minus_0 (g : List D → Res) (wf n : Nat) (o0 o1 : Option D) (E : Nx) : st1 g wf n df_law_minus 59 (at1 b_law_minus 0) [o0, o1] E =
  getS o0 fun d1 => getS o0 fun d2 => dIx d2 (.int 0) fun z3 => puK z3 (getS o1 fun d4 => getS o1 fun d5 => dIx d5 (.int 1) fun z6 => dMul z3 z6 fun z7 => getS o1 fun d8 => getS o1 fun d9 => dIx d9 (.int 0) fun z10 => puK z10 (getS o0 fun d11 => getS o0 fun d12 => dIx d12 (.int 1) fun z13 => dMul z10 z13 fun z14 => dSub z7 z14 fun z15 => getS o0 fun d16 => getS o0 fun d17 => dIx d17 (.int 1) fun z18 => puK z18 (getS o1 fun d19 => getS o1 fun d20 => dIx d20 (.int 1) fun z21 => dMul z18 z21 fun z22 => onRet (cl g wf n "_law_ratio" [z15, z22]) (fun r23 f24 => E.rt r23 [o0, o1]) exX))) := by kernel_rfl
/-! ### _law_product -/
def b_law_product : List Stmt := df_law_product.body
theorem b_law_product_eq : b_law_product = [at1 b_law_product 0] := by kernel_rfl
theorem b_law_product_0 (g : List D → Res) (wf n : Nat) (o0 o1 : Option D) (E : Nx) : st1 g wf n df_law_product 59 (at1 b_law_product 0) [o0, o1] E =
  getS o0 fun d1 => getS o0 fun d2 => dIx d2 (.int 0) fun z3 => puK z3 (getS o1 fun d4 => getS o1 fun d5 => dIx d5 (.int 0) fun z6 => dMul z3 z6 fun z7 => getS o0 fun d8 => getS o0 fun d9 => dIx d9 (.int 1) fun z10 => puK z10 (getS o1 fun d11 => getS o1 fun d12 => dIx d12 (.int 1) fun z13 => dMul z10 z13 fun z14 => onRet (cl g wf n "_law_ratio" [z7, z14]) (fun r15 f16 => E.rt r15 [o0, o1]) exX)) := by kernel_rfl
/-! ### _law_less -/
def b_law_less : List Stmt := df_law_less.body
theorem b_law_less_eq : b_law_less = [at1 b_law_less 0] := by kernel_rfl
theorem b_law_less_0 (g : List D → Res) (wf n : Nat) (o0 o1 : Option D) (E : Nx) : st1 g wf n df_law_less 59 (at1 b_law_less 0) [o0, o1] E =
  getS o0 fun d1 => getS o0 fun d2 => dIx d2 (.int 0) fun z3 => puK z3 (getS o1 fun d4 => getS o1 fun d5 => dIx d5 (.int 1) fun z6 => dMul z3 z6 fun z7 => getS o1 fun d8 => getS o1 fun d9 => dIx d9 (.int 0) fun z10 => puK z10 (getS o0 fun d11 => getS o0 fun d12 => dIx d12 (.int 1) fun z13 => dMul z10 z13 fun z14 => dLt z7 z14 fun c15 => E.rt (.bl c15) [o0, o1])) := by kernel_rfl
/-! ### _law_wave_at -/
def b_law_wave_at : List Stmt := df_law_wave_at.body
theorem b_law_wave_at_eq : b_law_wave_at = [at1 b_law_wave_at 0, at1 b_law_wave_at 1, at1 b_law_wave_at 2, at1 b_law_wave_at 3, at1 b_law_wave_at 4, at1 b_law_wave_at 5, at1 b_law_wave_at 6] := by kernel_rfl
theorem b_law_wave_at_0 (g : List D → Res) (wf n : Nat) (o0 o1 o2 o3 o4 o5 o6 o7 o8 o9 o10 : Option D) (E : Nx) : st1 g wf n df_law_wave_at 59 (at1 b_law_wave_at 0) [o0, o1, o2, o3, o4, o5, o6, o7, o8, o9, o10] E =
  getS o0 fun d1 => getS o0 fun d2 => dIx d2 (.int 1) fun z3 => puK z3 (getS o0 fun d4 => getS o0 fun d5 => dIx d5 (.int 2) fun z6 => puK z6 (E.nx [o0, o1, some z3, some z6, o4, o5, o6, o7, o8, o9, o10])) := by kernel_rfl
theorem b_law_wave_at_1 (g : List D → Res) (wf n : Nat) (o0 o1 o2 o3 o4 o5 o6 o7 o8 o9 o10 : Option D) (E : Nx) : st1 g wf n df_law_wave_at 58 (at1 b_law_wave_at 1) [o0, o1, o2, o3, o4, o5, o6, o7, o8, o9, o10] E =
  getS o1 fun d5 => getS o1 fun d1 => dInt 640 d1 fun z2 => getS o2 fun d3 => dMod z2 d3 fun z4 => E.nx [o0, o1, o2, o3, some z4, o5, o6, o7, o8, o9, o10] := by kernel_rfl
def b_law_wave_at_2_lc1_e : Expr := lcAt 0 (at1 b_law_wave_at 2)
def b_law_wave_at_2_lc1 (g : List D → Res) (wf n : Nat) : D → TI.Env → (Option D → TI.Env → Res) → Res := lcs g wf n df_law_wave_at 55 b_law_wave_at_2_lc1_e
theorem b_law_wave_at_2_lc1_x (g : List D → Res) (wf n : Nat) (x : D) (o0 o1 o2 o3 o4 o5 o6 o7 o8 o9 o10 : Option D) (k2 : Option D → TI.Env → Res) : b_law_wave_at_2_lc1 g wf n x [o0, o1, o2, o3, o4, o5, o6, o7, o8, o9, o10] k2 =
  dIx x (.int 0) fun z1 => getS o4 fun d2 => dLt d2 z1 fun c3 => (match c3 with | true => puK x (k2 (some x) [o0, o1, o2, o3, o4, o5, o6, o7, o8, o9, some x]) | false => k2 none [o0, o1, o2, o3, o4, o5, o6, o7, o8, o9, some x]) := by kernel_rfl
theorem b_law_wave_at_2 (g : List D → Res) (wf n : Nat) (o0 o1 o2 o3 o4 o5 o6 o7 o8 o9 o10 : Option D) (E : Nx) : st1 g wf n df_law_wave_at 57 (at1 b_law_wave_at 2) [o0, o1, o2, o3, o4, o5, o6, o7, o8, o9, o10] E =
  lockO o3 fun w1 => getS w1 fun d2 => seqV true d2 fun l3 => ckK (hidOk [o0, o1, o2, w1, o4, o5, o6, o7, o8, o9, o10] [10]) (lcC (b_law_wave_at_2_lc1 g wf n) l3 [] [o0, o1, o2, w1, o4, o5, o6, o7, o8, o9, none] fun a4 r5 => getK (wipeB r5 [o0, o1, o2, w1, o4, o5, o6, o7, o8, o9, o10] [10]) 3 fun d6 => getK (wipeB r5 [o0, o1, o2, w1, o4, o5, o6, o7, o8, o9, o10] [10]) 3 fun d7 => dIx d7 (.int 0) fun z8 => dIx z8 (.int 0) fun z9 => getK (wipeB r5 [o0, o1, o2, w1, o4, o5, o6, o7, o8, o9, o10] [10]) 2 fun d10 => dAdd z9 d10 fun z11 => getK (wipeB r5 [o0, o1, o2, w1, o4, o5, o6, o7, o8, o9, o10] [10]) 3 fun d12 => getK (wipeB r5 [o0, o1, o2, w1, o4, o5, o6, o7, o8, o9, o10] [10]) 3 fun d13 => dIx d13 (.int 0) fun z14 => dIx z14 (.int 1) fun z15 => puK z15 (pusK [z11, z15] (dAdd (.lst a4) (.lst [(.tup [z11, z15])]) fun z16 => E.nx ((wipeB r5 [o0, o1, o2, w1, o4, o5, o6, o7, o8, o9, o10] [10]).set 5 (some z16))))) := by kernel_rfl
def b_law_wave_at_3_lc1_e : Expr := lcAt 0 (at1 b_law_wave_at 3)
def b_law_wave_at_3_lc1 (g : List D → Res) (wf n : Nat) : D → TI.Env → (Option D → TI.Env → Res) → Res := lcs g wf n df_law_wave_at 54 b_law_wave_at_3_lc1_e
theorem b_law_wave_at_3_lc1_x (g : List D → Res) (wf n : Nat) (x : D) (o0 o1 o2 o3 o4 o5 o6 o7 o8 o9 o10 : Option D) (k2 : Option D → TI.Env → Res) : b_law_wave_at_3_lc1 g wf n x [o0, o1, o2, o3, o4, o5, o6, o7, o8, o9, o10] k2 =
  dIx x (.int 0) fun z1 => getS o4 fun d2 => dLe z1 d2 fun c3 => (match c3 with | true => puK x (k2 (some x) [o0, o1, o2, o3, o4, o5, o6, o7, o8, o9, some x]) | false => k2 none [o0, o1, o2, o3, o4, o5, o6, o7, o8, o9, some x]) := by kernel_rfl
theorem b_law_wave_at_3 (g : List D → Res) (wf n : Nat) (o0 o1 o2 o3 o4 o5 o6 o7 o8 o9 o10 : Option D) (E : Nx) : st1 g wf n df_law_wave_at 56 (at1 b_law_wave_at 3) [o0, o1, o2, o3, o4, o5, o6, o7, o8, o9, o10] E =
  getS o3 fun d1 => dNeg (.int 1) fun z2 => getS o3 fun d3 => dIx d3 z2 fun z4 => dIx z4 (.int 0) fun z5 => getS o2 fun d6 => dSub z5 d6 fun z7 => getS o3 fun d8 => dNeg (.int 1) fun z9 => getS o3 fun d10 => dIx d10 z9 fun z11 => dIx z11 (.int 1) fun z12 => puK z12 (pusK [z7, z12] (lockO o3 fun w13 => getS w13 fun d14 => seqV true d14 fun l15 => ckK (hidOk [o0, o1, o2, w13, o4, o5, o6, o7, o8, o9, o10] [10]) (lcC (b_law_wave_at_3_lc1 g wf n) l15 [] [o0, o1, o2, w13, o4, o5, o6, o7, o8, o9, none] fun a16 r17 => dAdd (.lst [(.tup [z7, z12])]) (.lst a16) fun z18 => E.nx ((wipeB r17 [o0, o1, o2, w13, o4, o5, o6, o7, o8, o9, o10] [10]).set 6 (some z18))))) := by kernel_rfl
theorem b_law_wave_at_4 (g : List D → Res) (wf n : Nat) (o0 o1 o2 o3 o4 o5 o6 o7 o8 o9 o10 : Option D) (E : Nx) : st1 g wf n df_law_wave_at 55 (at1 b_law_wave_at 4) [o0, o1, o2, o3, o4, o5, o6, o7, o8, o9, o10] E =
  getS o6 fun d1 => dNeg (.int 1) fun z2 => getS o6 fun d3 => dIx d3 z2 fun z4 => puK z4 (getS o5 fun d5 => getS o5 fun d6 => dIx d6 (.int 0) fun z7 => puK z7 (E.nx [o0, o1, o2, o3, o4, o5, o6, some z4, some z7, o9, o10])) := by kernel_rfl
theorem b_law_wave_at_5 (g : List D → Res) (wf n : Nat) (o0 o1 o2 o3 o4 o5 o6 o7 o8 o9 o10 : Option D) (E : Nx) : st1 g wf n df_law_wave_at 54 (at1 b_law_wave_at 5) [o0, o1, o2, o3, o4, o5, o6, o7, o8, o9, o10] E =
  getS o8 fun d1 => getS o8 fun d2 => dIx d2 (.int 1) fun z3 => puK z3 (getS o7 fun d4 => getS o7 fun d5 => dIx d5 (.int 1) fun z6 => puK z6 (onRet (cl g wf n "_law_minus" [z3, z6]) (fun r7 f8 => E.nx [o0, o1, o2, o3, o4, o5, o6, o7, o8, some r7, o10]) exX)) := by kernel_rfl
theorem b_law_wave_at_6 (g : List D → Res) (wf n : Nat) (o0 o1 o2 o3 o4 o5 o6 o7 o8 o9 o10 : Option D) (E : Nx) : st1 g wf n df_law_wave_at 53 (at1 b_law_wave_at 6) [o0, o1, o2, o3, o4, o5, o6, o7, o8, o9, o10] E =
  getS o7 fun d1 => getS o7 fun d2 => dIx d2 (.int 1) fun z3 => puK z3 (getS o9 fun d4 => getS o9 fun d5 => dIx d5 (.int 0) fun z6 => puK z6 (getS o4 fun d7 => getS o7 fun d8 => getS o7 fun d9 => dIx d9 (.int 0) fun z10 => getS o4 fun d11 => dSub d11 z10 fun z12 => dMul z6 z12 fun z13 => getS o9 fun d14 => getS o9 fun d15 => dIx d15 (.int 1) fun z16 => puK z16 (getS o8 fun d17 => getS o8 fun d18 => dIx d18 (.int 0) fun z19 => puK z19 (getS o7 fun d20 => getS o7 fun d21 => dIx d21 (.int 0) fun z22 => dSub z19 z22 fun z23 => dMul z16 z23 fun z24 => onRet (cl g wf n "_law_ratio" [z13, z24]) (fun r25 f26 => onRet (cl g wf n "_law_plus" [z3, r25]) (fun r27 f28 => E.rt r27 [o0, o1, o2, o3, o4, o5, o6, o7, o8, o9, o10]) exX) exX)))) := by kernel_rfl
/-! ### _law_water -/
def b_law_water : List Stmt := df_law_water.body
theorem b_law_water_eq : b_law_water = [at1 b_law_water 0, at1 b_law_water 1, at1 b_law_water 2] := by kernel_rfl
theorem b_law_water_0 (g : List D → Res) (wf n : Nat) (o0 o1 o2 o3 : Option D) (E : Nx) : st1 g wf n df_law_water 59 (at1 b_law_water 0) [o0, o1, o2, o3] E =
  getS o0 fun d1 => getS o0 fun d2 => dIx d2 (.int 1) fun z3 => puK z3 (E.nx [o0, o1, some z3, o3]) := by kernel_rfl
theorem b_law_water_1 (g : List D → Res) (wf n : Nat) (o0 o1 o2 o3 : Option D) (E : Nx) : st1 g wf n df_law_water 58 (at1 b_law_water 1) [o0, o1, o2, o3] E =
  getS o0 fun d1 => getS o0 fun d2 => dIx d2 (.int 2) fun z3 => seqV true z3 fun l4 => forC (fst g wf n df_law_water 58 (at1 b_law_water 1)) l4 [o0, o1, o2, o3] E := by kernel_rfl
theorem b_law_water_1x (g : List D → Res) (wf n : Nat) (x : D) (o0 o1 o2 o3 : Option D) (E : Nx) : fst g wf n df_law_water 58 (at1 b_law_water 1) x [o0, o1, o2, o3] E =
  stL g wf n df_law_water 58 (forB (at1 b_law_water 1)) [o0, o1, o2, some x] E := by kernel_rfl
def b_law_water_1b : List Stmt := forB (at1 b_law_water 1)
theorem b_law_water_1b_eq : b_law_water_1b = [at1 b_law_water_1b 0] := by kernel_rfl
theorem b_law_water_1b_0 (g : List D → Res) (wf n : Nat) (o0 o1 o2 o3 : Option D) (E : Nx) : st1 g wf n df_law_water 57 (at1 b_law_water_1b 0) [o0, o1, o2, o3] E =
  getS o2 fun d10 => getS o3 fun d9 => getS o1 fun d8 => getS o3 fun d1 => getS o1 fun d2 => onRet (cl g wf n "_law_wave_at" [d1, d2]) (fun r3 f4 => getS o2 fun d5 => onRet (cl g wf n "_law_plus" [d5, r3]) (fun r6 f7 => E.nx [o0, unlend d2 f4[1]?, some r6, unlend d1 f4[0]?]) exX) exX := by kernel_rfl
theorem b_law_water_2 (g : List D → Res) (wf n : Nat) (o0 o1 o2 o3 : Option D) (E : Nx) : st1 g wf n df_law_water 57 (at1 b_law_water 2) [o0, o1, o2, o3] E =
  getS o2 fun d1 => retK d1 (E.rt d1 [o0, o1, o2, o3]) (ckK (decide (2 ≤ 2)) (E.rt d1 [o0, o1, none, o3])) := by kernel_rfl
/-! ### _law_height -/
def b_law_height : List Stmt := df_law_height.body
theorem b_law_height_eq : b_law_height = [at1 b_law_height 0] := by kernel_rfl
theorem b_law_height_0 (g : List D → Res) (wf n : Nat) (o0 : Option D) (E : Nx) : st1 g wf n df_law_height 59 (at1 b_law_height 0) [o0] E =
  getS o0 fun d11 => getS o0 fun d1 => onRet (cl g wf n "_law_draw" [d1, (.int 41)]) (fun r2 f3 => dSub r2 (.int 20) fun z4 => getS (unlend d1 f3[0]?) fun d10 => getS (unlend d1 f3[0]?) fun d5 => onRet (cl g wf n "_law_pick" [d5, (.lst [(.int 1), (.int 1), (.int 1), (.int 2), (.int 3)])]) (fun r6 f7 => onRet (cl g wf n "_law_ratio" [z4, r6]) (fun r8 f9 => E.rt r8 [unlend d5 f7[0]?]) exX) exX) exX := by kernel_rfl
/-! ### _law_wave -/
def b_law_wave : List Stmt := df_law_wave.body
theorem b_law_wave_eq : b_law_wave = [at1 b_law_wave 0, at1 b_law_wave 1, at1 b_law_wave 2] := by kernel_rfl
theorem b_law_wave_0 (g : List D → Res) (wf n : Nat) (o0 o1 o2 o3 o4 o5 : Option D) (E : Nx) : st1 g wf n df_law_wave 59 (at1 b_law_wave 0) [o0, o1, o2, o3, o4, o5] E =
  getS o0 fun d6 => getS o1 fun d5 => getS o0 fun d1 => getS o1 fun d2 => onRet (cl g wf n "_law_pick" [d1, d2]) (fun r3 f4 => E.nx [unlend d1 f4[0]?, unlend d2 f4[1]?, some r3, o3, o4, o5]) exX := by kernel_rfl
def b_law_wave_1_lc1_e : Expr := lcAt 0 (at1 b_law_wave 1)
def b_law_wave_1_lc1 (g : List D → Res) (wf n : Nat) : D → TI.Env → (Option D → TI.Env → Res) → Res := lcs g wf n df_law_wave 56 b_law_wave_1_lc1_e
theorem b_law_wave_1_lc1_x (g : List D → Res) (wf n : Nat) (x : D) (o0 o1 o2 o3 o4 o5 : Option D) (k2 : Option D → TI.Env → Res) : b_law_wave_1_lc1 g wf n x [o0, o1, o2, o3, o4, o5] k2 =
  getS o0 fun d6 => getS o2 fun d5 => getS o0 fun d1 => getS o2 fun d2 => onRet (cl g wf n "_law_draw" [d1, d2]) (fun r3 f4 => k2 (some r3) [unlend d1 f4[0]?, o1, unlend d2 f4[1]?, o3, some x, o5]) xst := by kernel_rfl
theorem b_law_wave_1 (g : List D → Res) (wf n : Nat) (o0 o1 o2 o3 o4 o5 : Option D) (E : Nx) : st1 g wf n df_law_wave 58 (at1 b_law_wave 1) [o0, o1, o2, o3, o4, o5] E =
  getS o0 fun d9 => getS o0 fun d1 => onRet (cl g wf n "_law_draw" [d1, (.int 4)]) (fun r2 f3 => dAdd (.int 1) r2 fun z4 => asIK z4 fun i5 => ckK (smallI i5) (ckK (hidOk [unlend d1 f3[0]?, o1, o2, o3, o4, o5] [4]) (lcC (b_law_wave_1_lc1 g wf n) (rngL 0 (i5 : Int).toNat) [] [unlend d1 f3[0]?, o1, o2, o3, none, o5] fun a6 r7 => srtD (.lst a6) fun z8 => E.nx ((wipeB r7 [unlend d1 f3[0]?, o1, o2, o3, o4, o5] [4]).set 3 (some z8))))) exX := by kernel_rfl
def b_law_wave_2_lc1_e : Expr := lcAt 0 (at1 b_law_wave 2)
def b_law_wave_2_lc1 (g : List D → Res) (wf n : Nat) : D → TI.Env → (Option D → TI.Env → Res) → Res := lcs g wf n df_law_wave 50 b_law_wave_2_lc1_e
theorem b_law_wave_2_lc1_x (g : List D → Res) (wf n : Nat) (x : D) (o0 o1 o2 o3 o4 o5 : Option D) (k2 : Option D → TI.Env → Res) : b_law_wave_2_lc1 g wf n x [o0, o1, o2, o3, o4, o5] k2 =
  getS o0 fun d4 => getS o0 fun d1 => onRet (cl g wf n "_law_height" [d1]) (fun r2 f3 => puK x (pusK [x, r2] (k2 (some (.tup [x, r2])) [unlend d1 f3[0]?, o1, o2, o3, o4, some x]))) xst := by kernel_rfl
theorem b_law_wave_2 (g : List D → Res) (wf n : Nat) (o0 o1 o2 o3 o4 o5 : Option D) (E : Nx) : st1 g wf n df_law_wave 57 (at1 b_law_wave 2) [o0, o1, o2, o3, o4, o5] E =
  getS o2 fun d8 => lockO o3 fun w1 => getS w1 fun d2 => seqV true d2 fun l3 => ckK (hidOk [o0, o1, o2, w1, o4, o5] [5]) (lcC (b_law_wave_2_lc1 g wf n) l3 [] [o0, o1, o2, w1, o4, none] fun a4 r5 => dTup (.lst a4) fun z6 => getK (wipeB r5 [o0, o1, o2, w1, o4, o5] [5]) 2 fun d7 => puK d7 (pusK [(.str "wave"), d7, z6] (E.rt (.tup [(.str "wave"), d7, z6]) (wipeB r5 [o0, o1, o2, w1, o4, o5] [5])))) := by kernel_rfl
/-! ### _law_tide -/
def b_law_tide : List Stmt := df_law_tide.body
theorem b_law_tide_eq : b_law_tide = [at1 b_law_tide 0] := by kernel_rfl
def b_law_tide_0_lc1_e : Expr := lcAt 0 (at1 b_law_tide 0)
def b_law_tide_0_lc1 (g : List D → Res) (wf n : Nat) : D → TI.Env → (Option D → TI.Env → Res) → Res := lcs g wf n df_law_tide 52 b_law_tide_0_lc1_e
theorem b_law_tide_0_lc1_x (g : List D → Res) (wf n : Nat) (x : D) (o0 o1 o2 o3 : Option D) (k2 : Option D → TI.Env → Res) : b_law_tide_0_lc1 g wf n x [o0, o1, o2, o3] k2 =
  getS o0 fun d6 => getS o1 fun d5 => getS o0 fun d1 => getS o1 fun d2 => onRet (cl g wf n "_law_wave" [d1, d2]) (fun r3 f4 => k2 (some r3) [unlend d1 f4[0]?, unlend d2 f4[1]?, o2, some x]) xst := by kernel_rfl
theorem b_law_tide_0 (g : List D → Res) (wf n : Nat) (o0 o1 o2 o3 : Option D) (E : Nx) : st1 g wf n df_law_tide 59 (at1 b_law_tide 0) [o0, o1, o2, o3] E =
  getS o0 fun d14 => getS o0 fun d1 => onRet (cl g wf n "_law_height" [d1]) (fun r2 f3 => getS (unlend d1 f3[0]?) fun d13 => getS o2 fun d4 => dAdd d4 (.int 1) fun z5 => getS (unlend d1 f3[0]?) fun d6 => onRet (cl g wf n "_law_draw" [d6, z5]) (fun r7 f8 => asIK r7 fun i9 => ckK (smallI i9) (ckK (hidOk [unlend d6 f8[0]?, o1, o2, o3] [3]) (lcC (b_law_tide_0_lc1 g wf n) (rngL 0 (i9 : Int).toNat) [] [unlend d6 f8[0]?, o1, o2, none] fun a10 r11 => dTup (.lst a10) fun z12 => pusK [(.str "tide"), r2, z12] (E.rt (.tup [(.str "tide"), r2, z12]) (wipeB r11 [unlend d6 f8[0]?, o1, o2, o3] [3]))))) exX) exX := by kernel_rfl
/-! ### _law_ratio_text -/
def b_law_ratio_text : List Stmt := df_law_ratio_text.body
theorem b_law_ratio_text_eq : b_law_ratio_text = [at1 b_law_ratio_text 0] := by kernel_rfl
theorem b_law_ratio_text_0 (g : List D → Res) (wf n : Nat) (o0 : Option D) (E : Nx) : st1 g wf n df_law_ratio_text 59 (at1 b_law_ratio_text 0) [o0] E =
  getS o0 fun d1 => getS o0 fun d2 => dIx d2 (.int 0) fun z3 => dStr z3 fun z4 => getS o0 fun d5 => getS o0 fun d6 => dIx d6 (.int 1) fun z7 => dStr z7 fun z8 => dAdd (.str "/") z8 fun z9 => getS o0 fun d10 => getS o0 fun d11 => dIx d11 (.int 1) fun z12 => dEq z12 (.int 1) fun c13 => dInt 640 (.bl (!c13)) fun z14 => dMul z9 z14 fun z15 => dAdd z4 z15 fun z16 => E.rt z16 [o0] := by kernel_rfl
/-! ### law -/
def b_law : List Stmt := df_law.body
theorem b_law_eq : b_law = [at1 b_law 0, at1 b_law 1, at1 b_law 2, at1 b_law 3, at1 b_law 4, at1 b_law 5, at1 b_law 6, at1 b_law 7, at1 b_law 8, at1 b_law 9, at1 b_law 10, at1 b_law 11, at1 b_law 12, at1 b_law 13, at1 b_law 14, at1 b_law 15, at1 b_law 16] := by kernel_rfl
theorem b_law_0 (g : List D → Res) (wf n : Nat) (o0 o1 o2 o3 o4 o5 o6 o7 o8 o9 o10 o11 o12 o13 o14 o15 o16 o17 : Option D) (E : Nx) : st1 g wf n df_law 59 (at1 b_law 0) [o0, o1, o2, o3, o4, o5, o6, o7, o8, o9, o10, o11, o12, o13, o14, o15, o16, o17] E =
  getS o0 fun d4 => getS o0 fun d1 => onRet (cl g wf n "_law_digits" [d1, (.int 0), (.int 63)]) (fun r2 f3 => E.nx [unlend d1 f3[0]?, some (.lst [r2, (.int 0)]), o2, o3, o4, o5, o6, o7, o8, o9, o10, o11, o12, o13, o14, o15, o16, o17]) exX := by kernel_rfl
theorem b_law_1 (g : List D → Res) (wf n : Nat) (o0 o1 o2 o3 o4 o5 o6 o7 o8 o9 o10 o11 o12 o13 o14 o15 o16 o17 : Option D) (E : Nx) : st1 g wf n df_law 58 (at1 b_law 1) [o0, o1, o2, o3, o4, o5, o6, o7, o8, o9, o10, o11, o12, o13, o14, o15, o16, o17] E =
  E.nx [o0, o1, some (.lst [(.int 1), (.int 2), (.int 3), (.int 4), (.int 5), (.int 6), (.int 8), (.int 12), (.int 24)]), o3, o4, o5, o6, o7, o8, o9, o10, o11, o12, o13, o14, o15, o16, o17] := by kernel_rfl
theorem b_law_2 (g : List D → Res) (wf n : Nat) (o0 o1 o2 o3 o4 o5 o6 o7 o8 o9 o10 o11 o12 o13 o14 o15 o16 o17 : Option D) (E : Nx) : st1 g wf n df_law 57 (at1 b_law 2) [o0, o1, o2, o3, o4, o5, o6, o7, o8, o9, o10, o11, o12, o13, o14, o15, o16, o17] E =
  getS o1 fun d6 => getS o2 fun d5 => getS o1 fun d1 => getS o2 fun d2 => onRet (cl g wf n "_law_tide" [d1, d2, (.int 3)]) (fun r3 f4 => E.nx [o0, unlend d1 f4[0]?, unlend d2 f4[1]?, some r3, o4, o5, o6, o7, o8, o9, o10, o11, o12, o13, o14, o15, o16, o17]) exX := by kernel_rfl
theorem b_law_3 (g : List D → Res) (wf n : Nat) (o0 o1 o2 o3 o4 o5 o6 o7 o8 o9 o10 o11 o12 o13 o14 o15 o16 o17 : Option D) (E : Nx) : st1 g wf n df_law 56 (at1 b_law 3) [o0, o1, o2, o3, o4, o5, o6, o7, o8, o9, o10, o11, o12, o13, o14, o15, o16, o17] E =
  getS o1 fun d6 => getS o2 fun d5 => getS o1 fun d1 => getS o2 fun d2 => onRet (cl g wf n "_law_tide" [d1, d2, (.int 3)]) (fun r3 f4 => E.nx [o0, unlend d1 f4[0]?, unlend d2 f4[1]?, o3, some r3, o5, o6, o7, o8, o9, o10, o11, o12, o13, o14, o15, o16, o17]) exX := by kernel_rfl
theorem b_law_4 (g : List D → Res) (wf n : Nat) (o0 o1 o2 o3 o4 o5 o6 o7 o8 o9 o10 o11 o12 o13 o14 o15 o16 o17 : Option D) (E : Nx) : st1 g wf n df_law 55 (at1 b_law 4) [o0, o1, o2, o3, o4, o5, o6, o7, o8, o9, o10, o11, o12, o13, o14, o15, o16, o17] E =
  getS o1 fun d5 => getS o1 fun d1 => onRet (cl g wf n "_law_draw" [d1, (.int 80)]) (fun r2 f3 => dSub r2 (.int 40) fun z4 => E.nx [o0, unlend d1 f3[0]?, o2, o3, o4, some z4, o6, o7, o8, o9, o10, o11, o12, o13, o14, o15, o16, o17]) exX := by kernel_rfl
theorem b_law_5 (g : List D → Res) (wf n : Nat) (o0 o1 o2 o3 o4 o5 o6 o7 o8 o9 o10 o11 o12 o13 o14 o15 o16 o17 : Option D) (E : Nx) : st1 g wf n df_law 54 (at1 b_law 5) [o0, o1, o2, o3, o4, o5, o6, o7, o8, o9, o10, o11, o12, o13, o14, o15, o16, o17] E =
  getS o1 fun d4 => getS o1 fun d1 => onRet (cl g wf n "_law_height" [d1]) (fun r2 f3 => E.nx [o0, unlend d1 f3[0]?, o2, o3, o4, o5, some r2, o7, o8, o9, o10, o11, o12, o13, o14, o15, o16, o17]) exX := by kernel_rfl
theorem b_law_6 (g : List D → Res) (wf n : Nat) (o0 o1 o2 o3 o4 o5 o6 o7 o8 o9 o10 o11 o12 o13 o14 o15 o16 o17 : Option D) (E : Nx) : st1 g wf n df_law 53 (at1 b_law 6) [o0, o1, o2, o3, o4, o5, o6, o7, o8, o9, o10, o11, o12, o13, o14, o15, o16, o17] E =
  getS o3 fun d23 => getS o3 fun d1 => onRet (cl g wf n "is_tide" [d1]) (fun r2 f3 => dIs r2 (.bl true) fun c4 => (match (!c4) with | true => (match true with | true => stL g wf n df_law 53 (ifT (at1 b_law 6)) [o0, o1, o2, unlend d1 f3[0]?, o4, o5, o6, o7, o8, o9, o10, o11, o12, o13, o14, o15, o16, o17] E | false => stL g wf n df_law 53 (ifF (at1 b_law 6)) [o0, o1, o2, unlend d1 f3[0]?, o4, o5, o6, o7, o8, o9, o10, o11, o12, o13, o14, o15, o16, o17] E) | false => getS (unlend d1 f3[0]?) fun d22 => getS o6 fun d21 => getS (unlend d1 f3[0]?) fun d5 => getS o6 fun d6 => onRet (cl g wf n "times" [d5, d6]) (fun r7 f8 => onRet (cl g wf n "is_any_tide" [r7]) (fun r9 f10 => dIs r9 (.bl true) fun c11 => (match (!c11) with | true => (match true with | true => stL g wf n df_law 53 (ifT (at1 b_law 6)) [o0, o1, o2, unlend d5 f8[0]?, o4, o5, unlend d6 f8[1]?, o7, o8, o9, o10, o11, o12, o13, o14, o15, o16, o17] E | false => stL g wf n df_law 53 (ifF (at1 b_law 6)) [o0, o1, o2, unlend d5 f8[0]?, o4, o5, unlend d6 f8[1]?, o7, o8, o9, o10, o11, o12, o13, o14, o15, o16, o17] E) | false => getS (unlend d5 f8[0]?) fun d20 => getS o5 fun d19 => getS (unlend d5 f8[0]?) fun d12 => getS o5 fun d13 => onRet (cl g wf n "later" [d12, d13]) (fun r14 f15 => onRet (cl g wf n "is_any_tide" [r14]) (fun r16 f17 => dIs r16 (.bl true) fun c18 => (match (!c18) with | true => stL g wf n df_law 53 (ifT (at1 b_law 6)) [o0, o1, o2, unlend d12 f15[0]?, o4, unlend d13 f15[1]?, unlend d6 f8[1]?, o7, o8, o9, o10, o11, o12, o13, o14, o15, o16, o17] E | false => stL g wf n df_law 53 (ifF (at1 b_law 6)) [o0, o1, o2, unlend d12 f15[0]?, o4, unlend d13 f15[1]?, unlend d6 f8[1]?, o7, o8, o9, o10, o11, o12, o13, o14, o15, o16, o17] E)) exX) exX)) exX) exX)) exX := by kernel_rfl
def b_law_6t : List Stmt := ifT (at1 b_law 6)
theorem b_law_6t_eq : b_law_6t = [at1 b_law_6t 0] := by kernel_rfl
theorem b_law_6t_0 (g : List D → Res) (wf n : Nat) (o0 o1 o2 o3 o4 o5 o6 o7 o8 o9 o10 o11 o12 o13 o14 o15 o16 o17 : Option D) (E : Nx) : st1 g wf n df_law 52 (at1 b_law_6t 0) [o0, o1, o2, o3, o4, o5, o6, o7, o8, o9, o10, o11, o12, o13, o14, o15, o16, o17] E =
  E.rt (.bl false) [o0, o1, o2, o3, o4, o5, o6, o7, o8, o9, o10, o11, o12, o13, o14, o15, o16, o17] := by kernel_rfl
theorem b_law_7 (g : List D → Res) (wf n : Nat) (o0 o1 o2 o3 o4 o5 o6 o7 o8 o9 o10 o11 o12 o13 o14 o15 o16 o17 : Option D) (E : Nx) : st1 g wf n df_law 52 (at1 b_law 7) [o0, o1, o2, o3, o4, o5, o6, o7, o8, o9, o10, o11, o12, o13, o14, o15, o16, o17] E =
  getS o3 fun d24 => getS o5 fun d23 => getS o3 fun d1 => getS o5 fun d2 => onRet (cl g wf n "later" [d1, d2]) (fun r3 f4 => getS (unlend d1 f4[0]?) fun d22 => getS o6 fun d21 => getS (unlend d1 f4[0]?) fun d5 => getS o6 fun d6 => onRet (cl g wf n "times" [d5, d6]) (fun r7 f8 => getS (unlend d5 f8[0]?) fun d20 => getS o4 fun d19 => getS (unlend d5 f8[0]?) fun d9 => getS o4 fun d10 => onRet (cl g wf n "added" [d9, d10]) (fun r11 f12 => getS (unlend d9 f12[0]?) fun d18 => getS (unlend d10 f12[1]?) fun d17 => getS (unlend d9 f12[0]?) fun d13 => getS (unlend d10 f12[1]?) fun d14 => onRet (cl g wf n "taken" [d13, d14]) (fun r15 f16 => E.nx [o0, o1, o2, unlend d13 f16[0]?, unlend d14 f16[1]?, unlend d2 f4[1]?, unlend d6 f8[1]?, some (.lst [r3, r7, r11, r15]), o8, o9, o10, o11, o12, o13, o14, o15, o16, o17]) exX) exX) exX) exX := by kernel_rfl
theorem b_law_8 (g : List D → Res) (wf n : Nat) (o0 o1 o2 o3 o4 o5 o6 o7 o8 o9 o10 o11 o12 o13 o14 o15 o16 o17 : Option D) (E : Nx) : st1 g wf n df_law 51 (at1 b_law 8) [o0, o1, o2, o3, o4, o5, o6, o7, o8, o9, o10, o11, o12, o13, o14, o15, o16, o17] E =
  dSub (.int 0) (.int 1) fun z1 => getS o1 fun d22 => getS o1 fun d2 => onRet (cl g wf n "_law_draw" [d2, (.int 60)]) (fun r3 f4 => getS (unlend d2 f4[0]?) fun d21 => getS (unlend d2 f4[0]?) fun d5 => onRet (cl g wf n "_law_draw" [d5, (.int 60)]) (fun r6 f7 => dSub (.int 0) r6 fun z8 => getS (unlend d5 f7[0]?) fun d20 => getS (unlend d5 f7[0]?) fun d9 => onRet (cl g wf n "_law_draw" [d9, (.int 900)]) (fun r10 f11 => dSub r10 (.int 450) fun z12 => dMul (.int 1440) z12 fun z13 => getS (unlend d9 f11[0]?) fun d19 => getS (unlend d9 f11[0]?) fun d14 => onRet (cl g wf n "_law_draw" [d14, (.int 24)]) (fun r15 f16 => dAdd z13 r15 fun z17 => seqV false (.lst [(.int 0), (.int 1), z1, r3, z8, z17]) fun l18 => forC (fst g wf n df_law 51 (at1 b_law 8)) l18 [o0, unlend d14 f16[0]?, o2, o3, o4, o5, o6, o7, o8, o9, o10, o11, o12, o13, o14, o15, o16, o17] E) exX) exX) exX) exX := by kernel_rfl
theorem b_law_8x (g : List D → Res) (wf n : Nat) (x : D) (o0 o1 o2 o3 o4 o5 o6 o7 o8 o9 o10 o11 o12 o13 o14 o15 o16 o17 : Option D) (E : Nx) : fst g wf n df_law 51 (at1 b_law 8) x [o0, o1, o2, o3, o4, o5, o6, o7, o8, o9, o10, o11, o12, o13, o14, o15, o16, o17] E =
  stL g wf n df_law 51 (forB (at1 b_law 8)) [o0, o1, o2, o3, o4, o5, o6, o7, some x, o9, o10, o11, o12, o13, o14, o15, o16, o17] E := by kernel_rfl
def b_law_8b : List Stmt := forB (at1 b_law 8)
theorem b_law_8b_eq : b_law_8b = [at1 b_law_8b 0, at1 b_law_8b 1, at1 b_law_8b 2, at1 b_law_8b 3, at1 b_law_8b 4, at1 b_law_8b 5] := by kernel_rfl
theorem b_law_8b_0 (g : List D → Res) (wf n : Nat) (o0 o1 o2 o3 o4 o5 o6 o7 o8 o9 o10 o11 o12 o13 o14 o15 o16 o17 : Option D) (E : Nx) : st1 g wf n df_law 50 (at1 b_law_8b 0) [o0, o1, o2, o3, o4, o5, o6, o7, o8, o9, o10, o11, o12, o13, o14, o15, o16, o17] E =
  getS o3 fun d12 => getS o8 fun d11 => getS o3 fun d1 => getS o8 fun d2 => onRet (cl g wf n "_law_water" [d1, d2]) (fun r3 f4 => getS o4 fun d10 => getS (unlend d2 f4[1]?) fun d9 => getS o4 fun d5 => getS (unlend d2 f4[1]?) fun d6 => onRet (cl g wf n "_law_water" [d5, d6]) (fun r7 f8 => E.nx [o0, o1, o2, unlend d1 f4[0]?, unlend d5 f8[0]?, o5, o6, o7, unlend d6 f8[1]?, some r3, some r7, o11, o12, o13, o14, o15, o16, o17]) exX) exX := by kernel_rfl
theorem b_law_8b_1 (g : List D → Res) (wf n : Nat) (o0 o1 o2 o3 o4 o5 o6 o7 o8 o9 o10 o11 o12 o13 o14 o15 o16 o17 : Option D) (E : Nx) : st1 g wf n df_law 49 (at1 b_law_8b 1) [o0, o1, o2, o3, o4, o5, o6, o7, o8, o9, o10, o11, o12, o13, o14, o15, o16, o17] E =
  getS o3 fun d11 => getS o8 fun d10 => getS o3 fun d1 => getS o8 fun d2 => onRet (cl g wf n "water" [d1, d2]) (fun r3 f4 => getS o9 fun d9 => getS o9 fun d5 => onRet (cl g wf n "_law_like" [r3, d5]) (fun r6 f7 => dTru r6 fun c8 => (match (!c8) with | true => stL g wf n df_law 49 (ifT (at1 b_law_8b 1)) [o0, o1, o2, unlend d1 f4[0]?, o4, o5, o6, o7, unlend d2 f4[1]?, unlend d5 f7[1]?, o10, o11, o12, o13, o14, o15, o16, o17] E | false => stL g wf n df_law 49 (ifF (at1 b_law_8b 1)) [o0, o1, o2, unlend d1 f4[0]?, o4, o5, o6, o7, unlend d2 f4[1]?, unlend d5 f7[1]?, o10, o11, o12, o13, o14, o15, o16, o17] E)) exX) exX := by kernel_rfl
def b_law_8b_1t : List Stmt := ifT (at1 b_law_8b 1)
theorem b_law_8b_1t_eq : b_law_8b_1t = [at1 b_law_8b_1t 0] := by kernel_rfl
theorem b_law_8b_1t_0 (g : List D → Res) (wf n : Nat) (o0 o1 o2 o3 o4 o5 o6 o7 o8 o9 o10 o11 o12 o13 o14 o15 o16 o17 : Option D) (E : Nx) : st1 g wf n df_law 48 (at1 b_law_8b_1t 0) [o0, o1, o2, o3, o4, o5, o6, o7, o8, o9, o10, o11, o12, o13, o14, o15, o16, o17] E =
  E.rt (.bl false) [o0, o1, o2, o3, o4, o5, o6, o7, o8, o9, o10, o11, o12, o13, o14, o15, o16, o17] := by kernel_rfl
theorem b_law_8b_2 (g : List D → Res) (wf n : Nat) (o0 o1 o2 o3 o4 o5 o6 o7 o8 o9 o10 o11 o12 o13 o14 o15 o16 o17 : Option D) (E : Nx) : st1 g wf n df_law 48 (at1 b_law_8b 2) [o0, o1, o2, o3, o4, o5, o6, o7, o8, o9, o10, o11, o12, o13, o14, o15, o16, o17] E =
  getS o3 fun d25 => getS o8 fun d1 => getS o5 fun d2 => dSub d1 d2 fun z3 => getS o3 fun d4 => onRet (cl g wf n "_law_water" [d4, z3]) (fun r5 f6 => getS o9 fun d24 => getS o6 fun d23 => getS o9 fun d7 => getS o6 fun d8 => onRet (cl g wf n "_law_product" [d7, d8]) (fun r9 f10 => getS (unlend d7 f10[0]?) fun d22 => getS o10 fun d21 => getS (unlend d7 f10[0]?) fun d11 => getS o10 fun d12 => onRet (cl g wf n "_law_plus" [d11, d12]) (fun r13 f14 => getS (unlend d11 f14[0]?) fun d20 => getS (unlend d12 f14[1]?) fun d19 => getS (unlend d11 f14[0]?) fun d15 => getS (unlend d12 f14[1]?) fun d16 => onRet (cl g wf n "_law_minus" [d15, d16]) (fun r17 f18 => E.nx [o0, o1, o2, unlend d4 f6[0]?, o4, o5, unlend d8 f10[1]?, o7, o8, unlend d15 f18[0]?, unlend d16 f18[1]?, some (.lst [r5, r9, r13, r17]), o12, o13, o14, o15, o16, o17]) exX) exX) exX) exX := by kernel_rfl
def b_law_8b_3_lc1_e : Expr := lcAt 0 (at1 b_law_8b 3)
def b_law_8b_3_lc1 (g : List D → Res) (wf n : Nat) : D → TI.Env → (Option D → TI.Env → Res) → Res := lcs g wf n df_law 45 b_law_8b_3_lc1_e
theorem b_law_8b_3_lc1_x (g : List D → Res) (wf n : Nat) (x : D) (o0 o1 o2 o3 o4 o5 o6 o7 o8 o9 o10 o11 o12 o13 o14 o15 o16 o17 : Option D) (k2 : Option D → TI.Env → Res) : b_law_8b_3_lc1 g wf n x [o0, o1, o2, o3, o4, o5, o6, o7, o8, o9, o10, o11, o12, o13, o14, o15, o16, o17] k2 =
  getS o7 fun d1 => getS o7 fun d2 => dIx d2 x fun z3 => puK z3 (getS o8 fun d13 => getS o8 fun d4 => onRet (cl g wf n "water" [z3, d4]) (fun r5 f6 => getS o11 fun d7 => getS o11 fun d8 => dIx d8 x fun z9 => puK z9 (onRet (cl g wf n "_law_like" [r5, z9]) (fun r10 f11 => dTru r10 fun c12 => (match (!c12) with | true => puK x (k2 (some x) [o0, o1, o2, o3, o4, o5, o6, o7, unlend d4 f6[1]?, o9, o10, o11, o12, o13, o14, o15, o16, some x]) | false => k2 none [o0, o1, o2, o3, o4, o5, o6, o7, unlend d4 f6[1]?, o9, o10, o11, o12, o13, o14, o15, o16, some x])) xst)) xst) := by kernel_rfl
theorem b_law_8b_3 (g : List D → Res) (wf n : Nat) (o0 o1 o2 o3 o4 o5 o6 o7 o8 o9 o10 o11 o12 o13 o14 o15 o16 o17 : Option D) (E : Nx) : st1 g wf n df_law 47 (at1 b_law_8b 3) [o0, o1, o2, o3, o4, o5, o6, o7, o8, o9, o10, o11, o12, o13, o14, o15, o16, o17] E =
  ckK (smallI 4) (ckK (hidOk [o0, o1, o2, o3, o4, o5, o6, o7, o8, o9, o10, o11, o12, o13, o14, o15, o16, o17] [17]) (lcC (b_law_8b_3_lc1 g wf n) (rngL 0 (4 : Int).toNat) [] [o0, o1, o2, o3, o4, o5, o6, o7, o8, o9, o10, o11, o12, o13, o14, o15, o16, none] fun a1 r2 => dEq (.lst a1) (.lst []) fun c3 => (match (!c3) with | true => stL g wf n df_law 47 (ifT (at1 b_law_8b 3)) (wipeB r2 [o0, o1, o2, o3, o4, o5, o6, o7, o8, o9, o10, o11, o12, o13, o14, o15, o16, o17] [17]) E | false => stL g wf n df_law 47 (ifF (at1 b_law_8b 3)) (wipeB r2 [o0, o1, o2, o3, o4, o5, o6, o7, o8, o9, o10, o11, o12, o13, o14, o15, o16, o17] [17]) E))) := by kernel_rfl
def b_law_8b_3t : List Stmt := ifT (at1 b_law_8b 3)
theorem b_law_8b_3t_eq : b_law_8b_3t = [at1 b_law_8b_3t 0] := by kernel_rfl
theorem b_law_8b_3t_0 (g : List D → Res) (wf n : Nat) (o0 o1 o2 o3 o4 o5 o6 o7 o8 o9 o10 o11 o12 o13 o14 o15 o16 o17 : Option D) (E : Nx) : st1 g wf n df_law 46 (at1 b_law_8b_3t 0) [o0, o1, o2, o3, o4, o5, o6, o7, o8, o9, o10, o11, o12, o13, o14, o15, o16, o17] E =
  E.rt (.bl false) [o0, o1, o2, o3, o4, o5, o6, o7, o8, o9, o10, o11, o12, o13, o14, o15, o16, o17] := by kernel_rfl
theorem b_law_8b_4 (g : List D → Res) (wf n : Nat) (o0 o1 o2 o3 o4 o5 o6 o7 o8 o9 o10 o11 o12 o13 o14 o15 o16 o17 : Option D) (E : Nx) : st1 g wf n df_law 46 (at1 b_law_8b 4) [o0, o1, o2, o3, o4, o5, o6, o7, o8, o9, o10, o11, o12, o13, o14, o15, o16, o17] E =
  getS o9 fun d36 => getS o10 fun d35 => getS o9 fun d1 => getS o10 fun d2 => onRet (cl g wf n "plus" [d1, d2]) (fun r3 f4 => getS o11 fun d5 => getS o11 fun d6 => dIx d6 (.int 2) fun z7 => puK z7 (onRet (cl g wf n "_law_like" [r3, z7]) (fun r8 f9 => dTru r8 fun c10 => (match (!c10) with | true => (match true with | true => stL g wf n df_law 46 (ifT (at1 b_law_8b 4)) [o0, o1, o2, o3, o4, o5, o6, o7, o8, unlend d1 f4[0]?, unlend d2 f4[1]?, o11, o12, o13, o14, o15, o16, o17] E | false => stL g wf n df_law 46 (ifF (at1 b_law_8b 4)) [o0, o1, o2, o3, o4, o5, o6, o7, o8, unlend d1 f4[0]?, unlend d2 f4[1]?, o11, o12, o13, o14, o15, o16, o17] E) | false => getS (unlend d1 f4[0]?) fun d34 => getS (unlend d2 f4[1]?) fun d33 => getS (unlend d1 f4[0]?) fun d11 => getS (unlend d2 f4[1]?) fun d12 => onRet (cl g wf n "minus" [d11, d12]) (fun r13 f14 => getS o11 fun d15 => getS o11 fun d16 => dIx d16 (.int 3) fun z17 => puK z17 (onRet (cl g wf n "_law_like" [r13, z17]) (fun r18 f19 => dTru r18 fun c20 => (match (!c20) with | true => (match true with | true => stL g wf n df_law 46 (ifT (at1 b_law_8b 4)) [o0, o1, o2, o3, o4, o5, o6, o7, o8, unlend d11 f14[0]?, unlend d12 f14[1]?, o11, o12, o13, o14, o15, o16, o17] E | false => stL g wf n df_law 46 (ifF (at1 b_law_8b 4)) [o0, o1, o2, o3, o4, o5, o6, o7, o8, unlend d11 f14[0]?, unlend d12 f14[1]?, o11, o12, o13, o14, o15, o16, o17] E) | false => getS (unlend d11 f14[0]?) fun d32 => getS o6 fun d31 => getS (unlend d11 f14[0]?) fun d21 => getS o6 fun d22 => onRet (cl g wf n "product" [d21, d22]) (fun r23 f24 => getS o11 fun d25 => getS o11 fun d26 => dIx d26 (.int 1) fun z27 => puK z27 (onRet (cl g wf n "_law_like" [r23, z27]) (fun r28 f29 => dTru r28 fun c30 => (match (!c30) with | true => stL g wf n df_law 46 (ifT (at1 b_law_8b 4)) [o0, o1, o2, o3, o4, o5, unlend d22 f24[1]?, o7, o8, unlend d21 f24[0]?, unlend d12 f14[1]?, o11, o12, o13, o14, o15, o16, o17] E | false => stL g wf n df_law 46 (ifF (at1 b_law_8b 4)) [o0, o1, o2, o3, o4, o5, unlend d22 f24[1]?, o7, o8, unlend d21 f24[0]?, unlend d12 f14[1]?, o11, o12, o13, o14, o15, o16, o17] E)) exX)) exX)) exX)) exX)) exX)) exX := by kernel_rfl
def b_law_8b_4t : List Stmt := ifT (at1 b_law_8b 4)
theorem b_law_8b_4t_eq : b_law_8b_4t = [at1 b_law_8b_4t 0] := by kernel_rfl
theorem b_law_8b_4t_0 (g : List D → Res) (wf n : Nat) (o0 o1 o2 o3 o4 o5 o6 o7 o8 o9 o10 o11 o12 o13 o14 o15 o16 o17 : Option D) (E : Nx) : st1 g wf n df_law 45 (at1 b_law_8b_4t 0) [o0, o1, o2, o3, o4, o5, o6, o7, o8, o9, o10, o11, o12, o13, o14, o15, o16, o17] E =
  E.rt (.bl false) [o0, o1, o2, o3, o4, o5, o6, o7, o8, o9, o10, o11, o12, o13, o14, o15, o16, o17] := by kernel_rfl
theorem b_law_8b_5 (g : List D → Res) (wf n : Nat) (o0 o1 o2 o3 o4 o5 o6 o7 o8 o9 o10 o11 o12 o13 o14 o15 o16 o17 : Option D) (E : Nx) : st1 g wf n df_law 45 (at1 b_law_8b 5) [o0, o1, o2, o3, o4, o5, o6, o7, o8, o9, o10, o11, o12, o13, o14, o15, o16, o17] E =
  getS o9 fun d24 => getS o10 fun d23 => getS o9 fun d1 => getS o10 fun d2 => onRet (cl g wf n "compare" [d1, d2]) (fun r3 f4 => getS (unlend d2 f4[1]?) fun d22 => getS (unlend d1 f4[0]?) fun d21 => getS (unlend d2 f4[1]?) fun d5 => getS (unlend d1 f4[0]?) fun d6 => onRet (cl g wf n "_law_less" [d5, d6]) (fun r7 f8 => dInt 640 r7 fun z9 => getS (unlend d6 f8[1]?) fun d20 => getS (unlend d5 f8[0]?) fun d19 => getS (unlend d6 f8[1]?) fun d10 => getS (unlend d5 f8[0]?) fun d11 => onRet (cl g wf n "_law_less" [d10, d11]) (fun r12 f13 => dInt 640 r12 fun z14 => dSub z9 z14 fun z15 => onRet (cl g wf n "_law_like" [r3, z15]) (fun r16 f17 => dTru r16 fun c18 => (match (!c18) with | true => stL g wf n df_law 45 (ifT (at1 b_law_8b 5)) [o0, o1, o2, o3, o4, o5, o6, o7, o8, unlend d10 f13[0]?, unlend d11 f13[1]?, o11, o12, o13, o14, o15, o16, o17] E | false => stL g wf n df_law 45 (ifF (at1 b_law_8b 5)) [o0, o1, o2, o3, o4, o5, o6, o7, o8, unlend d10 f13[0]?, unlend d11 f13[1]?, o11, o12, o13, o14, o15, o16, o17] E)) exX) exX) exX) exX := by kernel_rfl
def b_law_8b_5t : List Stmt := ifT (at1 b_law_8b 5)
theorem b_law_8b_5t_eq : b_law_8b_5t = [at1 b_law_8b_5t 0] := by kernel_rfl
theorem b_law_8b_5t_0 (g : List D → Res) (wf n : Nat) (o0 o1 o2 o3 o4 o5 o6 o7 o8 o9 o10 o11 o12 o13 o14 o15 o16 o17 : Option D) (E : Nx) : st1 g wf n df_law 44 (at1 b_law_8b_5t 0) [o0, o1, o2, o3, o4, o5, o6, o7, o8, o9, o10, o11, o12, o13, o14, o15, o16, o17] E =
  E.rt (.bl false) [o0, o1, o2, o3, o4, o5, o6, o7, o8, o9, o10, o11, o12, o13, o14, o15, o16, o17] := by kernel_rfl
theorem b_law_9 (g : List D → Res) (wf n : Nat) (o0 o1 o2 o3 o4 o5 o6 o7 o8 o9 o10 o11 o12 o13 o14 o15 o16 o17 : Option D) (E : Nx) : st1 g wf n df_law 50 (at1 b_law 9) [o0, o1, o2, o3, o4, o5, o6, o7, o8, o9, o10, o11, o12, o13, o14, o15, o16, o17] E =
  getS o1 fun d16 => getS o1 fun d1 => onRet (cl g wf n "_law_draw" [d1, (.int 90)]) (fun r2 f3 => dSub r2 (.int 45) fun z4 => getS (unlend d1 f3[0]?) fun d15 => getS (unlend d1 f3[0]?) fun d5 => onRet (cl g wf n "_law_draw" [d5, (.int 30)]) (fun r6 f7 => dAdd (.int 1) r6 fun z8 => getS (unlend d5 f7[0]?) fun d14 => dSub (.int 0) (.int 1) fun z9 => getS (unlend d5 f7[0]?) fun d10 => onRet (cl g wf n "_law_pick" [d10, (.lst [(.int 1), z9])]) (fun r11 f12 => dMul z8 r11 fun z13 => E.nx [o0, unlend d10 f12[0]?, o2, o3, o4, o5, o6, o7, o8, o9, o10, o11, some z4, some z13, o14, o15, o16, o17]) exX) exX) exX := by kernel_rfl
theorem b_law_10 (g : List D → Res) (wf n : Nat) (o0 o1 o2 o3 o4 o5 o6 o7 o8 o9 o10 o11 o12 o13 o14 o15 o16 o17 : Option D) (E : Nx) : st1 g wf n df_law 49 (at1 b_law 10) [o0, o1, o2, o3, o4, o5, o6, o7, o8, o9, o10, o11, o12, o13, o14, o15, o16, o17] E =
  getS o12 fun d1 => dSub (.int 0) (.int 1) fun z2 => getS o13 fun d3 => dLt d3 (.int 0) fun c4 => dInt 640 (.bl c4) fun z5 => dIx (.lst [(.int 1), z2]) z5 fun z6 => getS o12 fun d7 => dMul d7 z6 fun z8 => getS o13 fun d13 => getS o13 fun d9 => dAbs d9 fun z10 => onRet (cl g wf n "_law_ratio" [z8, z10]) (fun r11 f12 => E.nx [o0, o1, o2, o3, o4, o5, o6, o7, o8, o9, o10, some r11, o12, o13, o14, o15, o16, o17]) exX := by kernel_rfl
theorem b_law_11 (g : List D → Res) (wf n : Nat) (o0 o1 o2 o3 o4 o5 o6 o7 o8 o9 o10 o11 o12 o13 o14 o15 o16 o17 : Option D) (E : Nx) : st1 g wf n df_law 48 (at1 b_law 11) [o0, o1, o2, o3, o4, o5, o6, o7, o8, o9, o10, o11, o12, o13, o14, o15, o16, o17] E =
  getS o12 fun d27 => getS o13 fun d26 => getS o12 fun d1 => getS o13 fun d2 => onRet (cl g wf n "ratio" [d1, d2]) (fun r3 f4 => getS o11 fun d25 => getS o11 fun d5 => onRet (cl g wf n "_law_like" [r3, d5]) (fun r6 f7 => dTru r6 fun c8 => (match (!c8) with | true => (match true with | true => stL g wf n df_law 48 (ifT (at1 b_law 11)) [o0, o1, o2, o3, o4, o5, o6, o7, o8, o9, o10, unlend d5 f7[1]?, unlend d1 f4[0]?, unlend d2 f4[1]?, o14, o15, o16, o17] E | false => stL g wf n df_law 48 (ifF (at1 b_law 11)) [o0, o1, o2, o3, o4, o5, o6, o7, o8, o9, o10, unlend d5 f7[1]?, unlend d1 f4[0]?, unlend d2 f4[1]?, o14, o15, o16, o17] E) | false => getS (unlend d5 f7[1]?) fun d24 => getS (unlend d5 f7[1]?) fun d9 => onRet (cl g wf n "is_ratio" [d9]) (fun r10 f11 => dIs r10 (.bl true) fun c12 => (match (!c12) with | true => (match true with | true => stL g wf n df_law 48 (ifT (at1 b_law 11)) [o0, o1, o2, o3, o4, o5, o6, o7, o8, o9, o10, unlend d9 f11[0]?, unlend d1 f4[0]?, unlend d2 f4[1]?, o14, o15, o16, o17] E | false => stL g wf n df_law 48 (ifF (at1 b_law 11)) [o0, o1, o2, o3, o4, o5, o6, o7, o8, o9, o10, unlend d9 f11[0]?, unlend d1 f4[0]?, unlend d2 f4[1]?, o14, o15, o16, o17] E) | false => getS (unlend d9 f11[0]?) fun d23 => getS (unlend d9 f11[0]?) fun d13 => onRet (cl g wf n "write_ratio" [d13]) (fun r14 f15 => getS (unlend d13 f15[0]?) fun d22 => getS (unlend d13 f15[0]?) fun d16 => onRet (cl g wf n "_law_ratio_text" [d16]) (fun r17 f18 => onRet (cl g wf n "_law_like" [r14, r17]) (fun r19 f20 => dTru r19 fun c21 => (match (!c21) with | true => stL g wf n df_law 48 (ifT (at1 b_law 11)) [o0, o1, o2, o3, o4, o5, o6, o7, o8, o9, o10, unlend d16 f18[0]?, unlend d1 f4[0]?, unlend d2 f4[1]?, o14, o15, o16, o17] E | false => stL g wf n df_law 48 (ifF (at1 b_law 11)) [o0, o1, o2, o3, o4, o5, o6, o7, o8, o9, o10, unlend d16 f18[0]?, unlend d1 f4[0]?, unlend d2 f4[1]?, o14, o15, o16, o17] E)) exX) exX) exX)) exX)) exX) exX := by kernel_rfl
def b_law_11t : List Stmt := ifT (at1 b_law 11)
theorem b_law_11t_eq : b_law_11t = [at1 b_law_11t 0] := by kernel_rfl
theorem b_law_11t_0 (g : List D → Res) (wf n : Nat) (o0 o1 o2 o3 o4 o5 o6 o7 o8 o9 o10 o11 o12 o13 o14 o15 o16 o17 : Option D) (E : Nx) : st1 g wf n df_law 47 (at1 b_law_11t 0) [o0, o1, o2, o3, o4, o5, o6, o7, o8, o9, o10, o11, o12, o13, o14, o15, o16, o17] E =
  E.rt (.bl false) [o0, o1, o2, o3, o4, o5, o6, o7, o8, o9, o10, o11, o12, o13, o14, o15, o16, o17] := by kernel_rfl
theorem b_law_12 (g : List D → Res) (wf n : Nat) (o0 o1 o2 o3 o4 o5 o6 o7 o8 o9 o10 o11 o12 o13 o14 o15 o16 o17 : Option D) (E : Nx) : st1 g wf n df_law 47 (at1 b_law 12) [o0, o1, o2, o3, o4, o5, o6, o7, o8, o9, o10, o11, o12, o13, o14, o15, o16, o17] E =
  getS o1 fun d15 => pusK [(.int 2), (.int 4)] (frzK false (.tup [(.int 2), (.int 4)]) fun x1 => pusK [(.int 1), (.int 0)] (frzK false (.tup [(.int 1), (.int 0)]) fun x2 => dSub (.int 0) (.int 1) fun z4 => pusK [(.int 1), z4] (frzK false (.tup [(.int 1), z4]) fun x3 => pusK [(.int 0), (.int 2)] (frzK false (.tup [(.int 0), (.int 2)]) fun x5 => pusK [(.bl true), (.int 1)] (frzK false (.tup [(.bl true), (.int 1)]) fun x6 => pusK [(.int 1)] (frzK false (.tup [(.int 1)]) fun x7 => frzK false (.int 1) fun x8 => frzK false .non fun x9 => frzK false (.lst [(.int 1), (.int 1)]) fun x10 => pusK [(.int 1), (.int 1), (.int 1)] (frzK false (.tup [(.int 1), (.int 1), (.int 1)]) fun x11 => ckK (decide (List.length ((x1 :: (x2 :: (x3 :: (x5 :: (x6 :: (x7 :: (x8 :: (x9 :: (x10 :: (x11 :: [])))))))))) : List D) ≤ szLine)) (getS o1 fun d12 => onRet (cl g wf n "_law_pick" [d12, (.lst (x1 :: (x2 :: (x3 :: (x5 :: (x6 :: (x7 :: (x8 :: (x9 :: (x10 :: (x11 :: [])))))))))))]) (fun r13 f14 => E.nx [o0, unlend d12 f14[0]?, o2, o3, o4, o5, o6, o7, o8, o9, o10, o11, o12, o13, some r13, o15, o16, o17]) exX)))))))) := by kernel_rfl
theorem b_law_13 (g : List D → Res) (wf n : Nat) (o0 o1 o2 o3 o4 o5 o6 o7 o8 o9 o10 o11 o12 o13 o14 o15 o16 o17 : Option D) (E : Nx) : st1 g wf n df_law 46 (at1 b_law 13) [o0, o1, o2, o3, o4, o5, o6, o7, o8, o9, o10, o11, o12, o13, o14, o15, o16, o17] E =
  getS o14 fun d5 => getS o14 fun d1 => onRet (cl g wf n "is_ratio" [d1]) (fun r2 f3 => dIs r2 (.bl false) fun c4 => (match (!c4) with | true => stL g wf n df_law 46 (ifT (at1 b_law 13)) [o0, o1, o2, o3, o4, o5, o6, o7, o8, o9, o10, o11, o12, o13, unlend d1 f3[0]?, o15, o16, o17] E | false => stL g wf n df_law 46 (ifF (at1 b_law 13)) [o0, o1, o2, o3, o4, o5, o6, o7, o8, o9, o10, o11, o12, o13, unlend d1 f3[0]?, o15, o16, o17] E)) exX := by kernel_rfl
def b_law_13t : List Stmt := ifT (at1 b_law 13)
theorem b_law_13t_eq : b_law_13t = [at1 b_law_13t 0] := by kernel_rfl
theorem b_law_13t_0 (g : List D → Res) (wf n : Nat) (o0 o1 o2 o3 o4 o5 o6 o7 o8 o9 o10 o11 o12 o13 o14 o15 o16 o17 : Option D) (E : Nx) : st1 g wf n df_law 45 (at1 b_law_13t 0) [o0, o1, o2, o3, o4, o5, o6, o7, o8, o9, o10, o11, o12, o13, o14, o15, o16, o17] E =
  E.rt (.bl false) [o0, o1, o2, o3, o4, o5, o6, o7, o8, o9, o10, o11, o12, o13, o14, o15, o16, o17] := by kernel_rfl
theorem b_law_14 (g : List D → Res) (wf n : Nat) (o0 o1 o2 o3 o4 o5 o6 o7 o8 o9 o10 o11 o12 o13 o14 o15 o16 o17 : Option D) (E : Nx) : st1 g wf n df_law 45 (at1 b_law 14) [o0, o1, o2, o3, o4, o5, o6, o7, o8, o9, o10, o11, o12, o13, o14, o15, o16, o17] E =
  getS o1 fun d7 => getS o3 fun d1 => getS o3 fun d2 => dSl d2 none (some 2) fun z3 => pusK [(.int 1), (.int 61)] (pusK [(.str "tide"), (.tup [(.int 1), (.int 61)]), (.tup [])] (pusK [(.int 1000001), (.int 1)] (pusK [(.str "tide"), (.tup [(.int 1000001), (.int 1)]), (.tup [])] (pusK [(.int 0), (.int 1)] (pusK [(.int 0), (.int 1)] (pusK [(.int 0), (.tup [(.int 0), (.int 1)])] (pusK [(.tup [(.int 0), (.tup [(.int 0), (.int 1)])])] (pusK [(.str "wave"), (.int 1801), (.tup [(.tup [(.int 0), (.tup [(.int 0), (.int 1)])])])] (pusK [(.tup [(.str "wave"), (.int 1801), (.tup [(.tup [(.int 0), (.tup [(.int 0), (.int 1)])])])])] (pusK [(.str "tide"), (.tup [(.int 0), (.int 1)]), (.tup [(.tup [(.str "wave"), (.int 1801), (.tup [(.tup [(.int 0), (.tup [(.int 0), (.int 1)])])])])])] (pusK [(.int 0), (.int 1)] (pusK [(.str "wave"), (.int 5), (.tup [])] (pusK [(.tup [(.str "wave"), (.int 5), (.tup [])])] (pusK [(.str "tide"), (.tup [(.int 0), (.int 1)]), (.tup [(.tup [(.str "wave"), (.int 5), (.tup [])])])] (getS o1 fun d4 => onRet (cl g wf n "_law_pick" [d4, (.lst [z3, (.tup [(.str "tide"), (.tup [(.int 1), (.int 61)]), (.tup [])]), (.tup [(.str "tide"), (.tup [(.int 1000001), (.int 1)]), (.tup [])]), (.tup [(.str "tide"), (.tup [(.int 0), (.int 1)]), (.tup [(.tup [(.str "wave"), (.int 1801), (.tup [(.tup [(.int 0), (.tup [(.int 0), (.int 1)])])])])])]), (.tup [(.str "tide"), (.tup [(.int 0), (.int 1)]), (.tup [(.tup [(.str "wave"), (.int 5), (.tup [])])])])])]) (fun r5 f6 => E.nx [o0, unlend d4 f6[0]?, o2, o3, o4, o5, o6, o7, o8, o9, o10, o11, o12, o13, o14, some r5, o16, o17]) exX))))))))))))))) := by kernel_rfl
theorem b_law_15 (g : List D → Res) (wf n : Nat) (o0 o1 o2 o3 o4 o5 o6 o7 o8 o9 o10 o11 o12 o13 o14 o15 o16 o17 : Option D) (E : Nx) : st1 g wf n df_law 44 (at1 b_law 15) [o0, o1, o2, o3, o4, o5, o6, o7, o8, o9, o10, o11, o12, o13, o14, o15, o16, o17] E =
  getS o1 fun d9 => getS o15 fun d8 => pusK [(.int 0), (.int 1)] (pusK [(.int 0), (.int 1)] (pusK [(.int 5), (.tup [(.int 0), (.int 1)])] (pusK [(.tup [(.int 5), (.tup [(.int 0), (.int 1)])])] (pusK [(.str "wave"), (.int 5), (.tup [(.tup [(.int 5), (.tup [(.int 0), (.int 1)])])])] (pusK [(.tup [(.str "wave"), (.int 5), (.tup [(.tup [(.int 5), (.tup [(.int 0), (.int 1)])])])])] (pusK [(.str "tide"), (.tup [(.int 0), (.int 1)]), (.tup [(.tup [(.str "wave"), (.int 5), (.tup [(.tup [(.int 5), (.tup [(.int 0), (.int 1)])])])])])] (pusK [(.int 0), (.int 1)] (pusK [(.int 0), (.int 1)] (pusK [(.int 3), (.tup [(.int 0), (.int 1)])] (pusK [(.int 0), (.int 1)] (pusK [(.int 1), (.tup [(.int 0), (.int 1)])] (pusK [(.tup [(.int 3), (.tup [(.int 0), (.int 1)])]), (.tup [(.int 1), (.tup [(.int 0), (.int 1)])])] (pusK [(.str "wave"), (.int 5), (.tup [(.tup [(.int 3), (.tup [(.int 0), (.int 1)])]), (.tup [(.int 1), (.tup [(.int 0), (.int 1)])])])] (pusK [(.tup [(.str "wave"), (.int 5), (.tup [(.tup [(.int 3), (.tup [(.int 0), (.int 1)])]), (.tup [(.int 1), (.tup [(.int 0), (.int 1)])])])])] (pusK [(.str "tide"), (.tup [(.int 0), (.int 1)]), (.tup [(.tup [(.str "wave"), (.int 5), (.tup [(.tup [(.int 3), (.tup [(.int 0), (.int 1)])]), (.tup [(.int 1), (.tup [(.int 0), (.int 1)])])])])])] (frzK false (.str "tide") fun x1 => pusK [(.int 0), (.int 1)] (frzK false (.tup [(.int 0), (.int 1)]) fun x2 => frzK false (.lst []) fun x3 => ckK (decide (List.length ((x1 :: (x2 :: (x3 :: []))) : List D) ≤ szLine)) (getS o15 fun d4 => puK d4 (getS o1 fun d5 => onRet (cl g wf n "_law_pick" [d5, (.lst [d4, (.tup [(.str "tide"), (.tup [(.int 0), (.int 1)]), (.tup [(.tup [(.str "wave"), (.int 5), (.tup [(.tup [(.int 5), (.tup [(.int 0), (.int 1)])])])])])]), (.tup [(.str "tide"), (.tup [(.int 0), (.int 1)]), (.tup [(.tup [(.str "wave"), (.int 5), (.tup [(.tup [(.int 3), (.tup [(.int 0), (.int 1)])]), (.tup [(.int 1), (.tup [(.int 0), (.int 1)])])])])])]), (.tup (x1 :: (x2 :: (x3 :: [])))), .non])]) (fun r6 f7 => E.nx [o0, unlend d5 f7[0]?, o2, o3, o4, o5, o6, o7, o8, o9, o10, o11, o12, o13, o14, o15, some r6, o17]) exX))))))))))))))))))) := by kernel_rfl
theorem b_law_16 (g : List D → Res) (wf n : Nat) (o0 o1 o2 o3 o4 o5 o6 o7 o8 o9 o10 o11 o12 o13 o14 o15 o16 o17 : Option D) (E : Nx) : st1 g wf n df_law 43 (at1 b_law 16) [o0, o1, o2, o3, o4, o5, o6, o7, o8, o9, o10, o11, o12, o13, o14, o15, o16, o17] E =
  getS o16 fun d5 => getS o16 fun d1 => onRet (cl g wf n "is_tide" [d1]) (fun r2 f3 => dIs r2 (.bl false) fun c4 => E.rt (.bl c4) [o0, o1, o2, o3, o4, o5, o6, o7, o8, o9, o10, o11, o12, o13, o14, o15, unlend d1 f3[0]?, o17]) exX := by kernel_rfl
end K00
set_option Elab.async false
set_option linter.all false
set_option maxRecDepth 100000
set_option maxHeartbeats 4000000
/-! the defs of the text, as the evaluator runs them -/
namespace K00
open PySem PySem.Spec PyProof.Rows L2 TI
/-! BODY -/
theorem b_is_ratio_q : df_is_ratio.body = [at1 b_is_ratio 0, at1 b_is_ratio 1, at1 b_is_ratio 2] := b_is_ratio_eq
theorem b_is_ratio_0t_q : ifT (at1 b_is_ratio 0) = [at1 b_is_ratio_0t 0] := b_is_ratio_0t_eq
theorem b_is_ratio_1b_q : forB (at1 b_is_ratio 1) = [at1 b_is_ratio_1b 0] := b_is_ratio_1b_eq
theorem b_is_ratio_1b_0t_q : ifT (at1 b_is_ratio_1b 0) = [at1 b_is_ratio_1b_0t 0] := b_is_ratio_1b_0t_eq
theorem b_ratio_q : df_ratio.body = [at1 b_ratio 0, at1 b_ratio 1, at1 b_ratio 2] := b_ratio_eq
theorem b_ratio_1t_q : ifT (at1 b_ratio 1) = [at1 b_ratio_1t 0] := b_ratio_1t_eq
theorem b_plus_q : df_plus.body = [at1 b_plus 0] := b_plus_eq
theorem b_minus_q : df_minus.body = [at1 b_minus 0] := b_minus_eq
theorem b_product_q : df_product.body = [at1 b_product 0] := b_product_eq
theorem b_compare_q : df_compare.body = [at1 b_compare 0, at1 b_compare 1, at1 b_compare 2] := b_compare_eq
theorem b_compare_1t_q : ifT (at1 b_compare 1) = [at1 b_compare_1t 0] := b_compare_1t_eq
theorem b_write_ratio_q : df_write_ratio.body = [at1 b_write_ratio 0, at1 b_write_ratio 1, at1 b_write_ratio 2] := b_write_ratio_eq
theorem b_digits_q : df_digits.body = [at1 b_digits 0, at1 b_digits 1, at1 b_digits 2] := b_digits_eq
theorem b_digits_1b_q : whB (at1 b_digits 1) = [at1 b_digits_1b 0, at1 b_digits_1b 1] := b_digits_1b_eq
theorem b_height_at_q : df_height_at.body = [at1 b_height_at 0, at1 b_height_at 1, at1 b_height_at 2, at1 b_height_at 3, at1 b_height_at 4, at1 b_height_at 5, at1 b_height_at 6] := b_height_at_eq
theorem b_is_tide_q : df_is_tide.body = [at1 b_is_tide 0] := b_is_tide_eq
theorem b_is_any_tide_q : df_is_any_tide.body = [at1 b_is_any_tide 0] := b_is_any_tide_eq
theorem b_water_q : df_water.body = [at1 b_water 0, at1 b_water 1, at1 b_water 2] := b_water_eq
theorem b_water_1b_q : forB (at1 b_water 1) = [at1 b_water_1b 0] := b_water_1b_eq
theorem b_later_q : df_later.body = [at1 b_later 0, at1 b_later 1, at1 b_later 2] := b_later_eq
theorem b_later_1b_q : forB (at1 b_later 1) = [at1 b_later_1b 0, at1 b_later_1b 1] := b_later_1b_eq
theorem b_times_q : df_times.body = [at1 b_times 0, at1 b_times 1, at1 b_times 2] := b_times_eq
theorem b_times_1b_q : forB (at1 b_times 1) = [at1 b_times_1b 0, at1 b_times_1b 1] := b_times_1b_eq
theorem b_added_q : df_added.body = [at1 b_added 0] := b_added_eq
theorem b_taken_q : df_taken.body = [at1 b_taken 0] := b_taken_eq
theorem b_u_is_tide_q : df_u_is_tide.body = [at1 b_u_is_tide 0, at1 b_u_is_tide 1, at1 b_u_is_tide 2] := b_u_is_tide_eq
theorem b_u_is_tide_0t_q : ifT (at1 b_u_is_tide 0) = [at1 b_u_is_tide_0t 0] := b_u_is_tide_0t_eq
theorem b_u_is_tide_1t_q : ifT (at1 b_u_is_tide 1) = [at1 b_u_is_tide_1t 0] := b_u_is_tide_1t_eq
theorem b_is_wave_q : df_is_wave.body = [at1 b_is_wave 0, at1 b_is_wave 1, at1 b_is_wave 2, at1 b_is_wave 3, at1 b_is_wave 4, at1 b_is_wave 5, at1 b_is_wave 6] := b_is_wave_eq
theorem b_is_wave_0t_q : ifT (at1 b_is_wave 0) = [at1 b_is_wave_0t 0] := b_is_wave_0t_eq
theorem b_is_wave_2t_q : ifT (at1 b_is_wave 2) = [at1 b_is_wave_2t 0] := b_is_wave_2t_eq
theorem b_is_wave_3t_q : ifT (at1 b_is_wave 3) = [at1 b_is_wave_3t 0] := b_is_wave_3t_eq
theorem b_is_wave_5b_q : forB (at1 b_is_wave 5) = [at1 b_is_wave_5b 0, at1 b_is_wave_5b 1, at1 b_is_wave_5b 2] := b_is_wave_5b_eq
theorem b_is_wave_5b_0t_q : ifT (at1 b_is_wave_5b 0) = [at1 b_is_wave_5b_0t 0] := b_is_wave_5b_0t_eq
theorem b_is_wave_5b_1t_q : ifT (at1 b_is_wave_5b 1) = [at1 b_is_wave_5b_1t 0] := b_is_wave_5b_1t_eq
theorem b_is_whole_q : df_is_whole.body = [at1 b_is_whole 0] := b_is_whole_eq
theorem b_is_typed_q : df_is_typed.body = [at1 b_is_typed 0] := b_is_typed_eq
theorem b_law_cell_q : df_law_cell.body = [at1 b_law_cell 0, at1 b_law_cell 1] := b_law_cell_eq
theorem b_law_cell_0t_q : ifT (at1 b_law_cell 0) = [at1 b_law_cell_0t 0] := b_law_cell_0t_eq
theorem b_law_digits_q : df_law_digits.body = [at1 b_law_digits 0, at1 b_law_digits 1, at1 b_law_digits 2] := b_law_digits_eq
theorem b_law_digits_1b_q : forB (at1 b_law_digits 1) = [at1 b_law_digits_1b 0, at1 b_law_digits_1b 1, at1 b_law_digits_1b 2, at1 b_law_digits_1b 3] := b_law_digits_1b_eq
theorem b_law_digits_1b_1t_q : ifT (at1 b_law_digits_1b 1) = [at1 b_law_digits_1b_1t 0] := b_law_digits_1b_1t_eq
theorem b_law_digits_1b_2t_q : ifT (at1 b_law_digits_1b 2) = [at1 b_law_digits_1b_2t 0] := b_law_digits_1b_2t_eq
theorem b_law_digits_1b_3t_q : ifT (at1 b_law_digits_1b 3) = [at1 b_law_digits_1b_3t 0] := b_law_digits_1b_3t_eq
theorem b_law_digits_1b_3t_0b_q : forB (at1 b_law_digits_1b_3t 0) = [at1 b_law_digits_1b_3t_0b 0] := b_law_digits_1b_3t_0b_eq
theorem b_law_digits_1b_3t_0b_0t_q : ifT (at1 b_law_digits_1b_3t_0b 0) = [at1 b_law_digits_1b_3t_0b_0t 0, at1 b_law_digits_1b_3t_0b_0t 1] := b_law_digits_1b_3t_0b_0t_eq
theorem b_law_digits_1b_3f_q : ifF (at1 b_law_digits_1b 3) = [at1 b_law_digits_1b_3f 0, at1 b_law_digits_1b_3f 1] := b_law_digits_1b_3f_eq
theorem b_law_digits_1b_3f_1b_q : forB (at1 b_law_digits_1b_3f 1) = [at1 b_law_digits_1b_3f_1b 0, at1 b_law_digits_1b_3f_1b 1] := b_law_digits_1b_3f_1b_eq
theorem b_law_draw_q : df_law_draw.body = [at1 b_law_draw 0, at1 b_law_draw 1, at1 b_law_draw 2, at1 b_law_draw 3] := b_law_draw_eq
theorem b_law_draw_2t_q : ifT (at1 b_law_draw 2) = [at1 b_law_draw_2t 0] := b_law_draw_2t_eq
theorem b_law_pick_q : df_law_pick.body = [at1 b_law_pick 0] := b_law_pick_eq
theorem b_law_like_q : df_law_like.body = [at1 b_law_like 0, at1 b_law_like 1, at1 b_law_like 2, at1 b_law_like 3, at1 b_law_like 4, at1 b_law_like 5] := b_law_like_eq
theorem b_law_like_0t_q : ifT (at1 b_law_like 0) = [at1 b_law_like_0t 0, at1 b_law_like_0t 1] := b_law_like_0t_eq
theorem b_law_like_0t_0t_q : ifT (at1 b_law_like_0t 0) = [at1 b_law_like_0t_0t 0] := b_law_like_0t_0t_eq
theorem b_law_like_1t_q : ifT (at1 b_law_like 1) = [at1 b_law_like_1t 0] := b_law_like_1t_eq
theorem b_law_like_2t_q : ifT (at1 b_law_like 2) = [at1 b_law_like_2t 0] := b_law_like_2t_eq
theorem b_law_like_3t_q : ifT (at1 b_law_like 3) = [at1 b_law_like_3t 0] := b_law_like_3t_eq
theorem b_law_like_4t_q : ifT (at1 b_law_like 4) = [at1 b_law_like_4t 0] := b_law_like_4t_eq
theorem b_law_gcd_q : df_law_gcd.body = [at1 b_law_gcd 0, at1 b_law_gcd 1] := b_law_gcd_eq
theorem b_law_gcd_0b_q : forB (at1 b_law_gcd 0) = [at1 b_law_gcd_0b 0, at1 b_law_gcd_0b 1] := b_law_gcd_0b_eq
theorem b_law_gcd_0b_0t_q : ifT (at1 b_law_gcd_0b 0) = [at1 b_law_gcd_0b_0t 0] := b_law_gcd_0b_0t_eq
theorem b_law_ratio_q : df_law_ratio.body = [at1 b_law_ratio 0, at1 b_law_ratio 1] := b_law_ratio_eq
theorem b_law_plus_q : df_law_plus.body = [at1 b_law_plus 0] := b_law_plus_eq
theorem b_law_minus_q : df_law_minus.body = [at1 b_law_minus 0] := b_law_minus_eq
theorem b_law_product_q : df_law_product.body = [at1 b_law_product 0] := b_law_product_eq
theorem b_law_less_q : df_law_less.body = [at1 b_law_less 0] := b_law_less_eq
theorem b_law_wave_at_q : df_law_wave_at.body = [at1 b_law_wave_at 0, at1 b_law_wave_at 1, at1 b_law_wave_at 2, at1 b_law_wave_at 3, at1 b_law_wave_at 4, at1 b_law_wave_at 5, at1 b_law_wave_at 6] := b_law_wave_at_eq
theorem b_law_water_q : df_law_water.body = [at1 b_law_water 0, at1 b_law_water 1, at1 b_law_water 2] := b_law_water_eq
theorem b_law_water_1b_q : forB (at1 b_law_water 1) = [at1 b_law_water_1b 0] := b_law_water_1b_eq
theorem b_law_height_q : df_law_height.body = [at1 b_law_height 0] := b_law_height_eq
theorem b_law_wave_q : df_law_wave.body = [at1 b_law_wave 0, at1 b_law_wave 1, at1 b_law_wave 2] := b_law_wave_eq
theorem b_law_tide_q : df_law_tide.body = [at1 b_law_tide 0] := b_law_tide_eq
theorem b_law_ratio_text_q : df_law_ratio_text.body = [at1 b_law_ratio_text 0] := b_law_ratio_text_eq
theorem b_law_q : df_law.body = [at1 b_law 0, at1 b_law 1, at1 b_law 2, at1 b_law 3, at1 b_law 4, at1 b_law 5, at1 b_law 6, at1 b_law 7, at1 b_law 8, at1 b_law 9, at1 b_law 10, at1 b_law 11, at1 b_law 12, at1 b_law 13, at1 b_law 14, at1 b_law 15, at1 b_law 16] := b_law_eq
theorem b_law_6t_q : ifT (at1 b_law 6) = [at1 b_law_6t 0] := b_law_6t_eq
theorem b_law_8b_q : forB (at1 b_law 8) = [at1 b_law_8b 0, at1 b_law_8b 1, at1 b_law_8b 2, at1 b_law_8b 3, at1 b_law_8b 4, at1 b_law_8b 5] := b_law_8b_eq
theorem b_law_8b_1t_q : ifT (at1 b_law_8b 1) = [at1 b_law_8b_1t 0] := b_law_8b_1t_eq
theorem b_law_8b_3t_q : ifT (at1 b_law_8b 3) = [at1 b_law_8b_3t 0] := b_law_8b_3t_eq
theorem b_law_8b_4t_q : ifT (at1 b_law_8b 4) = [at1 b_law_8b_4t 0] := b_law_8b_4t_eq
theorem b_law_8b_5t_q : ifT (at1 b_law_8b 5) = [at1 b_law_8b_5t 0] := b_law_8b_5t_eq
theorem b_law_11t_q : ifT (at1 b_law 11) = [at1 b_law_11t 0] := b_law_11t_eq
theorem b_law_13t_q : ifT (at1 b_law 13) = [at1 b_law_13t 0] := b_law_13t_eq
theorem b_compare_1f_q : ifF (at1 b_compare 1) = [] := by kernel_rfl
theorem b_is_ratio_0f_q : ifF (at1 b_is_ratio 0) = [] := by kernel_rfl
theorem b_is_ratio_1b_0f_q : ifF (at1 b_is_ratio_1b 0) = [] := by kernel_rfl
theorem b_is_wave_0f_q : ifF (at1 b_is_wave 0) = [] := by kernel_rfl
theorem b_is_wave_2f_q : ifF (at1 b_is_wave 2) = [] := by kernel_rfl
theorem b_is_wave_3f_q : ifF (at1 b_is_wave 3) = [] := by kernel_rfl
theorem b_is_wave_5b_0f_q : ifF (at1 b_is_wave_5b 0) = [] := by kernel_rfl
theorem b_is_wave_5b_1f_q : ifF (at1 b_is_wave_5b 1) = [] := by kernel_rfl
theorem b_law_11f_q : ifF (at1 b_law 11) = [] := by kernel_rfl
theorem b_law_13f_q : ifF (at1 b_law 13) = [] := by kernel_rfl
theorem b_law_6f_q : ifF (at1 b_law 6) = [] := by kernel_rfl
theorem b_law_8b_1f_q : ifF (at1 b_law_8b 1) = [] := by kernel_rfl
theorem b_law_8b_3f_q : ifF (at1 b_law_8b 3) = [] := by kernel_rfl
theorem b_law_8b_4f_q : ifF (at1 b_law_8b 4) = [] := by kernel_rfl
theorem b_law_8b_5f_q : ifF (at1 b_law_8b 5) = [] := by kernel_rfl
theorem b_law_cell_0f_q : ifF (at1 b_law_cell 0) = [] := by kernel_rfl
theorem b_law_digits_1b_1f_q : ifF (at1 b_law_digits_1b 1) = [] := by kernel_rfl
theorem b_law_digits_1b_2f_q : ifF (at1 b_law_digits_1b 2) = [] := by kernel_rfl
theorem b_law_digits_1b_3t_0b_0f_q : ifF (at1 b_law_digits_1b_3t_0b 0) = [] := by kernel_rfl
theorem b_law_draw_2f_q : ifF (at1 b_law_draw 2) = [] := by kernel_rfl
theorem b_law_gcd_0b_0f_q : ifF (at1 b_law_gcd_0b 0) = [] := by kernel_rfl
theorem b_law_like_0f_q : ifF (at1 b_law_like 0) = [] := by kernel_rfl
theorem b_law_like_1f_q : ifF (at1 b_law_like 1) = [] := by kernel_rfl
theorem b_law_like_2f_q : ifF (at1 b_law_like 2) = [] := by kernel_rfl
theorem b_law_like_3f_q : ifF (at1 b_law_like 3) = [] := by kernel_rfl
theorem b_law_like_4f_q : ifF (at1 b_law_like 4) = [] := by kernel_rfl
theorem b_law_like_0t_0f_q : ifF (at1 b_law_like_0t 0) = [] := by kernel_rfl
theorem b_ratio_1f_q : ifF (at1 b_ratio 1) = [] := by kernel_rfl
theorem b_u_is_tide_0f_q : ifF (at1 b_u_is_tide 0) = [] := by kernel_rfl
theorem b_u_is_tide_1f_q : ifF (at1 b_u_is_tide 1) = [] := by kernel_rfl
end K00
set_option Elab.async false
set_option linter.all false
set_option maxRecDepth 100000
set_option maxHeartbeats 4000000
/-! the defs of the text, as the evaluator runs them -/
namespace K00
open PySem PySem.Spec PyProof.Rows L2 TI
/-! BODY -/
/-! ### small laws -/
abbrev emp : Str := ⟨#[]⟩
def sg (x : Str) (p : Nat) : Str := match (Ls x)[p]? with
  | some c => one c
  | none => emp
theorem sg_some {x : Str} {p c : Nat} (h : (Ls x)[p]? = some c) : sg x p = one c := by unfold sg; rw [h]
theorem sg_none {x : Str} {p : Nat} (h : x.length ≤ p) : sg x p = emp := by
  unfold sg
  rw [List.getElem?_eq_none (by rw [Ls_len]; exact h)]
theorem cs_sg (x : Str) (p : Nat) : cutS x (some (p : Int)) (some ((p + 1 : Nat) : Int)) = sg x p := by
  rcases Nat.lt_or_ge p x.length with h | h
  · have hl : p < (Ls x).length := by rw [Ls_len]; exact h
    have e : Ls x = (Ls x).take p ++ (Ls x)[p] :: (Ls x).drop (p + 1) := by
      rw [← List.drop_eq_getElem_cons hl, List.take_append_drop]
    have hp : ((Ls x).take p).length = p := by rw [List.length_take]; omega
    have := cut_one e
    rw [hp] at this
    rw [sg_some (List.getElem?_eq_getElem hl)]
    exact this
  · rw [sg_none h]
    exact cut_end h
theorem ck_true (r : Res) : ckK true r = r := rfl
theorem asI_i (i : Int) (k : Int → Res) : asIK (.int i) k = k i := rfl
theorem asL_l (l : List D) (k : List D → Res) : asLK (.lst l) k = k l := rfl
theorem add_ii (a b : Int) (k : D → Res) : dAdd (.int a) (.int b) k = k (.int (a + b)) := rfl
theorem add_ss (a b : Str) (k : D → Res) : dAdd (.str a) (.str b) k = ckK (decide (a.length + b.length ≤ szLine)) (k (.str (a ++ b))) := rfl
theorem add_tt (a b : List D) (k : D → Res) : dAdd (.tup a) (.tup b) k = ckK (decide (a.length + b.length ≤ szLine)) (k (.tup (a ++ b))) := rfl
theorem sub_ii (a b : Int) (k : D → Res) : dSub (.int a) (.int b) k = k (.int (a - b)) := rfl
theorem neg_i (a : Int) (k : D → Res) : dNeg (.int a) k = k (.int (-a)) := rfl
theorem sl_s (x : Str) (lo hi : Option Int) (k : D → Res) : dSl (.str x) lo hi k = ckK (decide (x.length ≤ szLine)) (k (.str (cutS x lo hi))) := rfl
theorem len_s (x : Str) (k : D → Res) : dLen (.str x) k = ckK (decide (x.length ≤ szLine)) (k (.int ((x.length : Nat) : Int))) := rfl
theorem eq_ss (a b : Str) (k : Bool → Res) : dEq (.str a) (.str b) k = k (decide (a = b)) := rfl
theorem eq_ii (a b : Int) (k : Bool → Res) : dEq (.int a) (.int b) k = k (decide (a = b)) := rfl
theorem lt_ii (a b : Int) (k : Bool → Res) : dLt (.int a) (.int b) k = k (decide (a < b)) := rfl
theorem lt_ss (a b : Str) (k : Bool → Res) : dLt (.str a) (.str b) k = k (decide (Ls a < Ls b)) := rfl
theorem le_ii (a b : Int) (k : Bool → Res) : dLe (.int a) (.int b) k = k (decide (a ≤ b)) := rfl
theorem tru_b (b : Bool) (k : Bool → Res) : dTru (.bl b) k = k b := rfl
theorem ord_o (c : Nat) (k : D → Res) : dOrd (.str (one c)) k = k (.int (c : Int)) := rfl
theorem in_o (c : Nat) (z : Str) (k : Bool → Res) : dIn (.str (one c)) (.str z) k = k (decide (c ∈ Ls z)) := rfl
theorem int_b (l : Nat) (b : Bool) (k : D → Res) : dInt l (.bl b) k = k (.int (if b then 1 else 0)) := rfl
theorem int_i (l : Nat) (i : Int) (k : D → Res) : dInt l (.int i) k = k (.int i) := rfl
theorem pu_i (i : Int) (r : Res) : puK (.int i) r = r := rfl
theorem pu_s (i : Str) (r : Res) : puK (.str i) r = r := rfl
theorem pu_b (i : Bool) (r : Res) : puK (.bl i) r = r := rfl
theorem pu_t (i : List D) (r : Res) : puK (.tup i) r = r := rfl
theorem pu_n (r : Res) : puK .non r = r := rfl
theorem puK_t {d : D} (h : d.pu = true) (r : Res) : puK d r = r := by unfold puK; rw [h]
theorem pusK_t {d : List D} (h : D.pus d = true) (r : Res) : pusK d r = r := by unfold pusK; rw [h]
theorem pus_1 {d : D} (h : d.pu = true) (r : Res) : pusK [d] r = r := pusK_t (by show (d.pu && true) = true; rw [h]; rfl) r
theorem pus_2i {d : D} (h : d.pu = true) (i : Int) (r : Res) : pusK [d, .int i] r = r := pusK_t (by show (d.pu && true) = true; rw [h]; rfl) r
theorem pus_i (i : Int) (r : Res) : pusK [.int i] r = r := rfl
theorem pus_si (x : Str) (i : Int) (r : Res) : pusK [.str x, .int i] r = r := rfl
theorem pus_ii (x : Int) (i : Int) (r : Res) : pusK [.int x, .int i] r = r := rfl
theorem pus_ti (x : List D) (i : Int) (r : Res) : pusK [.tup x, .int i] r = r := rfl
theorem aug_i (a b : Int) (k : D → Res) : augD .Add (.int a) (.int b) k = k (.int (a + b)) := rfl
theorem asS_s (x : Str) (k : Str → Res) : oK (asS [.str x]) k = k x := rfl
theorem asSII_s (x : Str) (i j : Int) (k : Str × Int × Int → Res) : oK (asSII [.str x, .int i, .int j]) k = k (x, i, j) := rfl
theorem unl_s (x : Str) (o : Option (Option D)) : unlend (.str x) o = some (.str x) := rfl
theorem unl_i (x : Int) (o : Option (Option D)) : unlend (.int x) o = some (.int x) := rfl
theorem unlend_t {d : D} (h : d.pu = true) (o : Option (Option D)) : unlend d o = some d := by unfold unlend; rw [h]
theorem nat1 (p : Nat) : (p : Int) + 1 = ((p + 1 : Nat) : Int) := rfl
theorem nat2 (p : Nat) : (p : Int) + 2 = ((p + 2 : Nat) : Int) := rfl
theorem leI (a b : Nat) : ((a : Int) ≤ (b : Int)) = (a ≤ b) := propext Int.ofNat_le
theorem ltI (a b : Nat) : ((a : Int) < (b : Int)) = (a < b) := propext Int.ofNat_lt
theorem eqI (a b : Nat) : ((a : Int) = (b : Int)) = (a = b) := propext Int.ofNat_inj
theorem szl (x : Str) (hz : x.length ≤ szLine) : decide (x.length ≤ szLine) = true := decide_eq_true hz
theorem one_inj {a b : Nat} : (one a = one b) ↔ a = b := by
  constructor
  · intro h
    have := congrArg (fun s : Str => s.cps[0]?) h
    simpa [one] using this
  · rintro rfl; rfl
theorem c34 : (("\"" : Str)) = one 34 := by decide +kernel
theorem c92 : (("\\" : Str)) = one 92 := by decide +kernel
theorem c10 : (("\n" : Str)) = one 10 := by decide +kernel
theorem c110 : (("n" : Str)) = one 110 := by decide +kernel
theorem c41 : ((")" : Str)) = one 41 := by decide +kernel
theorem c40 : (("(" : Str)) = one 40 := by decide +kernel
theorem c32 : ((" " : Str)) = one 32 := by decide +kernel
theorem c126 : (("~" : Str)) = one 126 := by decide +kernel
theorem c45 : (("-" : Str)) = one 45 := by decide +kernel
theorem c48 : (("0" : Str)) = one 48 := by decide +kernel
theorem cT : (("T" : Str)) = one 84 := by decide +kernel
theorem cF : (("F" : Str)) = one 70 := by decide +kernel
theorem cN : (("N" : Str)) = one 78 := by decide +kernel
theorem c1 : (("1" : Str)) = one 49 := by decide +kernel
theorem c9 : (("9" : Str)) = one 57 := by decide +kernel
theorem cemp : (("" : Str)) = emp := by decide +kernel
theorem e_o (a b : Nat) : (one a = one b) = (a = b) := propext one_inj
theorem e_e (b : Nat) : (emp = one b) = False := by
  refine eq_false fun h => ?_
  have : (0 : Nat) = 1 := congrArg (fun s : Str => s.cps.size) h
  cases this
theorem ix_sg {x : Str} {p : Nat} (h : p < x.length) (hz : x.length ≤ szLine) (k : D → Res) : dIx (.str x) (.int (p : Int)) k = k (.str (sg x p)) := by
  show ckK (decide (x.length ≤ szLine)) (match atI x.cps.toList (p : Int) with | some c => k (.str ⟨#[c]⟩) | none => .stuck) = _
  have hl : p < (Ls x).length := by rw [Ls_len]; exact h
  have e : atI (Ls x) (p : Int) = some ((Ls x)[p]) := by
    unfold atI ixN
    rw [if_pos (by omega), if_pos (by omega)]
    show (Ls x)[((p : Int)).toNat]? = _
    rw [Int.toNat_natCast, List.getElem?_eq_getElem hl]
  rw [szl x hz, ck_true, show atI x.cps.toList (p : Int) = _ from e, sg_some (List.getElem?_eq_getElem hl)]
  rfl
theorem forC_cons (step : D → TI.Env → Nx → Res) (d : D) (ds : List D) (ρ : TI.Env) (E : Nx) : forC step (d :: ds) ρ E = step d ρ { nx := fun ρ1 => forC step ds ρ1 E, bk := E.nx, ct := fun ρ1 => forC step ds ρ1 E, rt := E.rt } := rfl
theorem forC_nil (step : D → TI.Env → Nx → Res) (ρ : TI.Env) (E : Nx) : forC step [] ρ E = E.nx ρ := rfl
theorem rngL_nat (n : Nat) : rngL 0 n = (List.range' 0 n).map fun (i : Nat) => D.int (i : Int) := by
  unfold rngL
  rw [List.range_eq_range']
  refine List.map_congr_left fun i _ => ?_
  rw [Int.zero_add]
theorem drop_get {L r : List Nat} {p c : Nat} (h : L.drop p = c :: r) : L[p]? = some c ∧ L.drop (p + 1) = r ∧ p < L.length := by
  have hl : p < L.length := by
    rcases Nat.lt_or_ge p L.length with q | q
    · exact q
    · rw [List.drop_of_length_le q] at h; cases h
  rw [List.drop_eq_getElem_cons hl] at h
  injection h with h1 h2
  exact ⟨by rw [List.getElem?_eq_getElem hl, h1], h2, hl⟩
theorem drop_nil {L : List Nat} {p : Nat} (h : L.drop p = []) : L.length ≤ p := List.drop_eq_nil_iff.mp h
theorem bnot_t : (!true) = false := rfl
theorem bnot_f : (!false) = true := rfl
theorem lock_t (l : List D) (k : Option D → Res) : lockO (some (.tup l)) k = k (some (.tup l)) := rfl
theorem lock_r (l : List D) (k : Option D → Res) : lockO (some (.rol l)) k = k (some (.rol l)) := rfl
theorem lock_c (l : List D) (k : Option D → Res) : lockO (some (.lck l)) k = k (some (.lck l)) := rfl
theorem lock_l {l : List D} (h : D.pus l = true) (k : Option D → Res) : lockO (some (.lst l)) k = k (some (.lck l)) := pusK_t h _
theorem seq_t (b : Bool) (l : List D) (k : List D → Res) : seqV b (.tup l) k = k l := rfl
theorem seq_c (b : Bool) (l : List D) (k : List D → Res) : seqV b (.lck l) k = k l := rfl
theorem seq_r (b : Bool) (l : List D) (k : List D → Res) : seqV b (.rol l) k = k l := rfl
end K00
set_option Elab.async false
set_option linter.all false
set_option maxRecDepth 100000
set_option maxHeartbeats 4000000
/-! the defs of the text, as the evaluator runs them -/
namespace K00
open PySem PySem.Spec PyProof.Rows L2 TI
/-! BODY -/
/-! draws and digits -/
theorem nx0_rt' (np : Nat) (d : D) (ρ : TI.Env) : (nx0 np).rt d ρ = .ret d (finOf np ρ) := rfl
theorem mul_ii (i j : Int) (k : D → Res) : dMul (.int i) (.int j) k = ckK (mulOk i j) (k (.int (i * j))) := rfl
theorem mod_ii (i j : Int) (k : D → Res) : dMod (.int i) (.int j) k = ckK (decide (j ≠ 0)) (k (.int (i.fmod j))) := rfl
theorem div_ii (i j : Int) (k : D → Res) : dDiv (.int i) (.int j) k = ckK (divOk j) (k (.int (i.fdiv j))) := rfl
theorem len_l (l : List D) (k : D → Res) : dLen (.lst l) k = k (.int ((l.length : Nat) : Int)) := rfl
theorem len_r (l : List D) (k : D → Res) : dLen (.rol l) k = k (.int ((l.length : Nat) : Int)) := rfl
theorem mul_l (i j : Int) (h : i.natAbs < 18446744073709551616) : mulOk i j = true := by unfold mulOk; rw [decide_eq_true h]; rfl
theorem mul_r (i j : Int) (h : j.natAbs < 18446744073709551616) : mulOk i j = true := by unfold mulOk; rw [decide_eq_true h, Bool.or_true, Bool.true_or]
theorem atI_nat {α : Type} (l : List α) (i : Nat) (h : i < l.length) : atI l (i : Int) = some l[i] := by
  unfold atI ixN
  rw [if_pos (by omega), if_pos (by omega)]
  show l[((i : Int)).toNat]? = _
  rw [Int.toNat_natCast, List.getElem?_eq_getElem h]
theorem ix_il (xs : List Int) (i : Nat) (h : i < xs.length) (k : D → Res) : dIx (.lst (xs.map D.int)) (.int (i : Int)) k = k (.int xs[i]) := by
  show atK _ (i : Int) k = _
  unfold atK
  rw [atI_nat _ i (by rw [List.length_map]; exact h), List.getElem_map]
theorem ix_ir (xs : List Int) (i : Nat) (h : i < xs.length) (k : D → Res) : dIx (.rol (xs.map D.int)) (.int (i : Int)) k = k (.int xs[i]) := by
  show atK _ (i : Int) k = _
  unfold atK
  rw [atI_nat _ i (by rw [List.length_map]; exact h), List.getElem_map]
abbrev box (xs : List Int) (a : Nat) : D := .lst [.lst (xs.map D.int), .int (a : Int)]
theorem box_0 (x y : D) (k : D → Res) : dIx (.lst [x, y]) (.int 0) k = k x := rfl
theorem box_1 (x y : D) (k : D → Res) : dIx (.lst [x, y]) (.int 1) k = k y := rfl
theorem box_o (x y : D) (k : Nat → Res) : oK (ixN ([x, y] : List D).length 1) k = k 1 := rfl
theorem box_set (x y z : D) : List.set [x, y] 1 z = [x, z] := rfl
theorem pow18 (k : D → Res) : dPow (.int 10) (.int 18) k = k (.int 1000000000000000000) := by kernel_rfl
theorem map_len (xs : List Int) : (xs.map D.int).length = xs.length := List.length_map ..
/-- a draw -/
theorem draw_ok (g : List D → Res) (wf n : Nat) (xs : List Int) (a : Nat) (many : Int) (hm : 0 < many) : ∃ v : Int, 0 ≤ v ∧ v < many ∧ ∃ o, cl g wf (n + 1) "_law_draw" [box xs a, .int many] = .ret (.int v) [some (box xs (a + 1)), o] := by
  rw [cl_run g wf n "_law_draw" df_law_draw _ (by kernel_rfl), show env0 df_law_draw [box xs a, .int many] = [some (box xs a), some (.int many), none] from rfl]
  have hne : decide (many ≠ 0) = true := decide_eq_true (by omega)
  by_cases h : a < xs.length
  · simp -implicitDefEqProofs only [b_law_draw_q, b_law_draw_2t_q, b_law_draw_2f_q, b_law_draw_0, b_law_draw_1, b_law_draw_2, b_law_draw_2t_0, b_law_draw_3, stL_cons, stL_nil, getS_some, box_0, box_1, pu_i, add_ii, nat1, asL_l, box_o, box_set, len_l, map_len, lt_ii, ltI, h, decide_true, ix_il xs a h, int_i, mod_ii, hne, ck_true]
    exact ⟨_, Int.fmod_nonneg_of_pos _ hm, Int.fmod_lt_of_pos _ hm, _, rfl⟩
  · simp -implicitDefEqProofs only [b_law_draw_q, b_law_draw_2t_q, b_law_draw_2f_q, b_law_draw_0, b_law_draw_1, b_law_draw_2, b_law_draw_2t_0, b_law_draw_3, stL_cons, stL_nil, getS_some, box_0, box_1, pu_i, add_ii, nat1, asL_l, box_o, box_set, len_l, map_len, lt_ii, ltI, h, decide_false, mul_ii, mul_r _ 7 (by decide), int_i, mod_ii, hne, ck_true]
    exact ⟨_, Int.fmod_nonneg_of_pos _ hm, Int.fmod_lt_of_pos _ hm, _, rfl⟩
theorem cell_ok (g : List D → Res) (wf n : Nat) (ns : List Int) (k : Nat) : ∃ z fin, cl g wf (n + 1) "_law_cell" [.rol (ns.map D.int), .int (k : Int)] = .ret (.int z) fin := by
  rw [cl_run g wf n "_law_cell" df_law_cell _ (by kernel_rfl), show env0 df_law_cell [.rol (ns.map D.int), .int (k : Int)] = [some (.rol (ns.map D.int)), some (.int (k : Int))] from rfl]
  by_cases h : k < ns.length
  · simp -implicitDefEqProofs only [b_law_cell_q, b_law_cell_0t_q, b_law_cell_0f_q, b_law_cell_0, b_law_cell_0t_0, b_law_cell_1, stL_cons, stL_nil, getS_some, pu_i, len_r, map_len, lt_ii, ltI, h, decide_true, ix_ir ns k h]
    exact ⟨_, _, rfl⟩
  · simp -implicitDefEqProofs only [b_law_cell_q, b_law_cell_0t_q, b_law_cell_0f_q, b_law_cell_0, b_law_cell_0t_0, b_law_cell_1, stL_cons, stL_nil, getS_some, pu_i, len_r, map_len, lt_ii, ltI, h, decide_false]
    exact ⟨_, _, rfl⟩
theorem map_snoc (zs : List Int) (z : Int) : zs.map D.int ++ [.int z] = (zs ++ [z]).map D.int := by rw [List.map_append]; rfl
theorem snoc_len (zs : List Int) (z : Int) : (zs ++ [z]).length = zs.length + 1 := by simp
theorem dig_b (g : List D → Res) (wf n : Nat) (s a b kk : D) (E : Nx) : ∀ (j i : Nat) (zs : List Int) (c : Int) (o3 o4 : Option D), zs.length + j < szLine → ∃ (zs' : List Int) (c' : Int) (o3' : Option D), zs'.length ≤ zs.length + j ∧
    forC (fst g wf n df_law_digits 53 (at1 b_law_digits_1b_3t 0)) ((List.range' i j).map fun (i : Nat) => D.int (i : Int)) [some s, some a, some b, some (.lst (zs.map D.int)), some kk, some (.int c), o3, o4] E = E.nx [some s, some a, some b, some (.lst (zs'.map D.int)), some kk, some (.int c'), o3', o4] := by
  intro j
  induction j with
  | zero => intro i zs c o3 o4 _; exact ⟨zs, c, o3, by omega, rfl⟩
  | succ j ih =>
    intro i zs c o3 o4 hl
    rw [List.range'_succ, List.map_cons, forC_cons]
    by_cases hc : (0 : Int) < c
    · have hzl : zs.length < szLine := by omega
      obtain ⟨zs', c', o3', h1, h2⟩ := ih (i + 1) (zs ++ [c.fmod 1000]) (c.fdiv 1000) (some (.int (i : Int))) o4 (by rw [snoc_len]; omega)
      refine ⟨zs', c', o3', by rw [snoc_len] at h1; omega, ?_⟩
      simp -implicitDefEqProofs only [b_law_digits_q, b_law_digits_1b_q, b_law_digits_1b_1t_q, b_law_digits_1b_2t_q, b_law_digits_1b_3t_q, b_law_digits_1b_3t_0b_q, b_law_digits_1b_3t_0b_0t_q, b_law_digits_1b_3f_q, b_law_digits_1b_3f_1b_q, b_law_digits_1b_1f_q, b_law_digits_1b_2f_q, b_law_digits_1b_3t_0b_0f_q, b_law_digits_0, b_law_digits_1, b_law_digits_1x, b_law_digits_1b_0, b_law_digits_1b_1, b_law_digits_1b_1t_0, b_law_digits_1b_2, b_law_digits_1b_2t_0, b_law_digits_1b_3, b_law_digits_1b_3t_0, b_law_digits_1b_3t_0x, b_law_digits_1b_3t_0b_0, b_law_digits_1b_3t_0b_0t_0, b_law_digits_1b_3t_0b_0t_1, b_law_digits_1b_3f_0, b_law_digits_1b_3f_1, b_law_digits_1b_3f_1x, b_law_digits_1b_3f_1b_0, b_law_digits_1b_3f_1b_1, b_law_digits_2, stL_cons, stL_nil, getS_some, lt_ii, hc, decide_true, asL_l, int_i, mod_ii, div_ii, decide_eq_true (show (1000 : Int) ≠ 0 by decide), (show divOk 1000 = true from by decide), ck_true, map_len, hzl, map_snoc]
      exact h2
    · obtain ⟨zs', c', o3', h1, h2⟩ := ih (i + 1) zs c (some (.int (i : Int))) o4 (by omega)
      refine ⟨zs', c', o3', by omega, ?_⟩
      simp -implicitDefEqProofs only [b_law_digits_q, b_law_digits_1b_q, b_law_digits_1b_1t_q, b_law_digits_1b_2t_q, b_law_digits_1b_3t_q, b_law_digits_1b_3t_0b_q, b_law_digits_1b_3t_0b_0t_q, b_law_digits_1b_3f_q, b_law_digits_1b_3f_1b_q, b_law_digits_1b_1f_q, b_law_digits_1b_2f_q, b_law_digits_1b_3t_0b_0f_q, b_law_digits_0, b_law_digits_1, b_law_digits_1x, b_law_digits_1b_0, b_law_digits_1b_1, b_law_digits_1b_1t_0, b_law_digits_1b_2, b_law_digits_1b_2t_0, b_law_digits_1b_3, b_law_digits_1b_3t_0, b_law_digits_1b_3t_0x, b_law_digits_1b_3t_0b_0, b_law_digits_1b_3t_0b_0t_0, b_law_digits_1b_3t_0b_0t_1, b_law_digits_1b_3f_0, b_law_digits_1b_3f_1, b_law_digits_1b_3f_1x, b_law_digits_1b_3f_1b_0, b_law_digits_1b_3f_1b_1, b_law_digits_2, stL_cons, stL_nil, getS_some, lt_ii, hc, decide_false]
      exact h2
theorem dig_s (g : List D → Res) (wf n : Nat) (s a b kk c : D) (E : Nx) : ∀ (j i : Nat) (zs : List Int) (sd : Int) (o3 : Option D), zs.length + j < szLine → ∃ (zs' : List Int) (sd' : Int) (o3' : Option D), zs'.length ≤ zs.length + j ∧
    forC (fst g wf n df_law_digits 52 (at1 b_law_digits_1b_3f 1)) ((List.range' i j).map fun (i : Nat) => D.int (i : Int)) [some s, some a, some b, some (.lst (zs.map D.int)), some kk, some c, o3, some (.int sd)] E = E.nx [some s, some a, some b, some (.lst (zs'.map D.int)), some kk, some c, o3', some (.int sd')] := by
  intro j
  induction j with
  | zero => intro i zs sd o3 _; exact ⟨zs, sd, o3, by omega, rfl⟩
  | succ j ih =>
    intro i zs sd o3 hl
    rw [List.range'_succ, List.map_cons, forC_cons]
    have hzl : zs.length < szLine := by omega
    obtain ⟨zs', sd', o3', h1, h2⟩ := ih (i + 1) (zs ++ [(((sd * 16807 + 7 * (i : Int) + 1).fmod 2147483647).fdiv 997).fmod 1000]) ((sd * 16807 + 7 * (i : Int) + 1).fmod 2147483647) (some (.int (i : Int))) (by rw [snoc_len]; omega)
    refine ⟨zs', sd', o3', by rw [snoc_len] at h1; omega, ?_⟩
    simp -implicitDefEqProofs only [b_law_digits_q, b_law_digits_1b_q, b_law_digits_1b_1t_q, b_law_digits_1b_2t_q, b_law_digits_1b_3t_q, b_law_digits_1b_3t_0b_q, b_law_digits_1b_3t_0b_0t_q, b_law_digits_1b_3f_q, b_law_digits_1b_3f_1b_q, b_law_digits_1b_1f_q, b_law_digits_1b_2f_q, b_law_digits_1b_3t_0b_0f_q, b_law_digits_0, b_law_digits_1, b_law_digits_1x, b_law_digits_1b_0, b_law_digits_1b_1, b_law_digits_1b_1t_0, b_law_digits_1b_2, b_law_digits_1b_2t_0, b_law_digits_1b_3, b_law_digits_1b_3t_0, b_law_digits_1b_3t_0x, b_law_digits_1b_3t_0b_0, b_law_digits_1b_3t_0b_0t_0, b_law_digits_1b_3t_0b_0t_1, b_law_digits_1b_3f_0, b_law_digits_1b_3f_1, b_law_digits_1b_3f_1x, b_law_digits_1b_3f_1b_0, b_law_digits_1b_3f_1b_1, b_law_digits_2, stL_cons, stL_nil, getS_some, mul_ii, mul_r sd 16807 (by decide), mul_l 7 (i : Int) (by decide), ck_true, add_ii, int_i, mod_ii, div_ii, decide_eq_true (show (2147483647 : Int) ≠ 0 by decide), decide_eq_true (show (1000 : Int) ≠ 0 by decide), (show divOk 997 = true from by decide), asL_l, map_len, hzl, decide_true, map_snoc]
    exact h2
theorem dig_loop (g : List D → Res) (wf n : Nat) (ns : List Int) (a b : D) (E : Nx) : ∀ (j i : Nat) (zs : List Int) (o1 o2 o3 o4 : Option D), ∃ (zs' : List Int) (o1' o2' o3' o4' : Option D), 
    forC (fst g wf (n + 1) df_law_digits 58 (at1 b_law_digits 1)) ((List.range' i j).map fun (i : Nat) => D.int (i : Int)) [some (.rol (ns.map D.int)), some a, some b, some (.lst (zs.map D.int)), o1, o2, o3, o4] E = E.nx [some (.rol (ns.map D.int)), some a, some b, some (.lst (zs'.map D.int)), o1', o2', o3', o4'] := by
  intro j
  induction j with
  | zero => intro i zs o1 o2 o3 o4; exact ⟨zs, o1, o2, o3, o4, rfl⟩
  | succ j ih =>
    intro i zs o1 o2 o3 o4
    have hz : (3000 : Nat) ≤ szLine := by unfold szLine; omega
    rw [List.range'_succ, List.map_cons, forC_cons]
    obtain ⟨c, fin, e⟩ := cell_ok g wf n ns i
    have neg : ∀ (o3 o4 : Option D) (E2 : Nx), ∃ c' : Int, st1 g wf (n + 1) df_law_digits 56 (at1 b_law_digits_1b 1) [some (.rol (ns.map D.int)), some a, some b, some (.lst (zs.map D.int)), some (.int (i : Int)), some (.int c), o3, o4] E2 = E2.nx [some (.rol (ns.map D.int)), some a, some b, some (.lst (zs.map D.int)), some (.int (i : Int)), some (.int c'), o3, o4] := fun o3 o4 E2 => by
      by_cases hc : c < 0
      · refine ⟨1 - 2 * c, ?_⟩
        simp -implicitDefEqProofs only [b_law_digits_1b_1, b_law_digits_1b_1t_q, b_law_digits_1b_1t_0, stL_cons, stL_nil, getS_some, lt_ii, hc, decide_true, mul_ii, mul_l 2 c (by decide), ck_true, sub_ii]
      · refine ⟨c, ?_⟩
        simp -implicitDefEqProofs only [b_law_digits_1b_1, b_law_digits_1b_1f_q, stL_cons, stL_nil, getS_some, lt_ii, hc, decide_false]
    rw [b_law_digits_1x, b_law_digits_1b_q, stL_cons, b_law_digits_1b_0]
    rw [getS_some, getS_some, getS_some, getS_some, e, onRet_ret, unl_i, show unlend (.rol (ns.map D.int)) fin[0]? = some (.rol (ns.map D.int)) from rfl]
    dsimp only
    rw [stL_cons]
    obtain ⟨c', e2⟩ := neg o3 o4 ⟨fun ρ1 => stL g wf (n + 1) df_law_digits 56 [at1 b_law_digits_1b 2, at1 b_law_digits_1b 3] ρ1 ⟨fun ρ1 => forC (fst g wf (n + 1) df_law_digits 58 (at1 b_law_digits 1)) ((List.range' (i + 1) j).map fun (i : Nat) => D.int (i : Int)) ρ1 E, E.nx, fun ρ1 => forC (fst g wf (n + 1) df_law_digits 58 (at1 b_law_digits 1)) ((List.range' (i + 1) j).map fun (i : Nat) => D.int (i : Int)) ρ1 E, E.rt⟩, E.nx, fun ρ1 => forC (fst g wf (n + 1) df_law_digits 58 (at1 b_law_digits 1)) ((List.range' (i + 1) j).map fun (i : Nat) => D.int (i : Int)) ρ1 E, E.rt⟩
    refine Exists.imp (fun z => Exists.imp fun a1 => Exists.imp fun a2 => Exists.imp fun a3 => Exists.imp fun a4 hq => (show _ = _ from e2).trans hq) ?_
    dsimp only
    rw [stL_cons]
    by_cases h15 : (1500 : Int) < ((zs.length : Nat) : Int)
    · simp -implicitDefEqProofs only [b_law_digits_1b_2, b_law_digits_1b_2t_q, b_law_digits_1b_2t_0, stL_cons, stL_nil, getS_some, len_l, map_len, lt_ii, h15, decide_true]
      exact ⟨zs, _, _, _, _, rfl⟩
    · have hl : zs.length ≤ 1500 := by omega
      rw [b_law_digits_1b_2]
      simp -implicitDefEqProofs only [getS_some, len_l, map_len, lt_ii, h15, decide_false, b_law_digits_1b_2f_q, stL_nil]
      rw [stL_cons]
      have st3 : ∀ (c' : Int) (o3 o4 : Option D) (E2 : Nx), ∃ (zs' : List Int) (o2' o3' o4' : Option D), st1 g wf (n + 1) df_law_digits 54 (at1 b_law_digits_1b 3) [some (.rol (ns.map D.int)), some a, some b, some (.lst (zs.map D.int)), some (.int (i : Int)), some (.int c'), o3, o4] E2 = E2.nx [some (.rol (ns.map D.int)), some a, some b, some (.lst (zs'.map D.int)), some (.int (i : Int)), o2', o3', o4'] := fun c' o3 o4 E2 => by
        rw [b_law_digits_1b_3, getS_some, pu_i, pow18, le_ii]
        by_cases hb : (1000000000000000000 : Int) ≤ c'
        · rw [decide_eq_true hb]
          dsimp only
          obtain ⟨zs', c2, o3', h1, h2⟩ := dig_b g wf (n + 1) (.rol (ns.map D.int)) a b (.int (i : Int)) ⟨fun ρ1 => stL g wf (n + 1) df_law_digits 53 [] ρ1 E2, E2.bk, E2.ct, E2.rt⟩ 60 0 zs c' o3 o4 (by omega)
          refine ⟨zs', some (.int c2), o3', o4, ?_⟩
          rw [b_law_digits_1b_3t_q, stL_cons, b_law_digits_1b_3t_0, show smallI 60 = true from by decide, ck_true, show rngL 0 (60 : Int).toNat = _ from rngL_nat 60]
          exact h2
        · rw [decide_eq_false hb]
          dsimp only
          obtain ⟨zs', c2, o3', h1, h2⟩ := dig_s g wf (n + 1) (.rol (ns.map D.int)) a b (.int (i : Int)) (.int c') ⟨fun ρ1 => stL g wf (n + 1) df_law_digits 52 [] ρ1 E2, E2.bk, E2.ct, E2.rt⟩ 12 0 zs ((c' * 48271 + (i : Int) * 69621 + 11).fmod 2147483647) o3 (by omega)
          refine ⟨zs', some (.int c'), o3', some (.int c2), ?_⟩
          rw [b_law_digits_1b_3f_q, stL_cons, b_law_digits_1b_3f_0]
          simp -implicitDefEqProofs only [getS_some, mul_ii, mul_r c' 48271 (by decide), mul_r (i : Int) 69621 (by decide), ck_true, add_ii, int_i, mod_ii, decide_eq_true (show (2147483647 : Int) ≠ 0 by decide)]
          rw [stL_cons, b_law_digits_1b_3f_1, show smallI 12 = true from by decide, ck_true, show rngL 0 (12 : Int).toNat = _ from rngL_nat 12]
          exact h2
      obtain ⟨zs', p2, p3, p4, e3⟩ := st3 c' o3 o4 ⟨fun ρ1 => stL g wf (n + 1) df_law_digits 54 [] ρ1 ⟨fun ρ1 => forC (fst g wf (n + 1) df_law_digits 58 (at1 b_law_digits 1)) ((List.range' (i + 1) j).map fun (i : Nat) => D.int (i : Int)) ρ1 E, E.nx, fun ρ1 => forC (fst g wf (n + 1) df_law_digits 58 (at1 b_law_digits 1)) ((List.range' (i + 1) j).map fun (i : Nat) => D.int (i : Int)) ρ1 E, E.rt⟩, E.nx, fun ρ1 => forC (fst g wf (n + 1) df_law_digits 58 (at1 b_law_digits 1)) ((List.range' (i + 1) j).map fun (i : Nat) => D.int (i : Int)) ρ1 E, E.rt⟩
      obtain ⟨zq, a1, a2, a3, a4, hq⟩ := ih (i + 1) zs' (some (.int (i : Int))) p2 p3 p4
      refine ⟨zq, a1, a2, a3, a4, ?_⟩
      refine Eq.trans (show _ = _ from e3) ?_
      dsimp only
      rw [stL_nil]
      exact hq
theorem small_lenK (a : Nat) (h : a ≤ 1000) : smallI ((a : Nat) : Int) = true := decide_eq_true (by rw [Int.natAbs_natCast]; omega)
theorem ret_l (zs : List Int) (a b : Res) : retK (.lst (zs.map D.int)) a b = b := rfl
theorem digits_ok (g : List D → Res) (wf n : Nat) (ns : List Int) (m : Nat) (hm : m ≤ 1000) : ∃ (zs : List Int) (fin : TI.Env), cl g wf (n + 2) "_law_digits" [.rol (ns.map D.int), .int 0, .int (m : Int)] = .ret (.lst (zs.map D.int)) fin := by
  rw [cl_run g wf (n + 1) "_law_digits" df_law_digits _ (by kernel_rfl), show env0 df_law_digits [.rol (ns.map D.int), .int 0, .int (m : Int)] = [some (.rol (ns.map D.int)), some (.int 0), some (.int (m : Int)), none, none, none, none, none] from rfl]
  have hsz : (1000 : Nat) ≤ szLine := by unfold szLine; omega
  rw [b_law_digits_q, stL_cons, b_law_digits_0]
  dsimp only
  rw [stL_cons, b_law_digits_1]
  simp -implicitDefEqProofs only [getS_some, asI_i, show smallI 0 = true from by decide, small_lenK m hm, Bool.and_self, ck_true, Int.sub_zero, Int.toNat_natCast, rngL_nat]
  obtain ⟨zs, o1, o2, o3, o4, e⟩ := dig_loop g wf n ns (.int 0) (.int (m : Int)) ⟨fun ρ1 => stL g wf (n + 1) df_law_digits 58 [at1 b_law_digits 2] ρ1 (nx0 df_law_digits.np), (nx0 df_law_digits.np).bk, (nx0 df_law_digits.np).ct, (nx0 df_law_digits.np).rt⟩ m 0 [] none none none none
  refine ⟨zs, ?_⟩
  show ∃ fin, forC (fst g wf (n + 1) df_law_digits 58 (at1 b_law_digits 1)) _ [some (.rol (ns.map D.int)), some (.int 0), some (.int (m : Int)), some (.lst (([] : List Int).map D.int)), none, none, none, none] _ = _
  rw [e]
  dsimp only
  rw [stL_cons, b_law_digits_2, getS_some, ret_l]
  exact ⟨_, rfl⟩
end K00
set_option Elab.async false
set_option linter.all false
set_option maxRecDepth 100000
set_option maxHeartbeats 4000000
/-! the defs of the text, as the evaluator runs them -/
namespace K00
open PySem PySem.Spec PyProof.Rows L2 TI
/-! BODY -/
/-! what is alike; what is picked -/
inductive Vl : Nat → D → Prop
  | non (k) : Vl k .non
  | bl (k b) : Vl k (.bl b)
  | int (k i) : Vl k (.int i)
  | str (k x) (h : x.length ≤ szLine) : Vl k (.str x)
  | tup (k ds) (h : ∀ d ∈ ds, Vl k d) (hl : ds.length ≤ szLine) : Vl (k + 1) (.tup ds)
theorem Vl.pu {k : Nat} {d : D} (h : Vl k d) : d.pu = true := by cases h <;> rfl
theorem szB : (4611686018427387904 : Nat) > szLine + 1 := by unfold szLine; omega
theorem small_len (a : Nat) (h : a ≤ szLine + 1) : smallI ((a : Nat) : Int) = true := decide_eq_true (by have := szB; rw [Int.natAbs_natCast]; omega)
theorem l_non (g : List D → Res) (wf n : Nat) : cl g wf (n + 1) "_law_like" [.non, .non] = .ret (.bl true) [none, none] := by kernel_rfl
theorem l_true (g : List D → Res) (wf n : Nat) : cl g wf (n + 1) "_law_like" [.bl true, .bl true] = .ret (.bl true) [none, none] := by kernel_rfl
theorem l_false (g : List D → Res) (wf n : Nat) : cl g wf (n + 1) "_law_like" [.bl false, .bl false] = .ret (.bl true) [none, none] := by kernel_rfl
theorem l_int (g : List D → Res) (wf n : Nat) (i : Int) : cl g wf (n + 1) "_law_like" [.int i, .int i] = .ret (.bl (decide (i = i))) [none, none] := by kernel_rfl
theorem isi_t (l : List D) (k : D → Res) : dIsi (.tup l) "tuple" k = k (.bl true) := by kernel_rfl
theorem isi_st (x : Str) (k : D → Res) : dIsi (.str x) "tuple" k = k (.bl false) := by kernel_rfl
theorem isi_ss (x : Str) (k : D → Res) : dIsi (.str x) "str" k = k (.bl true) := by kernel_rfl
theorem is_sn (x : Str) (k : Bool → Res) : dIs (.str x) .non k = k false := rfl
theorem is_sb (x : Str) (b : Bool) (k : Bool → Res) : dIs (.str x) (.bl b) k = k false := rfl
theorem len_t (l : List D) (k : D → Res) : dLen (.tup l) k = k (.int ((l.length : Nat) : Int)) := rfl
theorem ix_t (l : List D) (i : Nat) (h : i < l.length) (k : D → Res) : dIx (.tup l) (.int (i : Int)) k = k l[i] := by
  show atK l (i : Int) k = _
  unfold atK
  rw [atI_nat l i h]
theorem eq_nil (k : Bool → Res) : dEq (.lst []) (.lst []) k = k true := by kernel_rfl
theorem join_1 (x : Str) (h : x.length ≤ szLine) (k : D → Res) : dJoin emp (.lst [.str x]) k = k (.str x) := by
  unfold dJoin
  dsimp only [strsD]
  show ckK (decide (([x].map (·.length)).sum + [x].length * (emp : Str).length ≤ szLine)) (k (.str (Txt.join emp [x]))) = _
  rw [decide_eq_true (by show (x.length + 0) + 1 * 0 ≤ szLine; omega), ck_true]
  have : Txt.join emp [x] = x := by
    apply Str_ext
    show (Builtin.Str.glued emp [x]).cps.toList = _
    rw [TI.glued_gl]
    simp [TI.gl]
  rw [this]
theorem like_loop (g : List D → Res) (wf n : Nat) (ds : List D) (hp : ∀ d ∈ ds, d.pu = true) (hs : ∀ d ∈ ds, ∃ fin, cl g wf n "_law_like" [d, d] = .ret (.bl true) fin) (K : List D → TI.Env → Res) : ∀ (j i : Nat), i + j = ds.length → ∀ o, ∃ o', lcC (b_law_like_0t_1_lc1 g wf n) ((List.range' i j).map fun (i : Nat) => D.int (i : Int)) [] [some (.tup ds), some (.tup ds), o] K = K [] [some (.tup ds), some (.tup ds), o'] := by
  intro j
  induction j with
  | zero => intro i _ o; exact ⟨o, rfl⟩
  | succ j ih =>
    intro i hi o
    have hlt : i < ds.length := by omega
    have hm := List.getElem_mem hlt
    obtain ⟨fin, e⟩ := hs _ hm
    obtain ⟨o', e2⟩ := ih (i + 1) (by omega) (some (.int (i : Int)))
    refine ⟨o', ?_⟩
    rw [List.range'_succ, List.map_cons]
    unfold lcC
    rw [b_law_like_0t_1_lc1_x]
    simp -implicitDefEqProofs only [getS_some, ix_t ds i hlt, puK_t (hp _ hm), e, onRet_ret, tru_b, bnot_t]
    exact e2
theorem like_ok (g : List D → Res) (wf : Nat) : ∀ (k : Nat) (d : D), Vl k d → ∀ n, k + 1 ≤ n → ∃ fin, cl g wf n "_law_like" [d, d] = .ret (.bl true) fin := by
  intro k
  induction k using Nat.strongRecOn with
  | _ k ih =>
    intro d hd n hn
    obtain ⟨n, rfl⟩ : ∃ n', n = n' + 1 := ⟨n - 1, by omega⟩
    cases hd with
    | non => exact ⟨_, l_non g wf n⟩
    | bl _ b => cases b
                · exact ⟨_, l_false g wf n⟩
                · exact ⟨_, l_true g wf n⟩
    | int _ i => rw [l_int, decide_eq_true rfl]; exact ⟨_, rfl⟩
    | str _ x hx =>
      rw [cl_run g wf n "_law_like" df_law_like _ (by kernel_rfl), show env0 df_law_like [.str x, .str x] = [some (.str x), some (.str x), none] from rfl]
      simp -implicitDefEqProofs only [b_law_like_q, b_law_like_0t_q, b_law_like_0t_0t_q, b_law_like_1t_q, b_law_like_2t_q, b_law_like_3t_q, b_law_like_4t_q, b_law_like_0f_q, b_law_like_1f_q, b_law_like_2f_q, b_law_like_3f_q, b_law_like_4f_q, b_law_like_0t_0f_q, b_law_like_0, b_law_like_0t_0, b_law_like_0t_0t_0, b_law_like_0t_1_lc1_x, b_law_like_0t_1, b_law_like_1, b_law_like_1t_0, b_law_like_2, b_law_like_2t_0, b_law_like_3, b_law_like_3t_0, b_law_like_4, b_law_like_4t_0, b_law_like_5, stL_cons, stL_nil, getS_some, isi_st, isi_ss, is_sn, is_sb, tru_b, asS_s, pu_s, cemp, join_1 x hx, eq_ss, decide_true]
      exact ⟨_, rfl⟩
    | tup k ds h hl =>
      rw [cl_run g wf n "_law_like" df_law_like _ (by kernel_rfl), show env0 df_law_like [.tup ds, .tup ds] = [some (.tup ds), some (.tup ds), none] from rfl]
      obtain ⟨o', e⟩ := like_loop g wf n ds (fun d hd => (h d hd).pu) (fun d hd => ih k (by omega) d (h d hd) n (by omega)) (fun a4 r5 => dEq (.lst a4) (.lst []) fun c6 => (nx0 df_law_like.np).rt (.bl c6) (wipeB r5 [some (.tup ds), some (.tup ds), none] [2])) ds.length 0 (by omega) none
      simp -implicitDefEqProofs only [b_law_like_q, b_law_like_0, b_law_like_0t_q, b_law_like_0t_0, b_law_like_0t_0f_q, b_law_like_0t_1, stL_cons, stL_nil, getS_some, isi_t, tru_b, bnot_t, len_t, eq_ii, decide_true, asI_i, small_len ds.length (by omega), ck_true, Int.toNat_natCast, rngL_nat, show hidOk [some (.tup ds), some (.tup ds), none] [2] = true from rfl]
      rw [eq_nil] at e
      exact ⟨_, e⟩
end K00
set_option Elab.async false
set_option linter.all false
set_option maxRecDepth 100000
set_option maxHeartbeats 4000000
/-! the defs of the text, as the evaluator runs them -/
namespace K00
open PySem PySem.Spec PyProof.Rows L2 TI
/-! BODY -/
/-! ratios -/
open RQ
abbrev rt (r : Rat) : D := .tup [.int r.num, .int (r.den : Int)]
theorem mulB {p q : Nat} {i j : Int} (h : Bd p i) (k : Bd q j) (e : p + q < 1000000) : mulOk i j = true := by
  unfold mulOk
  rw [Bool.or_eq_true]
  right
  have := h.log
  have := k.log
  exact decide_eq_true (by omega)
theorem divB {q : Nat} {j : Int} (h0 : 0 < j) (h : Bd q j) (e : q < 9000) : divOk j = true := by
  unfold divOk
  rw [Bool.or_eq_true]
  right
  have := h.log
  rw [Bool.and_eq_true]
  exact ⟨decide_eq_true h0, decide_eq_true (by omega)⟩
theorem divS {j : Int} (h0 : j ≠ 0) (h : j.natAbs < 1073741824) : divOk j = true := by
  unfold divOk
  rw [decide_eq_true h0, decide_eq_true h]
  rfl
theorem i2_ii (a b : Int) (k : Int → Int → Res) : i2K [.int a, .int b] k = k a b := rfl
theorem gcd_ii (a b : Int) (k : D → Res) : dGcd a b k = k (.int (gcdI a b)) := rfl
theorem pus_ii' (x i : Int) (r : Res) : pusK [.int x, .int i] r = r := rfl
theorem bd_gcd {q : Nat} (a : Int) {b : Int} (hb : Bd q b) (h : b ≠ 0) : Bd q (gcdI a b) := Nat.lt_of_le_of_lt (gcd_le a h) hb
/-- ratio(a, b) -/
theorem ratio_ok (g : List D → Res) (wf n : Nat) {q : Nat} (a : Int) {b : Int} (h : 0 < b) (hb : Bd q b) (e : q < 9000) : ∃ fin, cl g wf (n + 1) "ratio" [.int a, .int b] = .ret (rt (Rat.divInt a b)) fin := by
  have hs : divOk (gcdI a b) = true := divB (gcd_pos a (by omega)) (bd_gcd a hb (by omega)) e
  have h0 : decide (b < 0) = false := decide_eq_false (by omega)
  rw [cl_run g wf n "ratio" df_ratio _ (by kernel_rfl), show env0 df_ratio [.int a, .int b] = [some (.int a), some (.int b), none] from rfl]
  simp -implicitDefEqProofs only [b_ratio_q, b_ratio_1t_q, b_ratio_1f_q, b_ratio_0, b_ratio_1, b_ratio_1t_0, b_ratio_2, stL_cons, stL_nil, getS_some, i2_ii, gcd_ii, lt_ii, h0, div_ii, hs, ck_true, pus_ii', num_f a h, den_f a h]
  exact ⟨_, rfl⟩
theorem ratio_neg (g : List D → Res) (wf n : Nat) (a : Int) {b : Int} (h : b < 0) (hb : b.natAbs < 1073741824) : ∃ fin, cl g wf (n + 1) "ratio" [.int a, .int b] = .ret (rt (Rat.divInt a b)) fin := by
  have hp := gcd_pos a (b := b) (by omega)
  have hl := gcd_le a (b := b) (by omega)
  have hs : divOk (-(gcdI a b)) = true := divS (by omega) (by rw [Int.natAbs_neg]; omega)
  have h0 : decide (b < 0) = true := decide_eq_true h
  rw [cl_run g wf n "ratio" df_ratio _ (by kernel_rfl), show env0 df_ratio [.int a, .int b] = [some (.int a), some (.int b), none] from rfl]
  simp -implicitDefEqProofs only [b_ratio_q, b_ratio_1t_q, b_ratio_1f_q, b_ratio_0, b_ratio_1, b_ratio_1t_0, b_ratio_2, stL_cons, stL_nil, getS_some, i2_ii, gcd_ii, lt_ii, h0, neg_i, div_ii, hs, ck_true, pus_ii', num_fn a h, den_fn a h]
  exact ⟨_, rfl⟩
/-! indices of written tuples -/
theorem t2_0 (x y : D) (k : D → Res) : dIx (.tup [x, y]) (.int 0) k = k x := rfl
theorem t2_1 (x y : D) (k : D → Res) : dIx (.tup [x, y]) (.int 1) k = k y := rfl
theorem t3_0 (x y z : D) (k : D → Res) : dIx (.tup [x, y, z]) (.int 0) k = k x := rfl
theorem t3_1 (x y z : D) (k : D → Res) : dIx (.tup [x, y, z]) (.int 1) k = k y := rfl
theorem t3_2 (x y z : D) (k : D → Res) : dIx (.tup [x, y, z]) (.int 2) k = k z := rfl
theorem Bq.dp {p q : Nat} {x : Rat} (h : Bq p q x) : Bd q (x.den : Int) := h.d
section
variable (g : List D → Res) (wf n : Nat) {p1 q1 p2 q2 : Nat} {x y : Rat} (hx : Bq p1 q1 x) (hy : Bq p2 q2 y) (s1 : p1 < 4000) (s2 : q1 < 4000) (s3 : p2 < 4000) (s4 : q2 < 4000)
include hx hy s1 s2 s3 s4
theorem plus_ok : ∃ fin, cl g wf (n + 2) "plus" [rt x, rt y] = .ret (rt (x + y)) fin := by
  have m1 := mulB hx.n hy.d (by omega)
  have m2 := mulB hy.n hx.d (by omega)
  have m3 := mulB hx.d hy.d (by omega)
  obtain ⟨fin, e⟩ := ratio_ok g wf n (x.num * y.den + y.num * x.den) (den_prod_pos x y) (hx.d.mul hy.d) (by omega)
  rw [plus_eq] at e
  rw [cl_run g wf (n + 1) "plus" df_plus _ (by kernel_rfl), show env0 df_plus [rt x, rt y] = [some (rt x), some (rt y)] from rfl]
  simp -implicitDefEqProofs only [b_plus_q, b_plus_0, stL_cons, stL_nil, getS_some, t2_0, t2_1, pu_i, mul_ii, m1, m2, m3, ck_true, add_ii, e, onRet_ret]
  exact ⟨_, rfl⟩
theorem minus_ok : ∃ fin, cl g wf (n + 2) "minus" [rt x, rt y] = .ret (rt (x - y)) fin := by
  have m1 := mulB hx.n hy.d (by omega)
  have m2 := mulB hy.n hx.d (by omega)
  have m3 := mulB hx.d hy.d (by omega)
  obtain ⟨fin, e⟩ := ratio_ok g wf n (x.num * y.den - y.num * x.den) (den_prod_pos x y) (hx.d.mul hy.d) (by omega)
  rw [minus_eq] at e
  rw [cl_run g wf (n + 1) "minus" df_minus _ (by kernel_rfl), show env0 df_minus [rt x, rt y] = [some (rt x), some (rt y)] from rfl]
  simp -implicitDefEqProofs only [b_minus_q, b_minus_0, stL_cons, stL_nil, getS_some, t2_0, t2_1, pu_i, mul_ii, m1, m2, m3, ck_true, sub_ii, e, onRet_ret]
  exact ⟨_, rfl⟩
theorem product_ok : ∃ fin, cl g wf (n + 2) "product" [rt x, rt y] = .ret (rt (x * y)) fin := by
  have m1 := mulB hx.n hy.n (by omega)
  have m3 := mulB hx.d hy.d (by omega)
  obtain ⟨fin, e⟩ := ratio_ok g wf n (x.num * y.num) (den_prod_pos x y) (hx.d.mul hy.d) (by omega)
  rw [mul_eq] at e
  rw [cl_run g wf (n + 1) "product" df_product _ (by kernel_rfl), show env0 df_product [rt x, rt y] = [some (rt x), some (rt y)] from rfl]
  simp -implicitDefEqProofs only [b_product_q, b_product_0, stL_cons, stL_nil, getS_some, t2_0, t2_1, pu_i, mul_ii, m1, m3, ck_true, e, onRet_ret]
  exact ⟨_, rfl⟩
/-- -1, 0, 1 -/
def cmpQ (x y : Rat) : Int := if x < y then -1 else if y < x then 1 else 0
theorem compare_ok : ∃ fin, cl g wf (n + 1) "compare" [rt x, rt y] = .ret (.int (cmpQ x y)) fin := by
  have m1 := mulB hx.n hy.d (by omega)
  have m2 := mulB hy.n hx.d (by omega)
  have L1 : x < y ↔ x.num * y.den < y.num * x.den := Rat.lt_iff x y
  have L2 : y < x ↔ y.num * x.den < x.num * y.den := Rat.lt_iff y x
  rw [cl_run g wf n "compare" df_compare _ (by kernel_rfl), show env0 df_compare [rt x, rt y] = [some (rt x), some (rt y), none] from rfl]
  unfold cmpQ
  by_cases h1 : x < y
  · have d1 : decide (x.num * y.den - y.num * x.den < 0) = true := decide_eq_true (by have := L1.mp h1; omega)
    rw [if_pos h1]
    simp -implicitDefEqProofs only [b_compare_q, b_compare_1t_q, b_compare_1f_q, b_compare_0, b_compare_1, b_compare_1t_0, b_compare_2, stL_cons, stL_nil, getS_some, t2_0, t2_1, pu_i, mul_ii, m1, m2, ck_true, sub_ii, lt_ii, d1, neg_i]
    exact ⟨_, rfl⟩
  · have d1 : decide (x.num * y.den - y.num * x.den < 0) = false := decide_eq_false (fun q => h1 (L1.mpr (by omega)))
    rw [if_neg h1]
    by_cases h2 : y < x
    · have d2 : decide (0 < x.num * y.den - y.num * x.den) = true := decide_eq_true (by have := L2.mp h2; omega)
      rw [if_pos h2]
      simp -implicitDefEqProofs only [b_compare_q, b_compare_1t_q, b_compare_1f_q, b_compare_0, b_compare_1, b_compare_1t_0, b_compare_2, stL_cons, stL_nil, getS_some, t2_0, t2_1, pu_i, mul_ii, m1, m2, ck_true, sub_ii, lt_ii, d1, d2]
      exact ⟨_, rfl⟩
    · have d2 : decide (0 < x.num * y.den - y.num * x.den) = false := decide_eq_false (fun q => h2 (L2.mpr (by omega)))
      rw [if_neg h2]
      simp -implicitDefEqProofs only [b_compare_q, b_compare_1t_q, b_compare_1f_q, b_compare_0, b_compare_1, b_compare_1t_0, b_compare_2, stL_cons, stL_nil, getS_some, t2_0, t2_1, pu_i, mul_ii, m1, m2, ck_true, sub_ii, lt_ii, d1, d2]
      exact ⟨_, rfl⟩
theorem lless_ok : ∃ fin, cl g wf (n + 1) "_law_less" [rt x, rt y] = .ret (.bl (decide (x < y))) fin := by
  have m1 := mulB hx.n hy.d (by omega)
  have m2 := mulB hy.n hx.d (by omega)
  have L1 : (x < y) = (x.num * y.den < y.num * x.den) := propext (Rat.lt_iff x y)
  rw [cl_run g wf n "_law_less" df_law_less _ (by kernel_rfl), show env0 df_law_less [rt x, rt y] = [some (rt x), some (rt y)] from rfl]
  simp -implicitDefEqProofs only [b_law_less_q, b_law_less_0, stL_cons, stL_nil, getS_some, t2_0, t2_1, pu_i, mul_ii, m1, m2, ck_true, lt_ii]
  exact ⟨_, by simp -implicitDefEqProofs only [L1]; rfl⟩
end
/-! the law's own -/
theorem rng_nat (m i n : Nat) : (List.range' i n).map (fun (i : Nat) => D.int (i : Int)) = (List.range' i n).map (fun (i : Nat) => D.int (i : Int)) := rfl
theorem fmod_nat (a b : Nat) : ((a : Int)).fmod (b : Int) = ((a % b : Nat) : Int) := by
  rw [Int.fmod_eq_emod_of_nonneg _ (by omega)]
  rfl
theorem bk_nx (E : Nx) (ρ : TI.Env) (f : TI.Env → Res) : ({ E with nx := f } : Nx).bk ρ = E.bk ρ := rfl
theorem gcd_loop (g : List D → Res) (wf n : Nat) (E : Nx) : ∀ (j i a b : Nat) (o : Option D), ∃ o', forC (fst g wf n df_law_gcd 59 (at1 b_law_gcd 0)) ((List.range' i j).map fun (i : Nat) => D.int (i : Int)) [some (.int (a : Int)), some (.int (b : Int)), o] E = E.nx [some (.int ((euc j a b).1 : Int)), some (.int ((euc j a b).2 : Int)), o'] := by
  intro j
  induction j with
  | zero => intro i a b o; exact ⟨o, rfl⟩
  | succ j ih =>
    intro i a b o
    rw [List.range'_succ, List.map_cons, forC_cons]
    by_cases hb : b = 0
    · subst hb
      refine ⟨some (.int (i : Int)), ?_⟩
      rw [show euc (j + 1) a 0 = (a, 0) from by unfold euc; rw [if_pos rfl]]
      simp -implicitDefEqProofs only [b_law_gcd_q, b_law_gcd_0b_q, b_law_gcd_0b_0t_q, b_law_gcd_0b_0f_q, b_law_gcd_0, b_law_gcd_0x, b_law_gcd_0b_0, b_law_gcd_0b_0t_0, b_law_gcd_0b_1, b_law_gcd_1, stL_cons, stL_nil, getS_some, eq_ii, decide_eq_true (show ((0 : Nat) : Int) = 0 from rfl)]
    · obtain ⟨o', e⟩ := ih (i + 1) b (a % b) (some (.int (i : Int)))
      refine ⟨o', ?_⟩
      rw [show euc (j + 1) a b = euc j b (a % b) from by rw [euc, if_neg hb]]
      simp -implicitDefEqProofs only [b_law_gcd_q, b_law_gcd_0b_q, b_law_gcd_0b_0t_q, b_law_gcd_0b_0f_q, b_law_gcd_0, b_law_gcd_0x, b_law_gcd_0b_0, b_law_gcd_0b_0t_0, b_law_gcd_0b_1, b_law_gcd_1, stL_cons, stL_nil, getS_some, eq_ii, decide_eq_false (show ¬ ((b : Nat) : Int) = 0 by omega), int_i, mod_ii, decide_eq_true (show ((b : Nat) : Int) ≠ 0 by omega), ck_true, fmod_nat, pu_i]
      exact e
theorem ret_i (i : Int) (a b : Res) : retK (.int i) a b = a := rfl
theorem lgcd_ok (g : List D → Res) (wf n : Nat) {k : Nat} (a b : Nat) (h : b < 2 ^ k) (hk : k ≤ 150) : ∃ fin, cl g wf (n + 1) "_law_gcd" [.int (a : Int), .int (b : Int)] = .ret (.int ((Nat.gcd a b : Nat) : Int)) fin := by
  rw [cl_run g wf n "_law_gcd" df_law_gcd _ (by kernel_rfl), show env0 df_law_gcd [.int (a : Int), .int (b : Int)] = [some (.int (a : Int)), some (.int (b : Int)), none] from rfl]
  obtain ⟨o', e⟩ := gcd_loop g wf n ⟨fun ρ1 => stL g wf n df_law_gcd 59 [at1 b_law_gcd 1] ρ1 (nx0 df_law_gcd.np), (nx0 df_law_gcd.np).bk, (nx0 df_law_gcd.np).ct, (nx0 df_law_gcd.np).rt⟩ 300 0 a b none
  rw [b_law_gcd_q, stL_cons, b_law_gcd_0, show smallI 300 = true from by decide, ck_true, show rngL 0 (300 : Int).toNat = _ from rngL_nat 300, e]
  dsimp only
  simp -implicitDefEqProofs only [b_law_gcd_q, b_law_gcd_0b_q, b_law_gcd_0b_0t_q, b_law_gcd_0b_0f_q, b_law_gcd_0, b_law_gcd_0x, b_law_gcd_0b_0, b_law_gcd_0b_0t_0, b_law_gcd_0b_1, b_law_gcd_1, stL_cons, stL_nil, getS_some, ret_i, euc_eq k 300 a b h (by omega)]
  exact ⟨_, rfl⟩
theorem abs_nat (a : Int) (k : D → Res) : dAbs (.int a) k = k (.int (a.natAbs : Int)) := by
  show k (.int (if a < 0 then -a else a)) = _
  congr 2
  split <;> omega
theorem unl_i' (x : Int) (o : Option (Option D)) : unlend (.int x) o = some (.int x) := rfl
theorem lratio_ok (g : List D → Res) (wf n : Nat) {q : Nat} (a : Int) {b : Int} (h : 0 < b) (hb : Bd q b) (e : q ≤ 150) : ∃ fin, cl g wf (n + 2) "_law_ratio" [.int a, .int b] = .ret (rt (Rat.divInt a b)) fin := by
  have hs : divOk (gcdI a b) = true := divB (gcd_pos a (by omega)) (bd_gcd a hb (by omega)) (by omega)
  obtain ⟨fin, e1⟩ := lgcd_ok g wf n a.natAbs b.natAbs hb e
  rw [show ((b.natAbs : Nat) : Int) = b by omega] at e1
  have e2 : ((Nat.gcd a.natAbs b.natAbs : Nat) : Int) = gcdI a b := rfl
  rw [e2] at e1
  rw [cl_run g wf (n + 1) "_law_ratio" df_law_ratio _ (by kernel_rfl), show env0 df_law_ratio [.int a, .int b] = [some (.int a), some (.int b), none] from rfl]
  simp -implicitDefEqProofs only [b_law_ratio_q, b_law_ratio_0, b_law_ratio_1, stL_cons, stL_nil, getS_some, abs_nat, e1, onRet_ret, unl_i', div_ii, hs, ck_true, pus_ii', num_f a h, den_f a h]
  exact ⟨_, rfl⟩
section
variable (g : List D → Res) (wf n : Nat) {p1 q1 p2 q2 : Nat} {x y : Rat} (hx : Bq p1 q1 x) (hy : Bq p2 q2 y) (s1 : p1 < 4000) (s2 : p2 < 4000) (s3 : q1 + q2 ≤ 150)
include hx hy s1 s2 s3
theorem lplus_ok : ∃ fin, cl g wf (n + 3) "_law_plus" [rt x, rt y] = .ret (rt (x + y)) fin := by
  have m1 := mulB hx.n hy.d (by omega)
  have m2 := mulB hy.n hx.d (by omega)
  have m3 := mulB hx.d hy.d (by omega)
  obtain ⟨fin, e⟩ := lratio_ok g wf n (x.num * y.den + y.num * x.den) (den_prod_pos x y) (hx.d.mul hy.d) (by omega)
  rw [plus_eq] at e
  rw [cl_run g wf (n + 2) "_law_plus" df_law_plus _ (by kernel_rfl), show env0 df_law_plus [rt x, rt y] = [some (rt x), some (rt y)] from rfl]
  simp -implicitDefEqProofs only [b_law_plus_q, b_law_plus_0, stL_cons, stL_nil, getS_some, t2_0, t2_1, pu_i, mul_ii, m1, m2, m3, ck_true, add_ii, e, onRet_ret]
  exact ⟨_, rfl⟩
theorem lminus_ok : ∃ fin, cl g wf (n + 3) "_law_minus" [rt x, rt y] = .ret (rt (x - y)) fin := by
  have m1 := mulB hx.n hy.d (by omega)
  have m2 := mulB hy.n hx.d (by omega)
  have m3 := mulB hx.d hy.d (by omega)
  obtain ⟨fin, e⟩ := lratio_ok g wf n (x.num * y.den - y.num * x.den) (den_prod_pos x y) (hx.d.mul hy.d) (by omega)
  rw [minus_eq] at e
  rw [cl_run g wf (n + 2) "_law_minus" df_law_minus _ (by kernel_rfl), show env0 df_law_minus [rt x, rt y] = [some (rt x), some (rt y)] from rfl]
  simp -implicitDefEqProofs only [b_law_minus_q, b_law_minus_0, stL_cons, stL_nil, getS_some, t2_0, t2_1, pu_i, mul_ii, m1, m2, m3, ck_true, sub_ii, e, onRet_ret]
  exact ⟨_, rfl⟩
theorem lproduct_ok : ∃ fin, cl g wf (n + 3) "_law_product" [rt x, rt y] = .ret (rt (x * y)) fin := by
  have m1 := mulB hx.n hy.n (by omega)
  have m3 := mulB hx.d hy.d (by omega)
  obtain ⟨fin, e⟩ := lratio_ok g wf n (x.num * y.num) (den_prod_pos x y) (hx.d.mul hy.d) (by omega)
  rw [mul_eq] at e
  rw [cl_run g wf (n + 2) "_law_product" df_law_product _ (by kernel_rfl), show env0 df_law_product [rt x, rt y] = [some (rt x), some (rt y)] from rfl]
  simp -implicitDefEqProofs only [b_law_product_q, b_law_product_0, stL_cons, stL_nil, getS_some, t2_0, t2_1, pu_i, mul_ii, m1, m3, ck_true, e, onRet_ret]
  exact ⟨_, rfl⟩
end
end K00
set_option Elab.async false
set_option linter.all false
set_option maxRecDepth 100000
set_option maxHeartbeats 4000000
/-! the defs of the text, as the evaluator runs them -/
namespace K00
open PySem PySem.Spec PyProof.Rows L2 TI
/-! BODY -/
/-! waves, waters -/
open RQ RW
abbrev cnD (c : Int × Rat) : D := .tup [.int c.1, rt c.2]
abbrev wvD (w : Wv) : D := .tup [.str "wave", .int w.L, .tup (w.cs.map cnD)]
abbrev tdD (h : Rat) (ws : List Wv) : D := .tup [.str "tide", rt h, .tup (ws.map wvD)]
/-! comprehensions -/
theorem lc_gen {α β : Type} (step : D → TI.Env → (Option D → TI.Env → Res) → Res) (enc : α → D) (f : α → Option D) (R : β → TI.Env) : ∀ (l : List α) (acc : List D) (b : β), (∀ a ∈ l, ∀ b, ∃ b', ∀ k2, step (enc a) (R b) k2 = k2 (f a) (R b')) → acc.length + l.length < szLine →
    ∃ b', ∀ k, lcC step (l.map enc) acc (R b) k = k (acc ++ l.filterMap f) (R b')
  | [], acc, b, h, hl => ⟨b, fun k => by rw [List.filterMap_nil, List.append_nil]; rfl⟩
  | a :: l, acc, b, h, hl => by
    obtain ⟨b1, h1⟩ := h a List.mem_cons_self b
    have hl' : acc.length + l.length + 1 < szLine := by rw [List.length_cons] at hl; omega
    cases hf : f a with
    | none =>
      obtain ⟨b2, h2⟩ := lc_gen step enc f R l acc b1 (fun x hx => h x (List.mem_cons_of_mem _ hx)) (by omega)
      refine ⟨b2, fun k => ?_⟩
      rw [List.map_cons, List.filterMap_cons_none hf, ← h2 k]
      show step (enc a) (R b) _ = _
      rw [h1, hf]
    | some y =>
      obtain ⟨b2, h2⟩ := lc_gen step enc f R l (acc ++ [y]) b1 (fun x hx => h x (List.mem_cons_of_mem _ hx)) (by rw [List.length_append]; show acc.length + 1 + l.length < szLine; omega)
      refine ⟨b2, fun k => ?_⟩
      rw [List.map_cons, List.filterMap_cons_some hf, show acc ++ y :: l.filterMap f = acc ++ [y] ++ l.filterMap f by simp, ← h2 k]
      show step (enc a) (R b) _ = _
      rw [h1, hf]
      show ckK (decide (acc.length < szLine)) _ = _
      rw [decide_eq_true (by omega), ck_true]
theorem filt_enc {α : Type} (p : α → Bool) (enc : α → D) : ∀ l : List α, l.filterMap (fun a => if p a then some (enc a) else none) = (l.filter p).map enc
  | [] => rfl
  | a :: l => by
    by_cases h : p a = true
    · rw [List.filterMap_cons_some (by simp -implicitDefEqProofs only [h, if_true] <;> rfl), List.filter_cons_of_pos h, List.map_cons, filt_enc p enc l]
    · rw [List.filterMap_cons_none (by simp -implicitDefEqProofs only [h]; rfl), List.filter_cons_of_neg h, filt_enc p enc l]
theorem map_enc {α : Type} (f : α → D) : ∀ l : List α, l.filterMap (fun a => some (f a)) = l.map f
  | [] => rfl
  | a :: l => by
    rw [List.filterMap_cons]
    show f a :: l.filterMap (fun a => some (f a)) = _
    rw [map_enc f l]
    rfl
/-! indices -/
theorem atI_last {α : Type} (l : List α) (a : α) : atI (l ++ [a]) (-1) = some a := by
  unfold atI ixN
  rw [if_neg (by omega), if_pos (by rw [List.length_append]; show -(((l.length + 1 : Nat) : Int)) ≤ -1; omega)]
  show (l ++ [a])[(-1 + (((l ++ [a]).length : Nat) : Int)).toNat]? = _
  rw [show (-1 + (((l ++ [a]).length : Nat) : Int)).toNat = l.length by rw [List.length_append]; show (-1 + ((l.length + 1 : Nat) : Int)).toNat = _; omega]
  simp
theorem snoc_last {α : Type} : ∀ (l : List α) (d : α), l ≠ [] → ∃ r, l = r ++ [l.getLastD d]
  | [], d, h => absurd rfl h
  | [a], d, h => ⟨[], rfl⟩
  | a :: b :: l, d, h => by
    obtain ⟨r, e⟩ := snoc_last (b :: l) a (by simp)
    exact ⟨a :: r, by rw [List.getLastD_cons]; exact congrArg (a :: ·) e⟩
theorem ixl_last {α : Type} (enc : α → D) (l : List α) (d : α) (h : l ≠ []) (k : D → Res) : dIx (.lst (l.map enc)) (.int (-1)) k = k (enc (l.getLastD d)) := by
  obtain ⟨r, e⟩ := snoc_last l d h
  show atK (l.map enc) (-1) k = _
  generalize l.getLastD d = a at e ⊢
  rw [e, List.map_append]
  unfold atK
  rw [show List.map enc [a] = [enc a] from rfl, atI_last]
theorem ixt_last {α : Type} (enc : α → D) (l : List α) (d : α) (h : l ≠ []) (k : D → Res) : dIx (.tup (l.map enc)) (.int (-1)) k = k (enc (l.getLastD d)) := ixl_last enc l d h k
theorem ixl_head {α : Type} (enc : α → D) (l : List α) (d : α) (h : l ≠ []) (k : D → Res) : dIx (.lst (l.map enc)) (.int 0) k = k (enc (l.headD d)) := by
  cases l with
  | nil => exact absurd rfl h
  | cons a r =>
    show atK ((a :: r).map enc) ((0 : Nat) : Int) k = _
    unfold atK
    rw [atI_nat _ 0 (by simp)]
    rfl
theorem ixt_head {α : Type} (enc : α → D) (l : List α) (d : α) (h : l ≠ []) (k : D → Res) : dIx (.tup (l.map enc)) (.int 0) k = k (enc (l.headD d)) := ixl_head enc l d h k
theorem tru_l0 (k : Bool → Res) : dTru (.lst []) k = k false := rfl
theorem tru_t0 (k : Bool → Res) : dTru (.tup []) k = k false := rfl
theorem tru_lm {α : Type} (enc : α → D) (l : List α) (h : l ≠ []) (k : Bool → Res) : dTru (.lst (l.map enc)) k = k true := by
  cases l with
  | nil => exact absurd rfl h
  | cons a r => rfl
theorem tru_tm {α : Type} (enc : α → D) (l : List α) (h : l ≠ []) (k : Bool → Res) : dTru (.tup (l.map enc)) k = k true := tru_lm enc l h k
theorem cut_from (l : List D) (n : Nat) (h : n ≤ l.length) : cutL l (some (n : Int)) none = l.drop n := by
  unfold cutL
  rw [HT.sIx_nat, HT.sIx_none, Nat.min_eq_left h]
  exact List.take_of_length_le (by rw [List.length_drop]; omega)
theorem sl_t (l : List D) (lo hi : Option Int) (k : D → Res) : dSl (.tup l) lo hi k = k (.tup (cutL l lo hi)) := rfl
theorem unp2 (a b : D) (k : List D → Res) : unpK 2 (.tup [a, b]) k = k [a, b] := rfl
theorem unp3 (a b c : D) (k : List D → Res) : unpK 3 (.tup [a, b, c]) k = k [a, b, c] := rfl
theorem cons_c (a : D) (l : List D) (k : D → List D → Res) : consK (a :: l) k = k a l := rfl
theorem nil_n (r : Res) : nilK [] r = r := rfl
theorem pu_tt (l : List D) : (!true || D.pu (.tup l)) = true := rfl
theorem pus_ir (i : Int) (r : Rat) (z : Res) : pusK [.int i, rt r] z = z := rfl
theorem hid1 (d : Option D) : True := trivial
/-! what stands behind a rest -/
theorem drop_filt : ∀ (l : List (Int × Rat)) (r : Int), l.Pairwise (fun a b => a.1 < b.1) → l.drop (l.filter fun c => decide (c.1 ≤ r)).length = l.filter fun c => decide (r < c.1)
  | [], r, _ => rfl
  | c :: l, r, h => by
    obtain ⟨h1, h2⟩ := List.pairwise_cons.mp h
    by_cases hc : c.1 ≤ r
    · rw [List.filter_cons_of_pos (by simp [hc]), List.filter_cons_of_neg (by simp; omega), List.length_cons, List.drop_succ_cons, drop_filt l r h2]
    · have a1 : ∀ x ∈ l, r < x.1 := fun x hx => by have := h1 x hx; omega
      rw [List.filter_cons_of_neg (by simp; omega), List.filter_cons_of_pos (by simp; omega)]
      rw [List.filter_eq_nil_iff.mpr (fun x hx => by have := a1 x hx; simp; omega), List.length_nil, List.drop_zero, List.filter_eq_self.mpr (fun x hx => by have := a1 x hx; simp; omega)]
theorem fmod_pos (a : Int) {b : Int} (h : 0 < b) : a.fmod b = a % b := Int.fmod_eq_emod_of_nonneg a (by omega)
abbrev loF (w : Wv) (r : Int) : List (Int × Rat) := w.cs.filter fun c => decide (c.1 ≤ r)
abbrev hiF (w : Wv) (r : Int) : List (Int × Rat) := w.cs.filter fun c => decide (r < c.1)
section
variable (g : List D → Res) (wf n : Nat) {w : Wv} (o : w.Ok) (hlen : w.cs.length < 1000)
include o hlen
theorem ha_lc (W T L C r x5 x6 x7 x8 x9 x10 x11 x12 : Option D) (v : Int) (hr : r = some (.int v)) : ∃ b', ∀ k, lcC (b_height_at_2_lc1 g wf n) (w.cs.map cnD) [] [W, T, L, C, r, x5, x6, x7, x8, x9, x10, x11, x12, none] k = k ((loF w v).map cnD) [W, T, L, C, r, x5, x6, x7, x8, x9, x10, x11, x12, b'] := by
  subst hr
  obtain ⟨b', h⟩ := lc_gen (b_height_at_2_lc1 g wf n) cnD (fun c => if decide (c.1 ≤ v) then some (cnD c) else none) (fun b => [W, T, L, C, some (.int v), x5, x6, x7, x8, x9, x10, x11, x12, b]) w.cs [] none (fun c _ b => ⟨some (cnD c), fun k2 => by
    rw [b_height_at_2_lc1_x]
    simp -implicitDefEqProofs only [t2_0, getS_some, le_ii]
    by_cases hc : c.1 ≤ v
    · rw [decide_eq_true hc]; rfl
    · rw [decide_eq_false hc]; rfl⟩) (by show 0 + w.cs.length < szLine; have : (1000 : Nat) ≤ szLine := by unfold szLine; omega
                                         omega)
  refine ⟨b', fun k => ?_⟩
  have := h k
  rw [filt_enc (fun c : Int × Rat => decide (c.1 ≤ v)) cnD] at this
  exact this
theorem ha_4 (W T C r x6 x7 x8 x9 x10 x11 x12 x13 : Option D) (v : Int) (E : Nx) (hC : C = some (.tup (w.cs.map cnD))) : st1 g wf n df_height_at 55 (at1 b_height_at 4) [W, T, some (.int w.L), C, r, some (.lst ((loF w v).map cnD)), x6, x7, x8, x9, x10, x11, x12, x13] E =
    E.nx [W, T, some (.int w.L), C, r, some (.lst ((loF w v).map cnD)), x6, some (.int (lef w v).1), some (.int (lef w v).2.num), some (.int ((lef w v).2.den : Int)), x10, x11, x12, x13] := by
  subst hC
  rw [b_height_at_4]
  by_cases h : loF w v = []
  · have e : lef w v = ((lst w).1 - w.L, (lst w).2) := by show (loF w v).getLastD _ = _; rw [h]; rfl
    rw [h, e]
    simp -implicitDefEqProofs only [List.map_nil, getS_some, tru_l0, neg_i, ixt_last cnD w.cs (0, 0) o.ne, t2_0, t2_1, sub_ii, pu_t, pus_ir, pu_tt, ck_true, unp2, cons_c, nil_n]
    rfl
  · have e : lef w v = (loF w v).getLastD ((lst w).1 - w.L, (lst w).2) := rfl
    simp -implicitDefEqProofs only [getS_some, tru_lm cnD _ h, neg_i, ixl_last cnD _ ((lst w).1 - w.L, (lst w).2) h, ← e, pu_tt, ck_true, unp2, cons_c, nil_n]
theorem ha_5 (W T C r x5 x7 x8 x9 x10 x11 x12 x13 : Option D) (v : Int) (E : Nx) (hC : C = some (.tup (w.cs.map cnD))) : st1 g wf n df_height_at 54 (at1 b_height_at 5) [W, T, some (.int w.L), C, r, x5, some (.tup ((hiF w v).map cnD)), x7, x8, x9, x10, x11, x12, x13] E =
    E.nx [W, T, some (.int w.L), C, r, x5, some (.tup ((hiF w v).map cnD)), x7, x8, x9, some (.int (rig w v).1), some (.int (rig w v).2.num), some (.int ((rig w v).2.den : Int)), x13] := by
  subst hC
  rw [b_height_at_5]
  by_cases h : hiF w v = []
  · have e : rig w v = ((RW.fst w).1 + w.L, (RW.fst w).2) := by show (hiF w v).headD _ = _; rw [h]; rfl
    rw [h, e]
    simp -implicitDefEqProofs only [List.map_nil, getS_some, tru_t0, ixt_head cnD w.cs (0, 0) o.ne, t2_0, t2_1, add_ii, pu_t, pus_ir, pu_tt, ck_true, unp2, cons_c, nil_n]
    rfl
  · have e : rig w v = (hiF w v).headD ((RW.fst w).1 + w.L, (RW.fst w).2) := rfl
    simp -implicitDefEqProofs only [getS_some, tru_tm cnD _ h, ixt_head cnD _ ((RW.fst w).1 + w.L, (RW.fst w).2) h, ← e, pu_tt, ck_true, unp2, cons_c, nil_n]
theorem ha_3 (W T L r x6 x7 x8 x9 x10 x11 x12 x13 : Option D) (v : Int) (E : Nx) : st1 g wf n df_height_at 56 (at1 b_height_at 3) [W, T, L, some (.tup (w.cs.map cnD)), r, some (.lst ((loF w v).map cnD)), x6, x7, x8, x9, x10, x11, x12, x13] E =
    E.nx [W, T, L, some (.tup (w.cs.map cnD)), r, some (.lst ((loF w v).map cnD)), some (.tup ((hiF w v).map cnD)), x7, x8, x9, x10, x11, x12, x13] := by
  rw [b_height_at_3]
  simp -implicitDefEqProofs only [getS_some, len_l, asI_i, sl_t]
  rw [cut_from _ _ (by rw [List.length_map, List.length_map]; exact List.length_filter_le _ _), List.length_map, ← List.map_drop, drop_filt _ _ o.asc]
/-- height_at -/
theorem height_ok {k p q : Nat} (b : w.Bd k p q) (hk : k < 1000) (hp : p < 1000) (hq : q < 1000) (t : Int) : ∃ fin, cl g wf (n + 2) "height_at" [wvD w, .int t] = .ret (rt (hAt w t)) fin := by
  have hL := o.pos
  obtain ⟨g1, g2, g3⟩ := gap_bd o b t
  have hl := lef_bq o b (t % w.L)
  have hr := rig_bq o b (t % w.L)
  have hh := hAt_prog w o t
  generalize hv : t % w.L = v at *
  have m1 := mulB hl.n hr.d (by omega)
  have m2 := mulB (hl.n.mul hr.d) g2 (by omega)
  have m3 := mulB hr.n hl.d (by omega)
  have m4 := mulB g3 (((hr.n.mul hl.d).mono (show p + q ≤ p + q from Nat.le_refl _)).sub (hl.n.mul hr.d)) (by omega)
  have m5 := mulB hl.d hr.d (by omega)
  have m6 := mulB (hl.d.mul hr.d) g2 (by omega)
  obtain ⟨fin, e⟩ := ratio_ok g wf n ((lef w v).2.num * (rig w v).2.den * ((rig w v).1 - (lef w v).1) + (v - (lef w v).1) * ((rig w v).2.num * (lef w v).2.den - (lef w v).2.num * (rig w v).2.den)) (b := (lef w v).2.den * (rig w v).2.den * ((rig w v).1 - (lef w v).1)) (Int.mul_pos (den_prod_pos _ _) g1) ((hl.d.mul hr.d).mul g2) (by omega)
  rw [hh] at e
  rw [cl_run g wf (n + 1) "height_at" df_height_at _ (by kernel_rfl), show env0 df_height_at [wvD w, .int t] = [some (wvD w), some (.int t), none, none, none, none, none, none, none, none, none, none, none, none] from rfl]
  obtain ⟨b', lc⟩ := ha_lc g wf (n + 1) o hlen (some (wvD w)) (some (.int t)) (some (.int w.L)) (some (.tup (w.cs.map cnD))) (some (.int v)) none none none none none none none none v rfl
  rw [b_height_at_q, stL_cons, b_height_at_0]
  simp -implicitDefEqProofs only [getS_some, t3_1, t3_2, pu_i, pu_t]
  rw [stL_cons, b_height_at_1]
  simp -implicitDefEqProofs only [getS_some, mod_ii, decide_eq_true (show w.L ≠ 0 by omega), ck_true, fmod_pos t hL, hv]
  rw [stL_cons, b_height_at_2]
  simp -implicitDefEqProofs only [lock_t, getS_some, seq_t]
  rw [show hidOk [some (wvD w), some (.int t), some (.int w.L), some (.tup (w.cs.map cnD)), some (.int v), none, none, none, none, none, none, none, none, none] [13] = true from rfl, ck_true, lc]
  rw [show (wipeB [some (wvD w), some (.int t), some (.int w.L), some (.tup (w.cs.map cnD)), some (.int v), none, none, none, none, none, none, none, none, b'] [some (wvD w), some (.int t), some (.int w.L), some (.tup (w.cs.map cnD)), some (.int v), none, none, none, none, none, none, none, none, none] [13]).set 5 (some (.lst ((loF w v).map cnD))) = [some (wvD w), some (.int t), some (.int w.L), some (.tup (w.cs.map cnD)), some (.int v), some (.lst ((loF w v).map cnD)), none, none, none, none, none, none, none, none] from rfl]
  rw [stL_cons, ha_3 g wf (n + 1) o hlen]
  dsimp only
  rw [stL_cons, ha_4 g wf (n + 1) o hlen _ _ _ _ _ _ _ _ _ _ _ _ _ _ rfl]
  dsimp only
  rw [stL_cons, ha_5 g wf (n + 1) o hlen _ _ _ _ _ _ _ _ _ _ _ _ _ _ rfl]
  dsimp only
  rw [stL_cons, b_height_at_6]
  simp -implicitDefEqProofs only [getS_some, mul_ii, m1, m2, m3, m4, m5, m6, ck_true, sub_ii, add_ii, e, onRet_ret]
  exact ⟨_, rfl⟩
/-! the law's own wave -/
theorem lw_2 (W T L C r x5 x6 x7 x8 x9 : Option D) (v : Int) (hr : r = some (.int v)) : ∃ b', ∀ k, lcC (b_law_wave_at_2_lc1 g wf n) (w.cs.map cnD) [] [W, T, L, C, r, x5, x6, x7, x8, x9, none] k = k ((hiF w v).map cnD) [W, T, L, C, r, x5, x6, x7, x8, x9, b'] := by
  subst hr
  obtain ⟨b', h⟩ := lc_gen (b_law_wave_at_2_lc1 g wf n) cnD (fun c => if decide (v < c.1) then some (cnD c) else none) (fun b => [W, T, L, C, some (.int v), x5, x6, x7, x8, x9, b]) w.cs [] none (fun c _ b => ⟨some (cnD c), fun k2 => by
    rw [b_law_wave_at_2_lc1_x]
    simp -implicitDefEqProofs only [t2_0, getS_some, lt_ii]
    by_cases hc : v < c.1
    · rw [decide_eq_true hc]; rfl
    · rw [decide_eq_false hc]; rfl⟩) (by show 0 + w.cs.length < szLine; have : (1000 : Nat) ≤ szLine := by unfold szLine; omega
                                         omega)
  refine ⟨b', fun k => ?_⟩
  have := h k
  rw [filt_enc (fun c : Int × Rat => decide (v < c.1)) cnD] at this
  exact this
theorem lw_3 (W T L C r x5 x6 x7 x8 x9 : Option D) (v : Int) (hr : r = some (.int v)) : ∃ b', ∀ k, lcC (b_law_wave_at_3_lc1 g wf n) (w.cs.map cnD) [] [W, T, L, C, r, x5, x6, x7, x8, x9, none] k = k ((loF w v).map cnD) [W, T, L, C, r, x5, x6, x7, x8, x9, b'] := by
  subst hr
  obtain ⟨b', h⟩ := lc_gen (b_law_wave_at_3_lc1 g wf n) cnD (fun c => if decide (c.1 ≤ v) then some (cnD c) else none) (fun b => [W, T, L, C, some (.int v), x5, x6, x7, x8, x9, b]) w.cs [] none (fun c _ b => ⟨some (cnD c), fun k2 => by
    rw [b_law_wave_at_3_lc1_x]
    simp -implicitDefEqProofs only [t2_0, getS_some, le_ii]
    by_cases hc : c.1 ≤ v
    · rw [decide_eq_true hc]; rfl
    · rw [decide_eq_false hc]; rfl⟩) (by show 0 + w.cs.length < szLine; have : (1000 : Nat) ≤ szLine := by unfold szLine; omega
                                         omega)
  refine ⟨b', fun k => ?_⟩
  have := h k
  rw [filt_enc (fun c : Int × Rat => decide (c.1 ≤ v)) cnD] at this
  exact this
omit o hlen in
theorem add_ll {a b : List D} (ha : D.pus a = true) (hb : D.pus b = true) (hl : a.length + b.length ≤ szLine) (k : D → Res) : dAdd (.lst a) (.lst b) k = k (.lst (a ++ b)) := by
  show ckK (decide (a.length + b.length ≤ szLine)) (pusK a (pusK b (k (.lst (a ++ b))))) = _
  rw [decide_eq_true hl, ck_true, pusK_t ha, pusK_t hb]
omit o hlen in
theorem cn_pus : ∀ l : List (Int × Rat), D.pus (l.map cnD) = true
  | [] => rfl
  | c :: l => cn_pus l
omit o hlen in
theorem hi_head (v : Int) (d : Int × Rat) : (hiF w v ++ [((RW.fst w).1 + w.L, (RW.fst w).2)]).headD d = rig w v := by
  show _ = (hiF w v).headD _
  cases hiF w v <;> rfl
omit o hlen in
theorem lo_last (v : Int) (d : Int × Rat) : (((lst w).1 - w.L, (lst w).2) :: loF w v).getLastD d = lef w v := by
  rw [List.getLastD_cons]
  rfl
theorem lwave_ok {k p q : Nat} (b : w.Bd k p q) (hk : p < 1000) (hq : 2 * q + k + 1 ≤ 100) (t : Int) : ∃ fin, cl g wf (n + 4) "_law_wave_at" [wvD w, .int t] = .ret (rt (hAt w t)) fin := by
  have hL := o.pos
  obtain ⟨g1, g2, g3⟩ := gap_bd o b t
  have hl := lef_bq o b (t % w.L)
  have hr := rig_bq o b (t % w.L)
  have hh := hAt_law w o t
  have hz : (1000 : Nat) + 1000 ≤ szLine := by unfold szLine; omega
  generalize hv : t % w.L = v at *
  have hd := Bq.sub hr hl (p := p + q) (by omega) (by omega)
  have m1 := mulB hd.n g3 (by omega)
  have m2 := mulB hd.d g2 (by omega)
  obtain ⟨f1, e1⟩ := lminus_ok g wf n hr hl (by omega) (by omega) (by omega)
  obtain ⟨f2, e2⟩ := lratio_ok g wf (n + 1) (((rig w v).2 - (lef w v).2).num * (v - (lef w v).1)) (b := ((rig w v).2 - (lef w v).2).den * ((rig w v).1 - (lef w v).1)) (Int.mul_pos (den_pos _) g1) (hd.d.mul g2) (by omega)
  have hx := bq_divInt (hd.n.mul g3) (hd.d.mul g2) (Int.mul_pos (den_pos _) g1)
  obtain ⟨f3, e3⟩ := lplus_ok g wf n hl hx (by omega) (by omega) (by omega)
  rw [hh] at e3
  obtain ⟨b2, lc2⟩ := lw_2 g wf (n + 3) o hlen (some (wvD w)) (some (.int t)) (some (.int w.L)) (some (.tup (w.cs.map cnD))) (some (.int v)) none none none none none v rfl
  have fl1 : (hiF w v).length ≤ w.cs.length := List.length_filter_le _ _
  have fl2 : (loF w v).length ≤ w.cs.length := List.length_filter_le _ _
  obtain ⟨b3, lc3⟩ := lw_3 g wf (n + 3) o hlen (some (wvD w)) (some (.int t)) (some (.int w.L)) (some (.tup (w.cs.map cnD))) (some (.int v)) (some (.lst ((hiF w v ++ [((RW.fst w).1 + w.L, (RW.fst w).2)]).map cnD))) none none none none v rfl
  rw [cl_run g wf (n + 3) "_law_wave_at" df_law_wave_at _ (by kernel_rfl), show env0 df_law_wave_at [wvD w, .int t] = [some (wvD w), some (.int t), none, none, none, none, none, none, none, none, none] from rfl]
  rw [b_law_wave_at_q, stL_cons, b_law_wave_at_0]
  simp -implicitDefEqProofs only [getS_some, t3_1, t3_2, pu_i, pu_t]
  rw [stL_cons, b_law_wave_at_1]
  simp -implicitDefEqProofs only [getS_some, int_i, mod_ii, decide_eq_true (show w.L ≠ 0 by omega), ck_true, fmod_pos t hL, hv]
  rw [stL_cons, b_law_wave_at_2]
  simp -implicitDefEqProofs only [lock_t, getS_some, seq_t]
  rw [show hidOk [some (wvD w), some (.int t), some (.int w.L), some (.tup (w.cs.map cnD)), some (.int v), none, none, none, none, none, none] [10] = true from rfl, ck_true, lc2]
  rw [show wipeB [some (wvD w), some (.int t), some (.int w.L), some (.tup (w.cs.map cnD)), some (.int v), none, none, none, none, none, b2] [some (wvD w), some (.int t), some (.int w.L), some (.tup (w.cs.map cnD)), some (.int v), none, none, none, none, none, none] [10] = [some (wvD w), some (.int t), some (.int w.L), some (.tup (w.cs.map cnD)), some (.int v), none, none, none, none, none, none] from rfl]
  rw [show (getK [some (wvD w), some (.int t), some (.int w.L), some (.tup (w.cs.map cnD)), some (.int v), none, none, none, none, none, none] 3) = fun k => k (.tup (w.cs.map cnD)) from rfl, show (getK [some (wvD w), some (.int t), some (.int w.L), some (.tup (w.cs.map cnD)), some (.int v), none, none, none, none, none, none] 2) = fun k => k (.int w.L) from rfl]
  simp -implicitDefEqProofs only [ixt_head cnD w.cs (0, 0) o.ne, t2_0, t2_1, add_ii, pu_t, pus_ir]
  rw [show w.cs.headD (0, 0) = RW.fst w from rfl]
  rw [add_ll (cn_pus _) (b := [.tup [.int ((RW.fst w).1 + w.L), rt (RW.fst w).2]]) rfl (by rw [List.length_map]; show (hiF w v).length + 1 ≤ szLine; omega)]
  rw [show (hiF w v).map cnD ++ [.tup [.int ((RW.fst w).1 + w.L), rt (RW.fst w).2]] = (hiF w v ++ [((RW.fst w).1 + w.L, (RW.fst w).2)]).map cnD from by rw [List.map_append]; rfl]
  rw [show ([some (wvD w), some (.int t), some (.int w.L), some (.tup (w.cs.map cnD)), some (.int v), none, none, none, none, none, none] : TI.Env).set 5 (some (.lst ((hiF w v ++ [((RW.fst w).1 + w.L, (RW.fst w).2)]).map cnD))) = [some (wvD w), some (.int t), some (.int w.L), some (.tup (w.cs.map cnD)), some (.int v), some (.lst ((hiF w v ++ [((RW.fst w).1 + w.L, (RW.fst w).2)]).map cnD)), none, none, none, none, none] from rfl]
  rw [stL_cons, b_law_wave_at_3]
  simp -implicitDefEqProofs only [getS_some, neg_i, ixt_last cnD w.cs (0, 0) o.ne, t2_0, t2_1, sub_ii, pu_t, pus_ir, lock_t, seq_t]
  rw [show hidOk [some (wvD w), some (.int t), some (.int w.L), some (.tup (w.cs.map cnD)), some (.int v), some (.lst ((hiF w v ++ [((RW.fst w).1 + w.L, (RW.fst w).2)]).map cnD)), none, none, none, none, none] [10] = true from rfl, ck_true, lc3]
  rw [add_ll (a := [.tup [.int ((w.cs.getLastD (0, 0)).1 - w.L), rt (w.cs.getLastD (0, 0)).2]]) rfl (cn_pus _) (by rw [List.length_map]; show 1 + (loF w v).length ≤ szLine; omega)]
  rw [show ([.tup [.int ((w.cs.getLastD (0, 0)).1 - w.L), rt (w.cs.getLastD (0, 0)).2]] : List D) ++ (loF w v).map cnD = (((lst w).1 - w.L, (lst w).2) :: loF w v).map cnD from rfl]
  rw [show (wipeB [some (wvD w), some (.int t), some (.int w.L), some (.tup (w.cs.map cnD)), some (.int v), some (.lst ((hiF w v ++ [((RW.fst w).1 + w.L, (RW.fst w).2)]).map cnD)), none, none, none, none, b3] [some (wvD w), some (.int t), some (.int w.L), some (.tup (w.cs.map cnD)), some (.int v), some (.lst ((hiF w v ++ [((RW.fst w).1 + w.L, (RW.fst w).2)]).map cnD)), none, none, none, none, none] [10]).set 6 (some (.lst ((((lst w).1 - w.L, (lst w).2) :: loF w v).map cnD))) = [some (wvD w), some (.int t), some (.int w.L), some (.tup (w.cs.map cnD)), some (.int v), some (.lst ((hiF w v ++ [((RW.fst w).1 + w.L, (RW.fst w).2)]).map cnD)), some (.lst ((((lst w).1 - w.L, (lst w).2) :: loF w v).map cnD)), none, none, none, none] from rfl]
  rw [stL_cons, b_law_wave_at_4]
  simp -implicitDefEqProofs only [getS_some, neg_i, ixl_last cnD (((lst w).1 - w.L, (lst w).2) :: loF w v) (0, 0) (by simp), ixl_head cnD (hiF w v ++ [((RW.fst w).1 + w.L, (RW.fst w).2)]) (0, 0) (by simp), hi_head, lo_last, pu_t]
  rw [stL_cons, b_law_wave_at_5]
  simp -implicitDefEqProofs only [getS_some, t2_1, pu_t, e1, onRet_ret]
  rw [stL_cons, b_law_wave_at_6]
  simp -implicitDefEqProofs only [getS_some, t2_0, t2_1, pu_i, pu_t, sub_ii, mul_ii, m1, m2, ck_true, e2, e3, onRet_ret]
  exact ⟨_, rfl⟩
end
end K00
set_option Elab.async false
set_option linter.all false
set_option maxRecDepth 100000
set_option maxHeartbeats 4000000
/-! the defs of the text, as the evaluator runs them -/
namespace K00
open PySem PySem.Spec PyProof.Rows L2 TI
/-! BODY -/
/-! waters; tides made of tides -/
open RQ RW
/-- what of a wave is asked -/
structure Wok (k p q : Nat) (w : Wv) : Prop where
  o : w.Ok
  len : w.cs.length < 1000
  b : w.Bd k p q
theorem unl_t (l : List D) (x : Option (Option D)) : unlend (.tup l) x = some (.tup l) := rfl
theorem ret_rt (r : Rat) (a b : Res) : retK (rt r) a b = a := rfl
section
variable (g : List D → Res) (wf n : Nat) {k p q c : Nat} (hk : k < 1000) (hp : p < 1000) (hq : q < 1000)
include hk hp hq
theorem water_loop (T : Option D) (t : Int) (E : Nx) : ∀ (ws : List Wv) (P Q : Nat) (h : Rat) (o3 : Option D), (∀ w ∈ ws, Wok k p q w) → Bq P Q h → Q + ws.length * (3 * q + k + 1) + (p + 2 * q + 3 + k) + 1 + (3 * q + k + 1) ≤ c → P + ws.length * c < 4000 → Q + ws.length * (3 * q + k + 1) < 4000 → c < 4000 →
    (∃ o3', forC (fst g wf (n + 2) df_water 58 (at1 b_water 1)) (ws.map wvD) [T, some (.int t), some (rt h), o3] E = E.nx [T, some (.int t), some (rt (wat h ws t)), o3']) ∧ Bq (P + ws.length * c) (Q + ws.length * (3 * q + k + 1)) (wat h ws t)
  | [], P, Q, h, o3, _, hh, _, _, _, _ => ⟨⟨o3, rfl⟩, by simpa [wat] using hh⟩
  | w :: ws, P, Q, h, o3, hw, hh, hc, h1, h2, h3 => by
    have W := hw w List.mem_cons_self
    rw [List.length_cons, Nat.succ_mul] at hc h1 h2
    obtain ⟨f1, e1⟩ := height_ok g wf n W.o W.len W.b hk hp hq t
    have hb := hAt_bq W.o W.b t
    obtain ⟨f2, e2⟩ := plus_ok g wf n hh hb (by omega) (by omega) (by omega) (by omega)
    have hn : Bq (P + c) (Q + (3 * q + k + 1)) (h + hAt w t) := (Bq.add hh hb (p := P + (3 * q + k + 1) + (p + 2 * q + 3 + k) + Q) (by omega) (by omega)).mono (by omega) (by omega)
    obtain ⟨⟨o3', e3⟩, r3⟩ := water_loop T t E ws (P + c) (Q + (3 * q + k + 1)) (h + hAt w t) (some (wvD w)) (fun x hx => hw x (List.mem_cons_of_mem _ hx)) hn (by omega) (by omega) (by omega) h3
    refine ⟨⟨o3', ?_⟩, ?_⟩
    · rw [List.map_cons, forC_cons]
      simp -implicitDefEqProofs only [b_water_q, b_water_1b_q, b_water_0, b_water_1, b_water_1x, b_water_1b_0, b_water_2, stL_cons, stL_nil, getS_some, e1, e2, onRet_ret, unl_i, unl_t]
      exact e3
    · rw [List.length_cons, Nat.succ_mul, Nat.succ_mul, show P + (ws.length * c + c) = P + c + ws.length * c by omega, show Q + (ws.length * (3 * q + k + 1) + (3 * q + k + 1)) = Q + (3 * q + k + 1) + ws.length * (3 * q + k + 1) by omega]
      exact r3
theorem water_ok (ws : List Wv) {P Q : Nat} {h : Rat} (t : Int) (hw : ∀ w ∈ ws, Wok k p q w) (hh : Bq P Q h) (hc : Q + ws.length * (3 * q + k + 1) + (p + 2 * q + 3 + k) + 1 + (3 * q + k + 1) ≤ c) (h1 : P + ws.length * c < 4000) (h2 : Q + ws.length * (3 * q + k + 1) < 4000) (h3 : c < 4000) :
    (∃ fin, cl g wf (n + 3) "water" [tdD h ws, .int t] = .ret (rt (wat h ws t)) fin) ∧ Bq (P + ws.length * c) (Q + ws.length * (3 * q + k + 1)) (wat h ws t) := by
  rw [cl_run g wf (n + 2) "water" df_water _ (by kernel_rfl), show env0 df_water [tdD h ws, .int t] = [some (tdD h ws), some (.int t), none, none] from rfl]
  obtain ⟨⟨o3', e⟩, r⟩ := water_loop g wf n hk hp hq (some (tdD h ws)) t ⟨fun ρ1 => stL g wf (n + 2) df_water 58 [at1 b_water 2] ρ1 (nx0 df_water.np), (nx0 df_water.np).bk, (nx0 df_water.np).ct, (nx0 df_water.np).rt⟩ ws P Q h none hw hh hc h1 h2 h3
  refine ⟨?_, r⟩
  rw [b_water_q, stL_cons, b_water_0]
  simp -implicitDefEqProofs only [getS_some, t3_1, pu_t]
  rw [stL_cons, b_water_1]
  simp -implicitDefEqProofs only [getS_some, t3_2, seq_t]
  rw [e]
  dsimp only
  rw [stL_cons, b_water_2]
  simp -implicitDefEqProofs only [getS_some, ret_rt]
  exact ⟨_, rfl⟩
theorem lwater_loop (T : Option D) (t : Int) (E : Nx) (hq2 : 2 * q + k + 1 ≤ 100) : ∀ (ws : List Wv) (P Q : Nat) (h : Rat) (o3 : Option D), (∀ w ∈ ws, Wok k p q w) → Bq P Q h → Q + ws.length * (3 * q + k + 1) + (p + 2 * q + 3 + k) + 1 + (3 * q + k + 1) ≤ c → P + ws.length * c < 4000 → Q + ws.length * (3 * q + k + 1) ≤ 150 → c < 4000 →
    (∃ o3', forC (fst g wf (n + 4) df_law_water 58 (at1 b_law_water 1)) (ws.map wvD) [T, some (.int t), some (rt h), o3] E = E.nx [T, some (.int t), some (rt (wat h ws t)), o3'])
  | [], P, Q, h, o3, _, hh, _, _, _, _ => ⟨o3, rfl⟩
  | w :: ws, P, Q, h, o3, hw, hh, hc, h1, h2, h3 => by
    have W := hw w List.mem_cons_self
    rw [List.length_cons, Nat.succ_mul] at hc h1 h2
    obtain ⟨f1, e1⟩ := lwave_ok g wf n W.o W.len W.b hp hq2 t
    have hb := hAt_bq W.o W.b t
    obtain ⟨f2, e2⟩ := lplus_ok g wf (n + 1) hh hb (by omega) (by omega) (by omega)
    have hn : Bq (P + c) (Q + (3 * q + k + 1)) (h + hAt w t) := (Bq.add hh hb (p := P + (3 * q + k + 1) + (p + 2 * q + 3 + k) + Q) (by omega) (by omega)).mono (by omega) (by omega)
    obtain ⟨o3', e3⟩ := lwater_loop T t E hq2 ws (P + c) (Q + (3 * q + k + 1)) (h + hAt w t) (some (wvD w)) (fun x hx => hw x (List.mem_cons_of_mem _ hx)) hn (by omega) (by omega) (by omega) h3
    refine ⟨o3', ?_⟩
    rw [List.map_cons, forC_cons]
    simp -implicitDefEqProofs only [b_law_water_q, b_law_water_1b_q, b_law_water_0, b_law_water_1, b_law_water_1x, b_law_water_1b_0, b_law_water_2, stL_cons, stL_nil, getS_some, e1, e2, onRet_ret, unl_i, unl_t]
    exact e3
theorem lwater_ok (hq2 : 2 * q + k + 1 ≤ 100) (ws : List Wv) {P Q : Nat} {h : Rat} (t : Int) (hw : ∀ w ∈ ws, Wok k p q w) (hh : Bq P Q h) (hc : Q + ws.length * (3 * q + k + 1) + (p + 2 * q + 3 + k) + 1 + (3 * q + k + 1) ≤ c) (h1 : P + ws.length * c < 4000) (h2 : Q + ws.length * (3 * q + k + 1) ≤ 150) (h3 : c < 4000) :
    (∃ fin, cl g wf (n + 5) "_law_water" [tdD h ws, .int t] = .ret (rt (wat h ws t)) fin) := by
  rw [cl_run g wf (n + 4) "_law_water" df_law_water _ (by kernel_rfl), show env0 df_law_water [tdD h ws, .int t] = [some (tdD h ws), some (.int t), none, none] from rfl]
  obtain ⟨o3', e⟩ := lwater_loop g wf n hk hp hq (some (tdD h ws)) t ⟨fun ρ1 => stL g wf (n + 4) df_law_water 58 [at1 b_law_water 2] ρ1 (nx0 df_law_water.np), (nx0 df_law_water.np).bk, (nx0 df_law_water.np).ct, (nx0 df_law_water.np).rt⟩ hq2 ws P Q h none hw hh hc h1 h2 h3
  rw [b_law_water_q, stL_cons, b_law_water_0]
  simp -implicitDefEqProofs only [getS_some, t3_1, pu_t]
  rw [stL_cons, b_law_water_1]
  simp -implicitDefEqProofs only [getS_some, t3_2, seq_t]
  rw [e]
  dsimp only
  rw [stL_cons, b_law_water_2]
  simp -implicitDefEqProofs only [getS_some, ret_rt]
  exact ⟨_, rfl⟩
end
/-! later -/
def mvC (L s : Int) (c : Int × Rat) : Int × Rat := ((c.1 + s) % L, c.2)
def mvW (s : Int) (w : Wv) : Wv := ⟨w.L, srtK (fun c => c.1) (w.cs.map (mvC w.L s))⟩
theorem mod_inj {L a b s : Int} (ha : 0 ≤ a) (ha' : a < L) (hb : 0 ≤ b) (hb' : b < L) (h : (a + s) % L = (b + s) % L) : a = b := by
  have h1 : (a + s - s) % L = (b + s - s) % L := by rw [Int.sub_emod, h, ← Int.sub_emod]
  rw [show a + s - s = a by omega, show b + s - s = b by omega, Int.emod_eq_of_lt ha ha', Int.emod_eq_of_lt hb hb'] at h1
  exact h1
theorem mv_nodup {L : Int} (s : Int) : ∀ {l : List (Int × Rat)}, l.Pairwise (fun a b => a.1 < b.1) → (∀ c ∈ l, 0 ≤ c.1 ∧ c.1 < L) → ((l.map (mvC L s)).map (·.1)).Nodup
  | [], _, _ => List.nodup_nil
  | c :: l, h, hb => by
    obtain ⟨h1, h2⟩ := List.pairwise_cons.mp h
    rw [List.map_cons, List.map_cons, List.nodup_cons]
    refine ⟨fun hm => ?_, mv_nodup s h2 fun x hx => hb x (List.mem_cons_of_mem _ hx)⟩
    obtain ⟨y, hy, e⟩ := List.mem_map.mp hm
    obtain ⟨x, hx, rfl⟩ := List.mem_map.mp hy
    have b1 := hb c List.mem_cons_self
    have b2 := hb x (List.mem_cons_of_mem _ hx)
    have := mod_inj b2.1 b2.2 b1.1 b1.2 e
    have := h1 x hx
    omega
theorem strict_of {l : List (Int × Rat)} (h : l.Pairwise (fun a b => a.1 ≤ b.1)) (hn : (l.map (·.1)).Nodup) : l.Pairwise (fun a b => a.1 < b.1) := by
  rw [List.Nodup, List.pairwise_map] at hn
  refine List.Pairwise.imp₂ (fun a b h1 h2 => ?_) h hn
  omega
theorem mvW_ok {w : Wv} (o : w.Ok) (s : Int) : (mvW s w).Ok := by
  have hp := o.pos
  have P := srtK_perm (fun c : Int × Rat => c.1) (w.cs.map (mvC w.L s))
  have hm : ∀ c ∈ (mvW s w).cs, 0 ≤ c.1 ∧ c.1 < w.L := fun c hc => by
    obtain ⟨x, hx, rfl⟩ := List.mem_map.mp (P.mem_iff.mp hc)
    exact ⟨Int.emod_nonneg _ (by omega), Int.emod_lt_of_pos _ hp⟩
  refine ⟨hp, ?_, ?_, fun c hc => (hm c hc).1, fun c hc => (hm c hc).2⟩
  · intro e
    have : (mvW s w).cs.length = w.cs.length := by rw [show (mvW s w).cs.length = _ from P.length_eq, List.length_map]
    rw [e] at this
    exact o.ne (List.eq_nil_of_length_eq_zero this.symm)
  · refine strict_of (srtK_asc _ _) ?_
    exact ((P.map (fun c : Int × Rat => c.1)).nodup_iff).mpr (mv_nodup s o.asc fun c hc => ⟨o.lo c hc, o.hi c hc⟩)
theorem mvW_wok {k p q : Nat} {w : Wv} (W : Wok k p q w) (s : Int) : Wok k p q (mvW s w) := by
  have P := srtK_perm (fun c : Int × Rat => c.1) (w.cs.map (mvC w.L s))
  refine ⟨mvW_ok W.o s, ?_, W.b.per, fun c hc => ?_⟩
  · rw [show (mvW s w).cs.length = _ from P.length_eq, List.length_map]; exact W.len
  · obtain ⟨x, hx, rfl⟩ := List.mem_map.mp (P.mem_iff.mp hc)
    exact W.b.hts x hx
theorem hAt_mv {w : Wv} (o : w.Ok) (s t : Int) : hAt (mvW s w) t = hAt w (t - s) := by
  have P := srtK_perm (fun c : Int × Rat => c.1) (w.cs.map (mvC w.L s))
  refine hAt_moved o (mvW_ok o s) s rfl (fun m h => ?_) t
  rw [show ((m, h) ∈ (mvW s w).cs) = _ from propext P.mem_iff, List.mem_map]
  constructor
  · rintro ⟨x, hx, e⟩
    obtain ⟨e1, e2⟩ := Prod.mk.inj e
    exact ⟨x.1, by rw [← e2]; exact hx, e1.symm⟩
  · rintro ⟨m0, hm, rfl⟩
    exact ⟨(m0, h), hm, rfl⟩
theorem wat_mv (h : Rat) (s t : Int) : ∀ (ws : List Wv), (∀ w ∈ ws, w.Ok) → wat h (ws.map (mvW s)) t = wat h ws (t - s) := by
  intro ws
  induction ws with
  | nil => intro _; rfl
  | cons w ws ih =>
    intro hw
    rw [List.map_cons, wat_cons, wat_cons, hAt_mv (hw w List.mem_cons_self), ih fun u hu => hw u (List.mem_cons_of_mem _ hu)]
theorem hds_cn : ∀ l : List (Int × Rat), hdsD (l.map cnD) = some (l.map (·.1))
  | [] => rfl
  | c :: l => by
    show (hdsD (l.map cnD)).map (c.1 :: ·) = _
    rw [hds_cn l]
    rfl
theorem ints_cn {l : List (Int × Rat)} (h : l ≠ []) : intsD (l.map cnD) = none := by
  cases l with
  | nil => exact absurd rfl h
  | cons c l => rfl
theorem sorted_cn {l : List (Int × Rat)} (h : l ≠ []) (hn : (l.map (·.1)).Nodup) (k : D → Res) : dSorted (.lst (l.map cnD)) k = k (.lst ((srtK (fun c => c.1) l).map cnD)) := by
  show (match intsD (l.map cnD) with | some ns => k (.lst ((srtK id ns).map D.int)) | none => pusK (l.map cnD) (oK (hdsD (l.map cnD)) fun is => ckK (decide is.Nodup) (k (.lst ((srtK (fun (y : D × Int) => y.2) ((l.map cnD).zip is)).map (fun (y : D × Int) => y.1)))))) = _
  rw [ints_cn h]
  dsimp only
  rw [pusK_t (cn_pus l), hds_cn]
  show ckK (decide (l.map (·.1)).Nodup) _ = _
  rw [decide_eq_true hn, ck_true, List.zip_map', ← srtK_map (k := fun (y : D × Int) => y.2) (f := fun (c : Int × Rat) => (cnD c, c.1)), List.map_map]
  rfl
theorem dTup_l {l : List D} (h : D.pus l = true) (k : D → Res) : dTup (.lst l) k = k (.tup l) := pusK_t h _
theorem wv_pus : ∀ l : List Wv, D.pus (l.map wvD) = true
  | [] => rfl
  | c :: l => wv_pus l
theorem pus_swc (i : Int) (l : List D) (z : Res) : pusK [.str "wave", .int i, .tup l] z = z := rfl
theorem pus_str (r : Rat) (l : List D) (z : Res) : pusK [.str "tide", rt r, .tup l] z = z := rfl
theorem wv_snoc (us : List Wv) (w : Wv) : us.map wvD ++ [.tup [.str "wave", .int w.L, .tup (w.cs.map cnD)]] = (us ++ [w]).map wvD := by rw [List.map_append]; rfl
section
variable (g : List D → Res) (wf n : Nat)
theorem later_lc {w : Wv} (o : w.Ok) (hlen : w.cs.length < 1000) (T W3 x3 x5 x6 : Option D) (s : Int) : ∃ b' : Option D × Option D, ∀ k, lcC (b_later_1b_0_lc1 g wf n) (w.cs.map cnD) [] [T, some (.int s), W3, x3, some (.int w.L), x5, x6, none, none] k = k ((w.cs.map (mvC w.L s)).map cnD) [T, some (.int s), W3, x3, some (.int w.L), x5, x6, b'.1, b'.2] := by
  have hp := o.pos
  obtain ⟨b', h⟩ := lc_gen (b_later_1b_0_lc1 g wf n) cnD (fun c => some (cnD (mvC w.L s c))) (fun (b : Option D × Option D) => [T, some (.int s), W3, x3, some (.int w.L), x5, x6, b.1, b.2]) w.cs [] (none, none) (fun c _ b => ⟨(some (.int c.1), some (rt c.2)), fun k2 => by
    rw [b_later_1b_0_lc1_x]
    simp -implicitDefEqProofs only [unp2, cons_c, nil_n, getS_some, add_ii, mod_ii, decide_eq_true (show w.L ≠ 0 by omega), ck_true, fmod_pos _ hp, pu_t, pus_ir]
    rfl⟩) (by show 0 + w.cs.length < szLine; have : (1000 : Nat) ≤ szLine := by unfold szLine; omega
              omega)
  refine ⟨b', fun k => ?_⟩
  have := h k
  rw [map_enc (fun c : Int × Rat => cnD (mvC w.L s c)), show w.cs.map (fun c : Int × Rat => cnD (mvC w.L s c)) = (w.cs.map (mvC w.L s)).map cnD from by rw [List.map_map]; rfl] at this
  exact this
theorem later_loop (T : Option D) (s : Int) (E : Nx) : ∀ (ws us : List Wv) (x3 x4 x5 x6 : Option D), (∀ w ∈ ws, w.Ok ∧ w.cs.length < 1000) → us.length + ws.length < 1000 →
    ∃ y3 y4 y5 y6, forC (fst g wf n df_later 58 (at1 b_later 1)) (ws.map wvD) [T, some (.int s), some (.lst (us.map wvD)), x3, x4, x5, x6, none, none] E = E.nx [T, some (.int s), some (.lst ((us ++ ws.map (mvW s)).map wvD)), y3, y4, y5, y6, none, none]
  | [], us, x3, x4, x5, x6, _, _ => ⟨x3, x4, x5, x6, by simp -implicitDefEqProofs only [List.map_nil, List.append_nil]; rfl⟩
  | w :: ws, us, x3, x4, x5, x6, hw, hl => by
    obtain ⟨o, hlen⟩ := hw w List.mem_cons_self
    rw [List.length_cons] at hl
    have hsz : (1000 : Nat) ≤ szLine := by unfold szLine; omega
    obtain ⟨b', lc⟩ := later_lc g wf n o hlen T (some (.lst (us.map wvD))) (some (.str "wave")) (some (.tup (w.cs.map cnD))) x6 s
    obtain ⟨y3, y4, y5, y6, e⟩ := later_loop T s E ws (us ++ [mvW s w]) (some (.str "wave")) (some (.int w.L)) (some (.tup (w.cs.map cnD))) (some (.lst ((w.cs.map (mvC w.L s)).map cnD))) (fun x hx => hw x (List.mem_cons_of_mem _ hx)) (by rw [List.length_append]; show us.length + 1 + ws.length < 1000; omega)
    refine ⟨y3, y4, y5, y6, ?_⟩
    rw [List.map_cons, forC_cons, b_later_1x]
    simp -implicitDefEqProofs only [unp3, cons_c, nil_n]
    rw [b_later_1b_q, stL_cons, b_later_1b_0]
    simp -implicitDefEqProofs only [lock_t, getS_some, seq_t]
    rw [show hidOk [T, some (.int s), some (.lst (us.map wvD)), some (.str "wave"), some (.int w.L), some (.tup (w.cs.map cnD)), x6, none, none] [7, 8] = true from rfl, ck_true, lc]
    rw [show (wipeB [T, some (.int s), some (.lst (us.map wvD)), some (.str "wave"), some (.int w.L), some (.tup (w.cs.map cnD)), x6, b'.1, b'.2] [T, some (.int s), some (.lst (us.map wvD)), some (.str "wave"), some (.int w.L), some (.tup (w.cs.map cnD)), x6, none, none] [7, 8]).set 6 (some (.lst ((w.cs.map (mvC w.L s)).map cnD))) = [T, some (.int s), some (.lst (us.map wvD)), some (.str "wave"), some (.int w.L), some (.tup (w.cs.map cnD)), some (.lst ((w.cs.map (mvC w.L s)).map cnD)), none, none] from rfl]
    rw [stL_cons, b_later_1b_1]
    simp -implicitDefEqProofs only [getS_some, asL_l, sorted_cn (show w.cs.map (mvC w.L s) ≠ [] by simpa using o.ne) (mv_nodup s o.asc fun c hc => ⟨o.lo c hc, o.hi c hc⟩), dTup_l (cn_pus _), pu_i, pus_swc, decide_eq_true (show (us.map wvD).length < szLine by rw [List.length_map]; omega), ck_true, stL_nil]
    rw [show us.map wvD ++ [.tup [.str "wave", .int w.L, .tup ((srtK (fun c => c.1) (w.cs.map (mvC w.L s))).map cnD)]] = (us ++ [mvW s w]).map wvD from wv_snoc us (mvW s w)]
    rw [show us ++ (w :: ws).map (mvW s) = us ++ [mvW s w] ++ ws.map (mvW s) from by simp]
    exact e
theorem later_ok (h : Rat) (ws : List Wv) (s : Int) (hw : ∀ w ∈ ws, w.Ok ∧ w.cs.length < 1000) (hl : ws.length < 1000) : ∃ fin, cl g wf (n + 1) "later" [tdD h ws, .int s] = .ret (tdD h (ws.map (mvW s))) fin := by
  rw [cl_run g wf n "later" df_later _ (by kernel_rfl), show env0 df_later [tdD h ws, .int s] = [some (tdD h ws), some (.int s), none, none, none, none, none, none, none] from rfl]
  obtain ⟨y3, y4, y5, y6, e⟩ := later_loop g wf n (some (tdD h ws)) s ⟨fun ρ1 => stL g wf n df_later 58 [at1 b_later 2] ρ1 (nx0 df_later.np), (nx0 df_later.np).bk, (nx0 df_later.np).ct, (nx0 df_later.np).rt⟩ ws [] none none none none hw (by show 0 + ws.length < 1000; omega)
  rw [b_later_q, stL_cons, b_later_0]
  dsimp only
  rw [stL_cons, b_later_1]
  simp -implicitDefEqProofs only [getS_some, t3_2, seq_t]
  refine Eq.mp (congrArg (fun z => ∃ fin, z = Res.ret (tdD h (ws.map (mvW s))) fin) e.symm) ?_
  dsimp only
  rw [stL_cons, b_later_2, List.nil_append]
  simp -implicitDefEqProofs only [getS_some, t3_1, pu_t, dTup_l (wv_pus _), pus_str]
  exact ⟨_, rfl⟩
/-! times -/
theorem unl_r (r : Rat) (x : Option (Option D)) : unlend (rt r) x = some (rt r) := rfl
theorem grown_wok {k p q p2 q2 : Nat} {w : Wv} {r : Rat} (W : Wok k p q w) (hr : Bq p2 q2 r) : Wok k (p + p2) (q + q2) (grown r w) := by
  refine ⟨grown_ok W.o, by rw [show (grown r w).cs = w.cs.map _ from rfl, List.length_map]; exact W.len, W.b.per, fun c hc => ?_⟩
  obtain ⟨x, hx, rfl⟩ := List.mem_map.mp hc
  exact Bq.mul (W.b.hts x hx) hr
section
variable {k p q p2 q2 : Nat} (hp : p < 1000) (hq : q < 1000) (hp2 : p2 < 1000) (hq2 : q2 < 1000)
include hp hq hp2 hq2
theorem times_lc {w : Wv} (W : Wok k p q w) {r : Rat} (hr : Bq p2 q2 r) (T W3 x3 x4 x5 x6 : Option D) : ∃ b' : Option D × Option D, ∀ k, lcC (b_times_1b_0_lc1 g wf (n + 2)) (w.cs.map cnD) [] [T, some (rt r), W3, x3, x4, x5, x6, none, none] k = k ((grown r w).cs.map cnD) [T, some (rt r), W3, x3, x4, x5, x6, b'.1, b'.2] := by
  have hsz : (1000 : Nat) ≤ szLine := by unfold szLine; omega
  have hlen : 0 + w.cs.length < szLine := by have := W.len; omega
  obtain ⟨b', h⟩ := lc_gen (b_times_1b_0_lc1 g wf (n + 2)) cnD (fun c => some (cnD (c.1, c.2 * r))) (fun (b : Option D × Option D) => [T, some (rt r), W3, x3, x4, x5, x6, b.1, b.2]) w.cs [] (none, none) (fun c hc b => ⟨(some (.int c.1), some (rt c.2)), fun k2 => by
    obtain ⟨f, e⟩ := product_ok g wf n (W.b.hts c hc) hr (by omega) (by omega) (by omega) (by omega)
    rw [b_times_1b_0_lc1_x]
    simp -implicitDefEqProofs only [unp2, cons_c, nil_n, getS_some, e, onRet_ret, pu_i, pus_ir, unl_r]⟩) (by show 0 + w.cs.length < szLine; exact hlen)
  refine ⟨b', fun k => ?_⟩
  have := h k
  rw [map_enc (fun c : Int × Rat => cnD (c.1, c.2 * r)), show w.cs.map (fun c : Int × Rat => cnD (c.1, c.2 * r)) = (grown r w).cs.map cnD from by show _ = (w.cs.map _).map cnD; rw [List.map_map]; rfl] at this
  exact this
theorem times_loop (T : Option D) {r : Rat} (hr : Bq p2 q2 r) (E : Nx) : ∀ (ws us : List Wv) (x3 x4 x5 x6 : Option D), (∀ w ∈ ws, Wok k p q w) → us.length + ws.length < 1000 →
    ∃ y3 y4 y5 y6, forC (fst g wf (n + 2) df_times 58 (at1 b_times 1)) (ws.map wvD) [T, some (rt r), some (.lst (us.map wvD)), x3, x4, x5, x6, none, none] E = E.nx [T, some (rt r), some (.lst ((us ++ ws.map (grown r)).map wvD)), y3, y4, y5, y6, none, none]
  | [], us, x3, x4, x5, x6, _, _ => ⟨x3, x4, x5, x6, by simp -implicitDefEqProofs only [List.map_nil, List.append_nil]; rfl⟩
  | w :: ws, us, x3, x4, x5, x6, hw, hl => by
    have W := hw w List.mem_cons_self
    rw [List.length_cons] at hl
    have hsz : (1000 : Nat) ≤ szLine := by unfold szLine; omega
    obtain ⟨b', lc⟩ := times_lc g wf n hp hq hp2 hq2 W hr T (some (.lst (us.map wvD))) (some (.str "wave")) (some (.int w.L)) (some (.tup (w.cs.map cnD))) x6
    obtain ⟨y3, y4, y5, y6, e⟩ := times_loop T hr E ws (us ++ [grown r w]) (some (.str "wave")) (some (.int w.L)) (some (.tup (w.cs.map cnD))) (some (.lst ((grown r w).cs.map cnD))) (fun x hx => hw x (List.mem_cons_of_mem _ hx)) (by rw [List.length_append]; show us.length + 1 + ws.length < 1000; omega)
    refine ⟨y3, y4, y5, y6, ?_⟩
    rw [List.map_cons, forC_cons, b_times_1x]
    simp -implicitDefEqProofs only [unp3, cons_c, nil_n]
    rw [b_times_1b_q, stL_cons, b_times_1b_0]
    simp -implicitDefEqProofs only [lock_t, getS_some, seq_t]
    rw [show hidOk [T, some (rt r), some (.lst (us.map wvD)), some (.str "wave"), some (.int w.L), some (.tup (w.cs.map cnD)), x6, none, none] [7, 8] = true from rfl, ck_true, lc]
    rw [show (wipeB [T, some (rt r), some (.lst (us.map wvD)), some (.str "wave"), some (.int w.L), some (.tup (w.cs.map cnD)), x6, b'.1, b'.2] [T, some (rt r), some (.lst (us.map wvD)), some (.str "wave"), some (.int w.L), some (.tup (w.cs.map cnD)), x6, none, none] [7, 8]).set 6 (some (.lst ((grown r w).cs.map cnD))) = [T, some (rt r), some (.lst (us.map wvD)), some (.str "wave"), some (.int w.L), some (.tup (w.cs.map cnD)), some (.lst ((grown r w).cs.map cnD)), none, none] from rfl]
    rw [stL_cons, b_times_1b_1]
    simp -implicitDefEqProofs only [getS_some, asL_l, dTup_l (cn_pus _), pu_i, pus_swc, decide_eq_true (show (us.map wvD).length < szLine by rw [List.length_map]; omega), ck_true, stL_nil]
    rw [show us.map wvD ++ [.tup [.str "wave", .int w.L, .tup ((grown r w).cs.map cnD)]] = (us ++ [grown r w]).map wvD from wv_snoc us (grown r w)]
    rw [show us ++ (w :: ws).map (grown r) = us ++ [grown r w] ++ ws.map (grown r) from by simp]
    exact e
theorem times_ok (h : Rat) (ws : List Wv) {P Q : Nat} (hh : Bq P Q h) (hP : P < 4000) (hQ : Q < 4000) {r : Rat} (hr : Bq p2 q2 r) (hw : ∀ w ∈ ws, Wok k p q w) (hl : ws.length < 1000) : ∃ fin, cl g wf (n + 3) "times" [tdD h ws, rt r] = .ret (tdD (h * r) (ws.map (grown r))) fin := by
  rw [cl_run g wf (n + 2) "times" df_times _ (by kernel_rfl), show env0 df_times [tdD h ws, rt r] = [some (tdD h ws), some (rt r), none, none, none, none, none, none, none] from rfl]
  obtain ⟨f, e0⟩ := product_ok g wf n hh hr (by omega) (by omega) (by omega) (by omega)
  obtain ⟨y3, y4, y5, y6, e⟩ := times_loop g wf n hp hq hp2 hq2 (some (tdD h ws)) hr ⟨fun ρ1 => stL g wf (n + 2) df_times 58 [at1 b_times 2] ρ1 (nx0 df_times.np), (nx0 df_times.np).bk, (nx0 df_times.np).ct, (nx0 df_times.np).rt⟩ ws [] none none none none hw (by show 0 + ws.length < 1000; omega)
  rw [b_times_q, stL_cons, b_times_0]
  dsimp only
  rw [stL_cons, b_times_1]
  simp -implicitDefEqProofs only [getS_some, t3_2, seq_t]
  refine Eq.mp (congrArg (fun z => ∃ fin, z = Res.ret (tdD (h * r) (ws.map (grown r))) fin) e.symm) ?_
  dsimp only
  rw [stL_cons, b_times_2, List.nil_append]
  simp -implicitDefEqProofs only [getS_some, t3_1, pu_t, e0, onRet_ret, dTup_l (wv_pus _), pus_str]
  exact ⟨_, rfl⟩
end
theorem added_ok (h1 h2 : Rat) (ws us : List Wv) {P1 Q1 P2 Q2 : Nat} (b1 : Bq P1 Q1 h1) (b2 : Bq P2 Q2 h2) (s1 : P1 < 4000) (s2 : Q1 < 4000) (s3 : P2 < 4000) (s4 : Q2 < 4000) (hl : ws.length + us.length < 1000) : ∃ fin, cl g wf (n + 3) "added" [tdD h1 ws, tdD h2 us] = .ret (tdD (h1 + h2) (ws ++ us)) fin := by
  have hsz : (1000 : Nat) ≤ szLine := by unfold szLine; omega
  obtain ⟨f, e⟩ := plus_ok g wf n b1 b2 s1 s2 s3 s4
  rw [cl_run g wf (n + 2) "added" df_added _ (by kernel_rfl), show env0 df_added [tdD h1 ws, tdD h2 us] = [some (tdD h1 ws), some (tdD h2 us)] from rfl]
  simp -implicitDefEqProofs only [b_added_q, b_added_0, stL_cons, stL_nil, getS_some, t3_1, t3_2, pu_t, e, onRet_ret, add_tt, decide_eq_true (show (ws.map wvD).length + (us.map wvD).length ≤ szLine by rw [List.length_map, List.length_map]; omega), ck_true, pus_str]
  rw [← List.map_append]
  exact ⟨_, rfl⟩
theorem neg1 : rt (-1 : Rat) = .tup [.int (-1), .int 1] := rfl
theorem bq_neg1 : Bq 1 1 (-1 : Rat) := ⟨by show (1 : Nat) < 2 ^ 1; decide, by show (1 : Nat) < 2 ^ 1; decide⟩
theorem taken_ok (h1 h2 : Rat) (ws us : List Wv) {k p q P1 Q1 P2 Q2 : Nat} (b1 : Bq P1 Q1 h1) (b2 : Bq P2 Q2 h2) (s1 : P1 < 3000) (s2 : Q1 < 3000) (s3 : P2 < 3000) (s4 : Q2 < 3000) (hp : p < 1000) (hq : q < 1000) (hu : ∀ w ∈ us, Wok k p q w) (hl : ws.length + us.length < 1000) : ∃ fin, cl g wf (n + 4) "taken" [tdD h1 ws, tdD h2 us] = .ret (tdD (h1 + h2 * -1) (ws ++ us.map (grown (-1)))) fin := by
  obtain ⟨f1, e1⟩ := times_ok g wf n hp hq (by decide) (by decide) h2 us b2 (by omega) (by omega) bq_neg1 hu (by omega)
  obtain ⟨f2, e2⟩ := added_ok g wf n h1 (h2 * -1) ws (us.map (grown (-1))) b1 (Bq.mul b2 bq_neg1) (by omega) (by omega) (by omega) (by omega) (by rw [List.length_map]; omega)
  rw [neg1] at e1
  rw [cl_run g wf (n + 3) "taken" df_taken _ (by kernel_rfl), show env0 df_taken [tdD h1 ws, tdD h2 us] = [some (tdD h1 ws), some (tdD h2 us)] from rfl]
  simp -implicitDefEqProofs only [b_taken_q, b_taken_0, stL_cons, stL_nil, getS_some, neg_i, pus_ii', e1, e2, onRet_ret, unl_t]
  exact ⟨_, rfl⟩
end
end K00
set_option Elab.async false
set_option linter.all false
set_option maxRecDepth 100000
set_option maxHeartbeats 4000000
/-! the defs of the text, as the evaluator runs them -/
namespace K00
open PySem PySem.Spec PyProof.Rows L2 TI
/-! BODY -/
/-! what is a ratio, a tide -/
open RQ RW
theorem isi_it (i : Int) (k : D → Res) : dIsi (.int i) "int" k = k (.bl true) := by kernel_rfl
theorem isi_ib (i : Int) (k : D → Res) : dIsi (.int i) "bool" k = k (.bl false) := by kernel_rfl
theorem gcd_one (r : Rat) : gcdI r.num (r.den : Int) = 1 := by
  unfold gcdI
  rw [Int.natAbs_natCast, r.reduced]
  rfl
theorem isratio_ok (g : List D → Res) (wf n : Nat) (r : Rat) : ∃ fin, cl g wf (n + 1) "is_ratio" [rt r] = .ret (.bl true) fin := by
  have hp := den_pos r
  rw [cl_run g wf n "is_ratio" df_is_ratio _ (by kernel_rfl), show env0 df_is_ratio [rt r] = [some (rt r), none] from rfl]
  simp -implicitDefEqProofs only [b_is_ratio_q, b_is_ratio_0t_q, b_is_ratio_1b_q, b_is_ratio_1b_0t_q, b_is_ratio_0f_q, b_is_ratio_1b_0f_q, b_is_ratio_0, b_is_ratio_0t_0, b_is_ratio_1, b_is_ratio_1x, b_is_ratio_1b_0, b_is_ratio_1b_0t_0, b_is_ratio_2, stL_cons, stL_nil, getS_some, isi_t, tru_b, bnot_t, bnot_f, len_t, eq_ii, decide_eq_true (show (([.int r.num, .int (r.den : Int)] : List D).length : Int) = 2 from rfl), lock_t, seq_t, forC_cons, forC_nil, isi_it, isi_ib, t2_0, t2_1, le_ii, decide_eq_true (show (1 : Int) ≤ (r.den : Int) by omega), pu_i, i2_ii, gcd_ii, gcd_one, decide_eq_true (show (1 : Int) = 1 from rfl)]
  exact ⟨_, rfl⟩
structure Typ (r : Rat) : Prop where
  lo : -1000000 ≤ r.num
  hi : r.num ≤ 1000000
  den : r.den ≤ 60
theorem istyped_ok (g : List D → Res) (wf n : Nat) {r : Rat} (T : Typ r) : ∃ fin, cl g wf (n + 2) "_is_typed" [rt r] = .ret (.bl true) fin := by
  obtain ⟨f, e⟩ := isratio_ok g wf n r
  have hd := T.den
  rw [cl_run g wf (n + 1) "_is_typed" df_is_typed _ (by kernel_rfl), show env0 df_is_typed [rt r] = [some (rt r)] from rfl]
  simp -implicitDefEqProofs only [b_is_typed_q, b_is_typed_0, stL_cons, stL_nil, getS_some, e, onRet_ret, tru_b, neg_i, pu_i, unl_r, t2_0, t2_1, le_ii, decide_eq_true T.lo, decide_eq_true T.hi, decide_eq_true (show (r.den : Int) ≤ 60 by omega)]
  exact ⟨_, rfl⟩
theorem uwhole_ok (g : List D → Res) (wf n : Nat) {i lo hi : Int} (h1 : lo ≤ i) (h2 : i ≤ hi) : ∃ fin, cl g wf (n + 1) "_is_whole" [.int i, .int lo, .int hi] = .ret (.bl true) fin := by
  rw [cl_run g wf n "_is_whole" df_is_whole _ (by kernel_rfl), show env0 df_is_whole [.int i, .int lo, .int hi] = [some (.int i), some (.int lo), some (.int hi)] from rfl]
  simp -implicitDefEqProofs only [b_is_whole_q, b_is_whole_0, stL_cons, stL_nil, getS_some, isi_it, isi_ib, tru_b, bnot_f, pu_i, le_ii, decide_eq_true h1, decide_eq_true h2]
  exact ⟨_, rfl⟩
/-- a def by its name that says yes of what P tells -/
structure Suit (g : List D → Res) (wf n : Nat) (y : Str) (P : Rat → Prop) : Prop where
  gf : ∀ r, gfK g y r = r 1
  ok : ∀ r, P r → ∃ fin, cl g wf n y [rt r] = .ret (.bl true) fin
theorem suit_any (g : List D → Res) (wf n : Nat) : Suit g wf (n + 1) "is_ratio" (fun _ => True) := ⟨fun r => by kernel_rfl, fun r _ => isratio_ok g wf n r⟩
theorem suit_typ (g : List D → Res) (wf n : Nat) : Suit g wf (n + 2) "_is_typed" Typ := ⟨fun r => by kernel_rfl, fun r h => istyped_ok g wf n h⟩
theorem pu_f (y : Str) (r : Res) : puK (.fnv y) r = r := rfl
theorem unl_f (y : Str) (x : Option (Option D)) : unlend (.fnv y) x = some (.fnv y) := rfl
section
variable (g : List D → Res) (wf n : Nat) {y : Str} {P : Rat → Prop} (S : Suit g wf (n + 1) y P)
include S
theorem wave_loop (W C : Option D) (L : Int) : ∀ (l : List (Int × Rat)) (least : Int) (x5 : Option D), l.Pairwise (fun a b => a.1 < b.1) → (∀ c ∈ l, least ≤ c.1 ∧ c.1 < L ∧ P c.2) → ∃ x4 x5', ∀ E, forC (fst g wf (n + 1) df_is_wave 54 (at1 b_is_wave 5)) (l.map cnD) [W, some (.fnv y), some (.int L), C, some (.int least), x5] E = E.nx [W, some (.fnv y), some (.int L), C, x4, x5']
  | [], least, x5, _, _ => ⟨_, _, fun E => rfl⟩
  | c :: l, least, x5, hp, hc => by
    obtain ⟨h1, h2⟩ := List.pairwise_cons.mp hp
    obtain ⟨a1, a2, a3⟩ := hc c List.mem_cons_self
    obtain ⟨f1, e1⟩ := uwhole_ok g wf n (i := c.1) (lo := least) (hi := L - 1) a1 (by omega)
    obtain ⟨f2, e2⟩ := S.ok _ a3
    obtain ⟨x4, x5', e⟩ := wave_loop W C L l (c.1 + 1) (some (cnD c)) h2 fun d hd => ⟨by have := h1 d hd; omega, (hc d (List.mem_cons_of_mem _ hd)).2⟩
    refine ⟨x4, x5', fun E => ?_⟩
    rw [List.map_cons, forC_cons]
    simp -implicitDefEqProofs only [b_is_wave_q, b_is_wave_0t_q, b_is_wave_2t_q, b_is_wave_3t_q, b_is_wave_5b_q, b_is_wave_5b_0t_q, b_is_wave_5b_1t_q, b_is_wave_0f_q, b_is_wave_2f_q, b_is_wave_3f_q, b_is_wave_5b_0f_q, b_is_wave_5b_1f_q, b_is_wave_0, b_is_wave_0t_0, b_is_wave_1, b_is_wave_2, b_is_wave_2t_0, b_is_wave_3, b_is_wave_3t_0, b_is_wave_4, b_is_wave_5, b_is_wave_5x, b_is_wave_5b_0, b_is_wave_5b_0t_0, b_is_wave_5b_1, b_is_wave_5b_1t_0, b_is_wave_5b_2, b_is_wave_6, stL_cons, stL_nil, getS_some, isi_t, tru_b, bnot_t, bnot_f, len_t, eq_ii, decide_eq_true (show (([.int c.1, rt c.2] : List D).length : Int) = 2 from rfl), t2_0, t2_1, pu_i, pu_t, sub_ii, e1, e2, onRet_ret, unl_i, fnvK_f, S.gf, decide_eq_true (show (1 : Nat) = 1 from rfl), ck_true, add_ii]
    exact e E
theorem iswave_ok {w : Wv} (o : w.Ok) (hL : w.L ≤ 1800) (hl : w.cs.length ≤ 24) (hP : ∀ c ∈ w.cs, P c.2) : ∃ fin, cl g wf (n + 2) "_is_wave" [wvD w, .fnv y] = .ret (.bl true) fin := by
  have hp := o.pos
  have h1 : 0 < w.cs.length := List.length_pos_iff.mpr o.ne
  obtain ⟨f1, e1⟩ := uwhole_ok g wf n (i := w.L) (lo := 1) (hi := 1800) (by omega) (by omega)
  rw [cl_run g wf (n + 1) "_is_wave" df_is_wave _ (by kernel_rfl), show env0 df_is_wave [wvD w, .fnv y] = [some (wvD w), some (.fnv y), none, none, none, none] from rfl]
  obtain ⟨x4, x5, e⟩ := wave_loop g wf n S (some (wvD w)) (some (.tup (w.cs.map cnD))) w.L w.cs 0 none o.asc fun c hc => ⟨o.lo c hc, o.hi c hc, hP c hc⟩
  simp -implicitDefEqProofs only [b_is_wave_q, b_is_wave_0, b_is_wave_0f_q, b_is_wave_1, b_is_wave_2, b_is_wave_2f_q, b_is_wave_3, b_is_wave_3f_q, b_is_wave_4, b_is_wave_5, decide_true, stL_cons, stL_nil, getS_some, isi_t, tru_b, bnot_t, bnot_f, len_t, eq_ii, eq_ss, decide_eq_true (show (([.str "wave", .int w.L, .tup (w.cs.map cnD)] : List D).length : Int) = 3 from rfl), decide_eq_true (show ("wave" : Str) = "wave" from rfl), t3_0, t3_1, t3_2, pu_i, pu_t, e1, onRet_ret, unl_i, List.length_map, lt_ii, decide_eq_false (show ¬ ((w.cs.length : Nat) : Int) < 1 by omega), decide_eq_false (show ¬ (24 : Int) < ((w.cs.length : Nat) : Int) by omega), lock_t, seq_t, e, b_is_wave_6, decide_true]
  exact ⟨_, rfl⟩
theorem alls_true (l : List D) (k : D → Res) (h : ∀ d ∈ l, d = .bl true) : dAll (.lst l) k = k (.bl true) := by
  show oK (blsD l) (fun bs => k (.bl (bs.all id))) = _
  have : ∀ l : List D, (∀ d ∈ l, d = .bl true) → ∃ bs, blsD l = some bs ∧ bs.all id = true := by
    intro l
    induction l with
    | nil => intro _; exact ⟨[], rfl, rfl⟩
    | cons d l ih =>
      intro h
      obtain ⟨bs, e1, e2⟩ := ih fun x hx => h x (List.mem_cons_of_mem _ hx)
      refine ⟨true :: bs, ?_, by simpa using e2⟩
      rw [h d List.mem_cons_self]
      show (blsD l).map (true :: ·) = _
      rw [e1]
      rfl
  obtain ⟨bs, e1, e2⟩ := this l h
  rw [e1]
  show k (.bl (bs.all id)) = _
  rw [e2]
theorem utide_ok {h : Rat} {ws : List Wv} (hh : P h) (hn : ws.length ≤ 8) (hw : ∀ w ∈ ws, w.Ok ∧ w.L ≤ 1800 ∧ w.cs.length ≤ 24 ∧ ∀ c ∈ w.cs, P c.2) (S3 : Suit g wf (n + 2) y P) : ∃ fin, cl g wf (n + 3) "_is_tide" [tdD h ws, .fnv y] = .ret (.bl true) fin := by
  have hsz : (1000 : Nat) ≤ szLine := by unfold szLine; omega
  obtain ⟨f2, e2⟩ := S3.ok _ hh
  rw [cl_run g wf (n + 2) "_is_tide" df_u_is_tide _ (by kernel_rfl), show env0 df_u_is_tide [tdD h ws, .fnv y] = [some (tdD h ws), some (.fnv y), none] from rfl]
  obtain ⟨b', lc⟩ := lc_gen (b_u_is_tide_2_lc1 g wf (n + 2)) wvD (fun _ => some (.bl true)) (fun b => [some (tdD h ws), some (.fnv y), b]) ws [] none (fun w hw' b => ⟨some (wvD w), fun k2 => by
    obtain ⟨o, a1, a2, a3⟩ := hw w hw'
    obtain ⟨f3, e3⟩ := iswave_ok g wf n S o a1 a2 a3
    rw [b_u_is_tide_2_lc1_x]
    simp -implicitDefEqProofs only [getS_some, e3, onRet_ret, unl_f, unl_t]⟩) (by show 0 + ws.length < szLine; omega)
  simp -implicitDefEqProofs only [b_u_is_tide_q, b_u_is_tide_0, b_u_is_tide_0f_q, b_u_is_tide_1, b_u_is_tide_1f_q, b_u_is_tide_2, decide_true, stL_cons, stL_nil, getS_some, isi_t, tru_b, bnot_t, bnot_f, len_t, eq_ii, eq_ss, decide_eq_true (show (([.str "tide", rt h, .tup (ws.map wvD)] : List D).length : Int) = 3 from rfl), decide_eq_true (show ("tide" : Str) = "tide" from rfl), t3_0, t3_1, t3_2, pu_i, pu_t, fnvK_f, S.gf, decide_eq_true (show (1 : Nat) = 1 from rfl), ck_true, e2, onRet_ret, List.length_map, lt_ii, decide_eq_false (show ¬ (8 : Int) < ((ws.length : Nat) : Int) by omega), lock_t, seq_t]
  rw [show hidOk [some (tdD h ws), some (.fnv y), none] [2] = true from rfl, ck_true, lc, List.nil_append, alls_true g wf n S _ _ (fun d hd => by
    obtain ⟨w, _, e⟩ := List.mem_filterMap.mp hd
    exact (Option.some.inj e).symm)]
  exact ⟨_, rfl⟩
end
theorem istide_ok (g : List D → Res) (wf n : Nat) {h : Rat} {ws : List Wv} (hh : Typ h) (hn : ws.length ≤ 8) (hw : ∀ w ∈ ws, w.Ok ∧ w.L ≤ 1800 ∧ w.cs.length ≤ 24 ∧ ∀ c ∈ w.cs, Typ c.2) : ∃ fin, cl g wf (n + 5) "is_tide" [tdD h ws] = .ret (.bl true) fin := by
  obtain ⟨f, e⟩ := utide_ok g wf (n + 1) (suit_typ g wf n) hh hn hw (suit_typ g wf (n + 1))
  rw [cl_run g wf (n + 4) "is_tide" df_is_tide _ (by kernel_rfl), show env0 df_is_tide [tdD h ws] = [some (tdD h ws)] from rfl]
  simp -implicitDefEqProofs only [b_is_tide_q, b_is_tide_0, stL_cons, stL_nil, getS_some, pu_f, e, onRet_ret]
  exact ⟨_, rfl⟩
theorem isany_ok (g : List D → Res) (wf n : Nat) {h : Rat} {ws : List Wv} (hn : ws.length ≤ 8) (hw : ∀ w ∈ ws, w.Ok ∧ w.L ≤ 1800 ∧ w.cs.length ≤ 24) : ∃ fin, cl g wf (n + 5) "is_any_tide" [tdD h ws] = .ret (.bl true) fin := by
  obtain ⟨f, e⟩ := utide_ok g wf (n + 1) (suit_any g wf (n + 1)) (h := h) trivial hn (fun w hw' => ⟨(hw w hw').1, (hw w hw').2.1, (hw w hw').2.2, fun _ _ => trivial⟩) (suit_any g wf (n + 2))
  rw [cl_run g wf (n + 4) "is_any_tide" df_is_any_tide _ (by kernel_rfl), show env0 df_is_any_tide [tdD h ws] = [some (tdD h ws)] from rfl]
  simp -implicitDefEqProofs only [b_is_any_tide_q, b_is_any_tide_0, stL_cons, stL_nil, getS_some, pu_f, e, onRet_ret]
  exact ⟨_, rfl⟩
end K00
set_option Elab.async false
set_option linter.all false
set_option maxRecDepth 100000
set_option maxHeartbeats 4000000
/-! the defs of the text, as the evaluator runs them -/
namespace K00
open PySem PySem.Spec PyProof.Rows L2 TI
/-! BODY -/
/-! what is picked; sorted sets of ints -/
theorem unl_b (xs : List Int) (a : Nat) (d : D) (l : List (Option D)) : unlend (box xs a) (some d :: l)[0]? = some d := rfl
theorem ix_m {l : List D} {v : Int} (h0 : 0 ≤ v) (h1 : v < (l.length : Int)) : ∃ x, x ∈ l ∧ ∀ k, dIx (.lst l) (.int v) k = k x := by
  obtain ⟨i, rfl⟩ : ∃ i : Nat, v = (i : Int) := ⟨v.toNat, by omega⟩
  have hi : i < l.length := by omega
  refine ⟨l[i], List.getElem_mem hi, fun k => ?_⟩
  show atK l (i : Int) k = _
  unfold atK
  rw [atI_nat l i hi]
theorem pus_mem : ∀ {l : List D} {x : D}, D.pus l = true → x ∈ l → x.pu = true
  | d :: l, x, h, hx => by
    have h' : (d.pu && D.pus l) = true := h
    rw [Bool.and_eq_true] at h'
    rcases List.mem_cons.mp hx with rfl | hx
    · exact h'.1
    · exact pus_mem h'.2 hx
theorem len_l' (l : List D) (k : D → Res) : dLen (.lst l) k = k (.int ((l.length : Nat) : Int)) := rfl
theorem pick_ok (g : List D → Res) (wf n : Nat) (xs : List Int) (a : Nat) (l : List D) (hl : l ≠ []) (hp : D.pus l = true) : ∃ x, x ∈ l ∧ cl g wf (n + 2) "_law_pick" [box xs a, .lst l] = .ret x [some (box xs (a + 1)), some (.lst l)] := by
  obtain ⟨v, v0, v1, o, e⟩ := draw_ok g wf n xs a 900 (by decide)
  have hn : 0 < l.length := List.length_pos_iff.mpr hl
  have hm : v.fmod (l.length : Int) = v % (l.length : Int) := Int.fmod_eq_emod_of_nonneg v (by omega)
  obtain ⟨x, hx, ei⟩ := ix_m (l := l) (v := v.fmod (l.length : Int)) (by rw [hm]; exact Int.emod_nonneg _ (by omega)) (by rw [hm]; exact Int.emod_lt_of_pos _ (by omega))
  refine ⟨x, hx, ?_⟩
  rw [cl_run g wf (n + 1) "_law_pick" df_law_pick _ (by kernel_rfl), show env0 df_law_pick [box xs a, .lst l] = [some (box xs a), some (.lst l)] from rfl]
  simp -implicitDefEqProofs only [↓b_law_pick_q, ↓b_law_pick_0, ↓stL_cons, ↓stL_nil, ↓getS_some, ↓e, ↓onRet_ret, ↓int_i, ↓len_l', ↓mod_ii, ↓decide_eq_true (show ((l.length : Nat) : Int) ≠ 0 by omega), ↓ck_true, ↓ei, ↓puK_t (pus_mem hp hx), ↓unl_b]
  rfl
theorem ints_ok : ∀ l : List Int, intsD (l.map D.int) = some l
  | [] => rfl
  | a :: l => by show (intsD (l.map D.int)).map (a :: ·) = _; rw [ints_ok l]; rfl
theorem insU_mem {x z : Int} : ∀ l : List Int, z ∈ insU x l → z = x ∨ z ∈ l
  | [], h => .inl (by simpa [insU] using h)
  | y :: l, h => by
    unfold insU at h
    split at h
    · rcases List.mem_cons.mp h with h | h
      · exact .inl h
      · exact .inr h
    · split at h
      · exact .inr h
      · rcases List.mem_cons.mp h with h | h
        · exact .inr (by rw [h]; exact List.mem_cons_self)
        · rcases insU_mem l h with h | h
          · exact .inl h
          · exact .inr (List.mem_cons_of_mem _ h)
theorem insU_pw {x : Int} : ∀ l : List Int, l.Pairwise (· < ·) → (insU x l).Pairwise (· < ·)
  | [], _ => by unfold insU; exact List.pairwise_singleton _ _
  | y :: l, h => by
    have h1 := List.pairwise_cons.mp h
    unfold insU
    split
    · rename_i hx
      refine List.pairwise_cons.mpr ⟨fun z hz => ?_, h⟩
      rcases List.mem_cons.mp hz with rfl | hz
      · exact hx
      · have := h1.1 z hz; omega
    · split
      · exact h
      · refine List.pairwise_cons.mpr ⟨fun z hz => ?_, insU_pw l h1.2⟩
        rcases insU_mem l hz with rfl | hz
        · omega
        · exact h1.1 z hz
theorem insU_len (x : Int) : ∀ l : List Int, (insU x l).length ≤ l.length + 1
  | [] => Nat.le_refl _
  | y :: l => by
    have := insU_len x l
    unfold insU
    split
    · exact Nat.le_refl _
    · split
      · omega
      · rw [List.length_cons, List.length_cons]; omega
theorem sortU_mem {z : Int} : ∀ l : List Int, z ∈ sortU l → z ∈ l
  | [], h => h
  | x :: l, h => by
    rcases insU_mem (sortU l) h with rfl | h
    · exact List.mem_cons_self
    · exact List.mem_cons_of_mem _ (sortU_mem l h)
theorem sortU_pw : ∀ l : List Int, (sortU l).Pairwise (· < ·)
  | [] => List.Pairwise.nil
  | _ :: l => insU_pw _ (sortU_pw l)
theorem sortU_len : ∀ l : List Int, (sortU l).length ≤ l.length
  | [] => Nat.le_refl _
  | x :: l => by
    have h1 := insU_len x (sortU l)
    have h2 := sortU_len l
    show (insU x (sortU l)).length ≤ l.length + 1
    omega
theorem srt_ok (l : List Int) (h : l.length < 64) (k : D → Res) : srtD (.lst (l.map D.int)) k = k (.lst ((sortU l).map D.int)) := by
  unfold srtD
  dsimp only
  rw [ints_ok]
  show ckK (decide (l.length < 64)) _ = _
  rw [decide_eq_true h, ck_true]
end K00
set_option Elab.async false
set_option linter.all false
set_option maxRecDepth 100000
set_option maxHeartbeats 4000000
/-! the defs of the text, as the evaluator runs them -/
namespace K00
open PySem PySem.Spec PyProof.Rows L2 TI
/-! BODY -/
/-! drawn heights, waves, tides -/
open RQ RW
inductive All2 {α γ : Type} (Q : α → γ → Prop) : List α → List γ → Prop
  | nil : All2 Q [] []
  | cons {a c l m} : Q a c → All2 Q l m → All2 Q (a :: l) (c :: m)
theorem All2.len {α γ : Type} {Q : α → γ → Prop} {l : List α} {m : List γ} (h : All2 Q l m) : m.length = l.length := by
  induction h with
  | nil => rfl
  | cons _ _ ih => rw [List.length_cons, List.length_cons, ih]
theorem All2.mem {α γ : Type} {Q : α → γ → Prop} {l : List α} {m : List γ} (h : All2 Q l m) : ∀ c ∈ m, ∃ a ∈ l, Q a c := by
  induction h with
  | nil => intro c hc; simp at hc
  | cons q _ ih =>
    intro c hc
    rcases List.mem_cons.mp hc with rfl | hc
    · exact ⟨_, List.mem_cons_self, q⟩
    · obtain ⟨a, ha, h⟩ := ih c hc
      exact ⟨a, List.mem_cons_of_mem _ ha, h⟩
theorem All2.map_eq {α γ : Type} {Q : α → γ → Prop} {l : List α} {m : List γ} (h : All2 Q l m) (f : γ → α) (hf : ∀ a c, Q a c → f c = a) : m.map f = l := by
  induction h with
  | nil => rfl
  | cons q _ ih => rw [List.map_cons, ih, hf _ _ q]
theorem lc_rel {α β γ : Type} (step : D → TI.Env → (Option D → TI.Env → Res) → Res) (enc : α → D) (ency : γ → D) (Q : α → γ → Prop) (R : β → TI.Env) : ∀ (l : List α) (acc : List D) (b : β), (∀ a ∈ l, ∀ b, ∃ b' c, Q a c ∧ ∀ k2, step (enc a) (R b) k2 = k2 (some (ency c)) (R b')) → acc.length + l.length < szLine →
    ∃ b' cs, All2 Q l cs ∧ ∀ k, lcC step (l.map enc) acc (R b) k = k (acc ++ cs.map ency) (R b')
  | [], acc, b, h, hl => ⟨b, [], .nil, fun k => by rw [List.map_nil, List.map_nil, List.append_nil]; rfl⟩
  | a :: l, acc, b, h, hl => by
    obtain ⟨b1, c, q, h1⟩ := h a List.mem_cons_self b
    have hl' : acc.length + l.length + 1 < szLine := by rw [List.length_cons] at hl; omega
    obtain ⟨b2, cs, q2, h2⟩ := lc_rel step enc ency Q R l (acc ++ [ency c]) b1 (fun x hx => h x (List.mem_cons_of_mem _ hx)) (by rw [List.length_append]; show acc.length + 1 + l.length < szLine; omega)
    refine ⟨b2, c :: cs, .cons q q2, fun k => ?_⟩
    rw [List.map_cons, List.map_cons, show acc ++ ency c :: cs.map ency = acc ++ [ency c] ++ cs.map ency by simp, ← h2 k]
    show step (enc a) (R b) _ = _
    rw [h1]
    show ckK (decide (acc.length < szLine)) _ = _
    rw [decide_eq_true (by omega), ck_true]
theorem rng_map (n : Nat) : rngL 0 n = (List.range' 0 n).map fun (i : Nat) => D.int (i : Int) := rngL_nat n
/-- a small ratio -/
structure Sm (r : Rat) : Prop where
  b : Bq 5 2 r
  t : Typ r
theorem sm_of {a b : Int} (ha : a.natAbs ≤ 20) (h0 : 0 < b) (hb : b ≤ 3) : Sm (Rat.divInt a b) := by
  have B : Bq 5 2 (Rat.divInt a b) := bq_divInt (show a.natAbs < 2 ^ 5 by omega) (show b.natAbs < 2 ^ 2 by omega) h0
  have h1 : (Rat.divInt a b).num.natAbs < 2 ^ 5 := B.n
  have h2 : ((Rat.divInt a b).den : Int).natAbs < 2 ^ 2 := B.d
  exact ⟨B, ⟨by omega, by omega, by omega⟩⟩
section
variable (g : List D → Res) (wf n : Nat) (xs : List Int)
theorem height_draw (a : Nat) : ∃ r, Sm r ∧ cl g wf (n + 3) "_law_height" [box xs a] = .ret (rt r) [some (box xs (a + 2))] := by
  obtain ⟨v, v0, v1, o, e1⟩ := draw_ok g wf (n + 1) xs a 41 (by decide)
  obtain ⟨x, hx, e2⟩ := pick_ok g wf n xs (a + 1) [.int 1, .int 1, .int 1, .int 2, .int 3] (by simp) rfl
  obtain ⟨b, hb, b0, b1⟩ : ∃ b : Int, x = .int b ∧ 0 < b ∧ b ≤ 3 := by
    simp -implicitDefEqProofs only [List.mem_cons, List.not_mem_nil, or_false] at hx
    rcases hx with rfl | rfl | rfl | rfl | rfl <;> exact ⟨_, rfl, by decide, by decide⟩
  subst hb
  obtain ⟨f, e3⟩ := lratio_ok g wf n (q := 2) (v - 20) b0 (show b.natAbs < 2 ^ 2 by omega) (by decide)
  refine ⟨Rat.divInt (v - 20) b, sm_of (by omega) b0 b1, ?_⟩
  rw [cl_run g wf (n + 2) "_law_height" df_law_height _ (by kernel_rfl), show env0 df_law_height [box xs a] = [some (box xs a)] from rfl]
  simp -implicitDefEqProofs only [b_law_height_q, b_law_height_0, stL_cons, stL_nil, getS_some, e1, e2, e3, onRet_ret, sub_ii, unl_b]
  rfl
/-- what a drawn wave is -/
structure WavG (ps : List Int) (w : Wv) : Prop where
  o : w.Ok
  per : w.L ∈ ps
  len : w.cs.length ≤ 4
  sm : ∀ c ∈ w.cs, Sm c.2
theorem ints_map : ∀ (cs : List Int), cs.map D.int = cs.map D.int := fun _ => rfl
theorem in_ints {x : D} {ps : List Int} (h : x ∈ ps.map D.int) : ∃ p, p ∈ ps ∧ x = .int p := by
  obtain ⟨p, hp, rfl⟩ := List.mem_map.mp h
  exact ⟨p, hp, rfl⟩
theorem pus_ints : ∀ ps : List Int, D.pus (ps.map D.int) = true
  | [] => rfl
  | p :: ps => pus_ints ps
theorem lck_l {l : List D} (h : D.pus l = true) (k : Option D → Res) : lockO (some (.lst l)) k = k (some (.lck l)) := pusK_t h _
theorem seq_k (b : Bool) (l : List D) (k : List D → Res) : seqV b (.lck l) k = k l := rfl
theorem insU_ne (x : Int) (l : List Int) : insU x l ≠ [] := by
  cases l with
  | nil => unfold insU; simp
  | cons y l => unfold insU; split <;> (try split) <;> simp
theorem sortU_ne {l : List Int} (h : l ≠ []) : sortU l ≠ [] := by
  cases l with
  | nil => exact absurd rfl h
  | cons x l => exact insU_ne x _
theorem wave_draw (a : Nat) (ps : List Int) (hps : ps ≠ []) (hp : ∀ p ∈ ps, 0 < p) : ∃ w a', WavG ps w ∧ cl g wf (n + 4) "_law_wave" [box xs a, .lst (ps.map D.int)] = .ret (wvD w) [some (box xs a'), some (.lst (ps.map D.int))] := by
  have hsz : (1000 : Nat) ≤ szLine := by unfold szLine; omega
  obtain ⟨x, hx, e1⟩ := pick_ok g wf (n + 1) xs a (ps.map D.int) (by simpa using hps) (pus_ints _)
  obtain ⟨L, hL, rfl⟩ := in_ints hx
  have hL0 := hp L hL
  obtain ⟨v, v0, v1, o1, e2⟩ := draw_ok g wf (n + 2) xs (a + 1) 4 (by decide)
  obtain ⟨m, hm⟩ : ∃ m : Nat, v + 1 = (m : Int) := ⟨(v + 1).toNat, by omega⟩
  obtain ⟨⟨a2, y4⟩, vs, Q1, lc1⟩ := lc_rel (b_law_wave_1_lc1 g wf (n + 3)) (fun (i : Nat) => D.int (i : Int)) D.int (fun _ z => 0 ≤ z ∧ z < L) (fun (b : Nat × Option D) => [some (box xs b.1), some (.lst (ps.map D.int)), some (.int L), none, b.2, none]) (List.range' 0 m) [] (a + 1 + 1, none) (fun i _ b => by
    obtain ⟨z, z0, z1, o, e⟩ := draw_ok g wf (n + 2) xs b.1 L hL0
    refine ⟨(b.1 + 1, some (.int (i : Int))), z, ⟨z0, z1⟩, fun k2 => ?_⟩
    rw [b_law_wave_1_lc1_x]
    simp -implicitDefEqProofs only [getS_some, e, onRet_ret, unl_b, unl_i]) (by rw [List.length_range']; show 0 + m < szLine; omega)
  have hlen := Q1.len
  rw [List.length_range'] at hlen
  have hvs : vs ≠ [] := fun q => by rw [q] at hlen; simp at hlen; omega
  obtain ⟨⟨a3, y5⟩, cs, Q2, lc2⟩ := lc_rel (b_law_wave_2_lc1 g wf (n + 3)) D.int cnD (fun z c => c.1 = z ∧ Sm c.2) (fun (b : Nat × Option D) => [some (box xs b.1), some (.lst (ps.map D.int)), some (.int L), some (.lck ((sortU vs).map D.int)), none, b.2]) (sortU vs) [] (a2, none) (fun z _ b => by
    obtain ⟨r, hr, e⟩ := height_draw g wf n xs b.1
    refine ⟨(b.1 + 2, some (.int z)), (z, r), ⟨rfl, hr⟩, fun k2 => ?_⟩
    rw [b_law_wave_2_lc1_x]
    simp -implicitDefEqProofs only [getS_some, e, onRet_ret, unl_b, pu_i, pus_ir]) (by have := sortU_len vs; show 0 + (sortU vs).length < szLine; omega)
  have hfst : cs.map (·.1) = sortU vs := Q2.map_eq _ fun _ _ q => q.1
  have hrg : ∀ c ∈ cs, 0 ≤ c.1 ∧ c.1 < L := fun c hc => by
    have : c.1 ∈ sortU vs := by rw [← hfst]; exact List.mem_map.mpr ⟨c, hc, rfl⟩
    obtain ⟨_, _, q⟩ := Q1.mem _ (sortU_mem _ this)
    exact q
  have hlc : cs.length = (sortU vs).length := Q2.len
  have hu := sortU_len vs
  refine ⟨⟨L, cs⟩, a3, ⟨⟨hL0, ?_, ?_, fun c hc => (hrg c hc).1, fun c hc => (hrg c hc).2⟩, hL, by show cs.length ≤ 4; omega, fun c hc => ?_⟩, ?_⟩
  · intro q
    have : cs = [] := q
    rw [this] at hfst
    exact sortU_ne hvs hfst.symm
  · have := sortU_pw vs
    rw [← hfst, List.pairwise_map] at this
    exact this
  · obtain ⟨_, _, q⟩ := Q2.mem c hc
    exact q.2
  rw [cl_run g wf (n + 3) "_law_wave" df_law_wave _ (by kernel_rfl), show env0 df_law_wave [box xs a, .lst (ps.map D.int)] = [some (box xs a), some (.lst (ps.map D.int)), none, none, none, none] from rfl]
  rw [b_law_wave_q, stL_cons, b_law_wave_0]
  simp -implicitDefEqProofs only [getS_some, e1, onRet_ret]
  rw [show unlend (box xs a) ([some (box xs (a + 1)), some (D.lst (ps.map D.int))] : TI.Env)[0]? = some (box xs (a + 1)) from rfl, show unlend (D.lst (ps.map D.int)) ([some (box xs (a + 1)), some (D.lst (ps.map D.int))] : TI.Env)[1]? = some (.lst (ps.map D.int)) from rfl]
  rw [stL_cons, b_law_wave_1]
  simp -implicitDefEqProofs only [getS_some, e2, onRet_ret, add_ii, asI_i, unl_b]
  rw [show (1 + v : Int) = (m : Int) by omega, show smallI (m : Int) = true from small_lenK m (by omega), ck_true, Int.toNat_natCast, rng_map, show hidOk [some (box xs (a + 1 + 1)), some (.lst (ps.map D.int)), some (.int L), none, none, none] [4] = true from rfl, ck_true, lc1, List.nil_append, srt_ok vs (by omega)]
  rw [show (wipeB [some (box xs a2), some (.lst (ps.map D.int)), some (.int L), none, y4, none] [some (box xs (a + 1 + 1)), some (.lst (ps.map D.int)), some (.int L), none, none, none] [4]).set 3 (some (.lst ((sortU vs).map D.int))) = [some (box xs a2), some (.lst (ps.map D.int)), some (.int L), some (.lst ((sortU vs).map D.int)), none, none] from rfl]
  rw [stL_cons, b_law_wave_2]
  simp -implicitDefEqProofs only [getS_some, lck_l (pus_ints _), seq_k]
  rw [show hidOk [some (box xs a2), some (.lst (ps.map D.int)), some (.int L), some (.lck ((sortU vs).map D.int)), none, none] [5] = true from rfl, ck_true, lc2, List.nil_append]
  simp -implicitDefEqProofs only [dTup_l (cn_pus _)]
  rfl
theorem tide_draw (a : Nat) (ps : List Int) (hps : ps ≠ []) (hp : ∀ p ∈ ps, 0 < p) (most : Nat) (hmost : most ≤ 8) : ∃ h ws a', Sm h ∧ ws.length ≤ most ∧ (∀ w ∈ ws, WavG ps w) ∧ cl g wf (n + 5) "_law_tide" [box xs a, .lst (ps.map D.int), .int (most : Int)] = .ret (tdD h ws) [some (box xs a'), some (.lst (ps.map D.int)), none] := by
  have hsz : (1000 : Nat) ≤ szLine := by unfold szLine; omega
  obtain ⟨h, hh, e1⟩ := height_draw g wf (n + 1) xs a
  obtain ⟨v, v0, v1, o1, e2⟩ := draw_ok g wf (n + 3) xs (a + 2) ((most : Int) + 1) (by omega)
  obtain ⟨m, rfl⟩ : ∃ m : Nat, v = (m : Int) := ⟨v.toNat, by omega⟩
  obtain ⟨⟨a2, y3⟩, ws, Q1, lc1⟩ := lc_rel (b_law_tide_0_lc1 g wf (n + 4)) (fun (i : Nat) => D.int (i : Int)) wvD (fun _ w => WavG ps w) (fun (b : Nat × Option D) => [some (box xs b.1), some (.lst (ps.map D.int)), some (.int (most : Int)), b.2]) (List.range' 0 m) [] (a + 2 + 1, none) (fun i _ b => by
    obtain ⟨w, a', hw, e⟩ := wave_draw g wf n xs b.1 ps hps hp
    refine ⟨(a', some (.int (i : Int))), w, hw, fun k2 => ?_⟩
    rw [b_law_tide_0_lc1_x]
    simp -implicitDefEqProofs only [getS_some, e, onRet_ret]
    rfl) (by rw [List.length_range']; show 0 + m < szLine; omega)
  have hlen := Q1.len
  rw [List.length_range'] at hlen
  refine ⟨h, ws, a2, hh, by omega, fun w hw => (Q1.mem w hw).elim fun _ q => q.2, ?_⟩
  rw [cl_run g wf (n + 4) "_law_tide" df_law_tide _ (by kernel_rfl), show env0 df_law_tide [box xs a, .lst (ps.map D.int), .int (most : Int)] = [some (box xs a), some (.lst (ps.map D.int)), some (.int (most : Int)), none] from rfl]
  rw [b_law_tide_q, stL_cons, b_law_tide_0]
  simp -implicitDefEqProofs only [getS_some, e1, onRet_ret, unl_b, add_ii, e2, asI_i]
  rw [show smallI (m : Int) = true from small_lenK m (by omega), ck_true, Int.toNat_natCast, rng_map, show hidOk [some (box xs (a + 2 + 1)), some (.lst (ps.map D.int)), some (.int (most : Int)), none] [3] = true from rfl, ck_true, lc1, List.nil_append, dTup_l (wv_pus _)]
  rfl
end
end K00
set_option Elab.async false
set_option linter.all false
set_option maxRecDepth 100000
set_option maxHeartbeats 4000000
/-! the defs of the text, as the evaluator runs them -/
namespace K00
open PySem PySem.Spec PyProof.Rows L2 TI
/-! BODY -/
/-! a ratio's text; one minute of the law -/
open RQ RW
def tS (i : Int) : Str := Str.ofString (toString i)
theorem tS_neg : ∀ m : Nat, m < 64 → 0 < m → tS (-(m : Int)) = ("-" : Str) ++ tS (m : Int) := by decide +kernel
theorem tS_len : ∀ m : Nat, m < 64 → (tS (m : Int)).length ≤ 10 := by decide +kernel
theorem tS_lenN : ∀ m : Nat, m < 64 → (tS (-(m : Int))).length ≤ 10 := by decide +kernel
theorem str_ii {i : Int} (h : i.natAbs < 64) (k : D → Res) : dStr (.int i) k = k (.str (tS i)) := by
  show ckK (decide (i.natAbs.log2 < 1920)) _ = _
  have : i.natAbs.log2 < 1920 := by
    have := (show Bd 6 i from h).log
    omega
  rw [decide_eq_true this]
  rfl
theorem frz_s (p : Bool) (x : Str) (k : D → Res) : frzK p (.str x) k = k (.str x) := rfl
theorem frz_t (p : Bool) (l : List D) (k : D → Res) : frzK p (.tup l) k = k (.tup l) := rfl
theorem frz_i (p : Bool) (i : Int) (k : D → Res) : frzK p (.int i) k = k (.int i) := rfl
theorem frz_n (p : Bool) (k : D → Res) : frzK p .non k = k .non := rfl
theorem lstP_nil (k : List D → Res) : lstP' (.lst []) k = k [] := rfl
theorem digs_ok (g : List D → Res) (wf n : Nat) (m : Nat) (hm : m < 64) : ∃ fin, cl g (wf + 1) (n + 1) "_digits" [.int (m : Int)] = .ret (.str (tS (m : Int))) fin := by
  have hz : (1000 : Nat) ≤ szLine := by unfold szLine; omega
  have hl := tS_len m hm
  rw [cl_run g (wf + 1) n "_digits" df_digits _ (by kernel_rfl), show env0 df_digits [.int (m : Int)] = [some (.int (m : Int)), none, none] from rfl]
  simp -implicitDefEqProofs only [b_digits_q, b_digits_0, b_digits_1, b_digits_1w, b_digits_2, stL_cons, stL_nil, getS_some, le_ii, decide_eq_false (show ¬ (10000000000000000000000000000000000000000000000000000000000000000 : Int) ≤ (m : Int) by omega), asS_s, cemp, str_ii (show ((m : Int)).natAbs < 64 by omega), frz_s, lstP_nil, List.reverse_nil, List.append_nil, List.length_cons, List.length_nil, decide_eq_true (show 0 + 1 ≤ szLine by omega), ck_true, join_1 (tS (m : Int)) (by omega)]
  exact ⟨_, rfl⟩
/-- the law's own text of a ratio -/
def txS (r : Rat) : Str := if r.den = 1 then tS r.num else tS r.num ++ ("/" : Str) ++ tS (r.den : Int)
theorem app_len' (a b : Str) : (a ++ b).length = a.length + b.length := by rw [← Ls_len, Ls_append, List.length_append, Ls_len, Ls_len]
theorem ret_s (x : Str) (a b : Res) : retK (.str x) a b = a := rfl
theorem len1 (c : Nat) : (one c).length = 1 := rfl
theorem c47 : (("/" : Str)) = one 47 := by decide +kernel
theorem write_ok (g : List D → Res) (wf n : Nat) {r : Rat} (h1 : r.num.natAbs < 64) (h2 : r.den < 64) : ∃ fin, cl g (wf + 1) (n + 2) "write_ratio" [rt r] = .ret (.str (txS r)) fin := by
  have hz : (1000 : Nat) ≤ szLine := by unfold szLine; omega
  obtain ⟨f2, e2⟩ := digs_ok g wf n r.den h2
  have l2 := tS_len r.den h2
  rw [cl_run g (wf + 1) (n + 1) "write_ratio" df_write_ratio _ (by kernel_rfl), show env0 df_write_ratio [rt r] = [some (rt r), none, none, none] from rfl]
  have key : ∀ (E : Nx), ∃ o1, st1 g (wf + 1) (n + 1) df_write_ratio 58 (at1 b_write_ratio 1) [some (rt r), some (.int r.num), some (.int (r.den : Int)), none] E = E.nx [some (rt r), o1, some (.int (r.den : Int)), some (.str (tS r.num))] := by
    intro E
    rw [b_write_ratio_1]
    by_cases h0 : 0 ≤ r.num
    · obtain ⟨m, hm⟩ : ∃ m : Nat, r.num = (m : Int) := ⟨r.num.toNat, by omega⟩
      rw [hm] at h1 ⊢
      obtain ⟨f1, e1⟩ := digs_ok g wf n m (by omega)
      simp -implicitDefEqProofs only [getS_some, le_ii, decide_eq_true (show (0 : Int) ≤ (m : Int) by omega), e1, onRet_ret, unl_i]
      exact ⟨_, rfl⟩
    · obtain ⟨m, hm⟩ : ∃ m : Nat, r.num = -(m : Int) := ⟨(-r.num).toNat, by omega⟩
      rw [hm] at h0 h1 ⊢
      obtain ⟨f1, e1⟩ := digs_ok g wf n m (by omega)
      have l1 := tS_len m (by omega)
      simp -implicitDefEqProofs only [getS_some, le_ii, decide_eq_false h0, neg_i, Int.neg_neg, e1, onRet_ret, add_ss, c45, len1, decide_eq_true (show 1 + (tS (m : Int)).length ≤ szLine by omega), ck_true]
      rw [tS_neg m (by omega) (by omega), c45]
      exact ⟨_, rfl⟩
  have lr : (tS r.num).length ≤ 10 := by
    by_cases h0 : 0 ≤ r.num
    · have := tS_len r.num.toNat (by omega)
      rwa [show ((r.num.toNat : Nat) : Int) = r.num by omega] at this
    · have := tS_lenN (-r.num).toNat (by omega)
      rwa [show -(((-r.num).toNat : Nat) : Int) = r.num by omega] at this
  rw [b_write_ratio_q, stL_cons, b_write_ratio_0]
  simp -implicitDefEqProofs only [getS_some, pu_tt, ck_true, unp2, cons_c, nil_n]
  rw [stL_cons]
  obtain ⟨o1, e1⟩ := key ⟨fun ρ1 => stL g (wf + 1) (n + 1) df_write_ratio 58 [at1 b_write_ratio 2] ρ1 (nx0 df_write_ratio.np), (nx0 df_write_ratio.np).bk, (nx0 df_write_ratio.np).ct, (nx0 df_write_ratio.np).rt⟩
  rw [e1]
  dsimp only
  rw [stL_cons, b_write_ratio_2]
  unfold txS
  by_cases hd : r.den = 1
  · rw [if_pos hd]
    simp -implicitDefEqProofs only [getS_some, eq_ii, decide_eq_true (show (r.den : Int) = 1 by omega), ret_s]
    exact ⟨_, rfl⟩
  · rw [if_neg hd]
    simp -implicitDefEqProofs only [getS_some, eq_ii, decide_eq_false (show ¬ (r.den : Int) = 1 by omega), add_ss, c47, len1, decide_eq_true (show (tS r.num).length + 1 ≤ szLine by omega), ck_true, e2, onRet_ret, app_len', decide_eq_true (show (tS r.num).length + 1 + (tS (r.den : Int)).length ≤ szLine by omega), unl_i]
    exact ⟨_, rfl⟩
theorem mul_s (a : Str) (j : Int) (h : j.natAbs ≤ 100000) (hl : a.length * j.toNat ≤ szLine) (k : D → Res) : dMul (.str a) (.int j) k = k (.str (repS a j.toNat)) := by
  show ckK (decide (j.natAbs ≤ 100000) && decide (a.length * j.toNat ≤ szLine)) _ = _
  rw [decide_eq_true h, decide_eq_true hl]
  rfl
theorem rep1 (a : Str) : repS a 1 = a := by
  unfold repS
  apply Str_ext
  simp
theorem rep0 (a : Str) : repS a 0 = emp := by
  unfold repS
  apply Str_ext
  simp
theorem app_emp (a : Str) : a ++ emp = a := by
  apply Str_ext
  show Ls (a ++ emp) = Ls a
  rw [Ls_append]
  simp [Ls, emp]
theorem ltext_ok (g : List D → Res) (wf n : Nat) {r : Rat} (h1 : r.num.natAbs < 64) (h2 : r.den < 64) : ∃ fin, cl g wf (n + 1) "_law_ratio_text" [rt r] = .ret (.str (txS r)) fin := by
  have hz : (1000 : Nat) ≤ szLine := by unfold szLine; omega
  have l2 := tS_len r.den h2
  have lr : (tS r.num).length ≤ 10 := by
    by_cases h0 : 0 ≤ r.num
    · have := tS_len r.num.toNat (by omega)
      rwa [show ((r.num.toNat : Nat) : Int) = r.num by omega] at this
    · have := tS_lenN (-r.num).toNat (by omega)
      rwa [show -(((-r.num).toNat : Nat) : Int) = r.num by omega] at this
  rw [cl_run g wf n "_law_ratio_text" df_law_ratio_text _ (by kernel_rfl), show env0 df_law_ratio_text [rt r] = [some (rt r)] from rfl]
  unfold txS
  have la : (one 47 ++ tS (r.den : Int)).length = 1 + (tS (r.den : Int)).length := by rw [app_len']; rfl
  by_cases hd : r.den = 1
  · rw [if_pos hd]
    simp -implicitDefEqProofs only [b_law_ratio_text_q, b_law_ratio_text_0, stL_cons, stL_nil, getS_some, t2_0, t2_1, str_ii h1, str_ii (show ((r.den : Nat) : Int).natAbs < 64 by omega), add_ss, c47, len1, decide_eq_true (show 1 + (tS (r.den : Int)).length ≤ szLine by omega), ck_true, eq_ii, decide_eq_true (show (r.den : Int) = 1 by omega), bnot_t, int_b, Bool.false_eq_true, if_false, mul_s (one 47 ++ tS (r.den : Int)) 0 (by decide) (by rw [Int.toNat_zero, Nat.mul_zero]; omega), Int.toNat_zero, rep0, show (emp : Str).length = 0 from rfl, Nat.add_zero, decide_eq_true (show (tS r.num).length ≤ szLine by omega), app_emp]
    exact ⟨_, rfl⟩
  · rw [if_neg hd]
    simp -implicitDefEqProofs only [b_law_ratio_text_q, b_law_ratio_text_0, stL_cons, stL_nil, getS_some, t2_0, t2_1, str_ii h1, str_ii (show ((r.den : Nat) : Int).natAbs < 64 by omega), add_ss, c47, len1, decide_eq_true (show 1 + (tS (r.den : Int)).length ≤ szLine by omega), ck_true, eq_ii, decide_eq_false (show ¬ (r.den : Int) = 1 by omega), bnot_f, int_b, if_true, mul_s (one 47 ++ tS (r.den : Int)) 1 (by decide) (by rw [la]; show (1 + (tS (r.den : Int)).length) * 1 ≤ szLine; omega), show (1 : Int).toNat = 1 from rfl, rep1, la, decide_eq_true (show (tS r.num).length + (1 + (tS (r.den : Int)).length) ≤ szLine by omega)]
    rw [show tS r.num ++ one 47 ++ tS (r.den : Int) = tS r.num ++ (one 47 ++ tS (r.den : Int)) from by apply Str_ext; show Ls _ = Ls _; rw [Ls_append, Ls_append, Ls_append, Ls_append, List.append_assoc]]
    exact ⟨_, rfl⟩
end K00
set_option Elab.async false
set_option linter.all false
set_option maxRecDepth 100000
set_option maxHeartbeats 4000000
/-! the defs of the text, as the evaluator runs them -/
namespace K00
open PySem PySem.Spec PyProof.Rows L2 TI
/-! BODY -/
/-! the minutes of the law -/
open RQ RW
abbrev ps0 : List Int := [1, 2, 3, 4, 5, 6, 8, 12, 24]
theorem ps0_in {p : Int} (h : p ∈ ps0) : 0 < p ∧ p ≤ 24 := by
  simp -implicitDefEqProofs only [List.mem_cons, List.not_mem_nil, or_false] at h
  rcases h with rfl | rfl | rfl | rfl | rfl | rfl | rfl | rfl | rfl <;> exact ⟨by decide, by decide⟩
theorem wok_of {w : Wv} (h : WavG ps0 w) : Wok 5 5 2 w := ⟨h.o, by have := h.len; omega, by have := (ps0_in h.per).2; show w.L < 32; omega, fun c hc => (h.sm c hc).b⟩
theorem Wok.mono {k p q p' q' : Nat} {w : Wv} (h : Wok k p q w) (e : p ≤ p') (f : q ≤ q') : Wok k p' q' w := ⟨h.o, h.len, h.b.per, fun c hc => (h.b.hts c hc).mono e f⟩
/-- a drawn tide -/
structure Gd (h : Rat) (ws : List Wv) : Prop where
  h : Sm h
  n : ws.length ≤ 3
  w : ∀ w ∈ ws, WavG ps0 w
theorem vl_rt (r : Rat) : Vl 1 (rt r) := .tup 0 _ (fun d hd => by
  rcases List.mem_cons.mp hd with rfl | hd
  · exact .int _ _
  · rw [List.mem_singleton.mp hd]; exact .int _ _) (by show 2 ≤ szLine; unfold szLine; omega)
theorem eq_l0 (k : Bool → Res) : dEq (.lst []) (.lst []) k = k true := by kernel_rfl
theorem l4_0 (a b c d : D) (k : D → Res) : dIx (.lst [a, b, c, d]) (.int 0) k = k a := rfl
theorem l4_1 (a b c d : D) (k : D → Res) : dIx (.lst [a, b, c, d]) (.int 1) k = k b := rfl
theorem l4_2 (a b c d : D) (k : D → Res) : dIx (.lst [a, b, c, d]) (.int 2) k = k c := rfl
theorem l4_3 (a b c d : D) (k : D → Res) : dIx (.lst [a, b, c, d]) (.int 3) k = k d := rfl
theorem wat_neg (h : Rat) (ws : List Wv) (hw : ∀ w ∈ ws, w.cs ≠ []) (t : Int) : wat (h * -1) (ws.map (grown (-1))) t = wat h ws t * -1 := wat_grown (-1) h ws hw t
theorem cmp_int (x y : Rat) : (if decide (y < x) then (1 : Int) else 0) - (if decide (x < y) then (1 : Int) else 0) = cmpQ x y := by
  unfold cmpQ
  by_cases a : x < y
  · have b : ¬ y < x := fun z => by grind
    simp [a, b]
  · by_cases b : y < x <;> simp [a, b]
section
variable (g : List D → Res) (wf n : Nat) {h1 h2 kk : Rat} {ws us : List Wv} (G1 : Gd h1 ws) (G2 : Gd h2 us) (hk : Sm kk) (s : Int)
abbrev ways (h1 h2 kk : Rat) (ws us : List Wv) (s : Int) : List D := [tdD h1 (ws.map (mvW s)), tdD (h1 * kk) (ws.map (grown kk)), tdD (h1 + h2) (ws ++ us), tdD (h1 + h2 * -1) (ws ++ us.map (grown (-1)))]
abbrev dues (h1 h2 kk : Rat) (ws us : List Wv) (s t : Int) : List D := [rt (wat h1 ws (t - s)), rt (wat h1 ws t * kk), rt (wat h1 ws t + wat h2 us t), rt (wat h1 ws t - wat h2 us t)]
include G1
theorem w_one (t : Int) : (∃ fin, cl g wf (n + 5) "water" [tdD h1 ws, .int t] = .ret (rt (wat h1 ws t)) fin) ∧ (∃ fin, cl g wf (n + 5) "_law_water" [tdD h1 ws, .int t] = .ret (rt (wat h1 ws t)) fin) ∧ Bq 400 40 (wat h1 ws t) := by
  have hw : ∀ w ∈ ws, Wok 5 5 2 w := fun w hw => wok_of (G1.w w hw)
  have hn := G1.n
  obtain ⟨a, b⟩ := water_ok g wf (n + 2) (k := 5) (p := 5) (q := 2) (c := 100) (by decide) (by decide) (by decide) ws t hw G1.h.b (by omega) (by omega) (by omega) (by decide)
  obtain c := lwater_ok g wf n (k := 5) (p := 5) (q := 2) (c := 100) (by decide) (by decide) (by decide) (by decide) ws t hw G1.h.b (by omega) (by omega) (by omega) (by decide)
  exact ⟨a, c, b.mono (by omega) (by omega)⟩
theorem w_later (t : Int) : ∃ fin, cl g wf (n + 5) "water" [tdD h1 (ws.map (mvW s)), .int t] = .ret (rt (wat h1 ws (t - s))) fin := by
  have hn := G1.n
  obtain ⟨a, _⟩ := water_ok g wf (n + 2) (k := 5) (p := 5) (q := 2) (c := 100) (by decide) (by decide) (by decide) (ws.map (mvW s)) (h := h1) t (fun w hw => by
    obtain ⟨x, hx, rfl⟩ := List.mem_map.mp hw
    exact mvW_wok (wok_of (G1.w x hx)) s) G1.h.b (by rw [List.length_map]; omega) (by rw [List.length_map]; omega) (by rw [List.length_map]; omega) (by decide)
  rw [wat_mv h1 s t ws fun w hw => (G1.w w hw).o] at a
  exact a
include hk in
theorem w_times (t : Int) : ∃ fin, cl g wf (n + 5) "water" [tdD (h1 * kk) (ws.map (grown kk)), .int t] = .ret (rt (wat h1 ws t * kk)) fin := by
  have hn := G1.n
  obtain ⟨a, _⟩ := water_ok g wf (n + 2) (k := 5) (p := 10) (q := 4) (c := 200) (by decide) (by decide) (by decide) (ws.map (grown kk)) (h := h1 * kk) t (fun w hw => by
    obtain ⟨x, hx, rfl⟩ := List.mem_map.mp hw
    exact grown_wok (wok_of (G1.w x hx)) hk.b) (Bq.mul G1.h.b hk.b) (by rw [List.length_map]; omega) (by rw [List.length_map]; omega) (by rw [List.length_map]; omega) (by decide)
  rw [wat_grown kk h1 ws (fun w hw => (G1.w w hw).o.ne) t] at a
  exact a
include G2
theorem w_added (t : Int) : ∃ fin, cl g wf (n + 5) "water" [tdD (h1 + h2) (ws ++ us), .int t] = .ret (rt (wat h1 ws t + wat h2 us t)) fin := by
  have hn := G1.n
  have hm := G2.n
  have hl : (ws ++ us).length ≤ 6 := by rw [List.length_append]; omega
  obtain ⟨a, _⟩ := water_ok g wf (n + 2) (k := 5) (p := 5) (q := 2) (c := 200) (by decide) (by decide) (by decide) (ws ++ us) (h := h1 + h2) t (fun w hw => by
    rcases List.mem_append.mp hw with hw | hw
    · exact wok_of (G1.w w hw)
    · exact wok_of (G2.w w hw)) (Bq.add G1.h.b G2.h.b (p := 7) (by decide) (by decide)) (by omega) (by omega) (by omega) (by decide)
  rw [wat_add] at a
  exact a
theorem w_taken (t : Int) : ∃ fin, cl g wf (n + 5) "water" [tdD (h1 + h2 * -1) (ws ++ us.map (grown (-1))), .int t] = .ret (rt (wat h1 ws t - wat h2 us t)) fin := by
  have hn := G1.n
  have hm := G2.n
  have hl : (ws ++ us.map (grown (-1))).length ≤ 6 := by rw [List.length_append, List.length_map]; omega
  obtain ⟨a, _⟩ := water_ok g wf (n + 2) (k := 5) (p := 6) (q := 3) (c := 200) (by decide) (by decide) (by decide) (ws ++ us.map (grown (-1))) (h := h1 + h2 * -1) t (fun w hw => by
    rcases List.mem_append.mp hw with hw | hw
    · exact (wok_of (G1.w w hw)).mono (by decide) (by decide)
    · obtain ⟨x, hx, rfl⟩ := List.mem_map.mp hw
      exact grown_wok (wok_of (G2.w x hx)) bq_neg1) (Bq.add G1.h.b (Bq.mul G2.h.b bq_neg1) (p := 8) (by decide) (by decide)) (by omega) (by omega) (by omega) (by decide)
  rw [wat_add, wat_neg h2 us (fun w hw => (G2.w w hw).o.ne) t, show wat h1 ws t + wat h2 us t * -1 = wat h1 ws t - wat h2 us t from by grind] at a
  exact a
include hk
theorem law_min (x0 x1 x2 y12 y13 y14 y15 y16 : Option D) (t : Int) (z8 y9 y10 y11 : Option D) : ∀ E, fst g wf (n + 5) df_law 51 (at1 b_law 8) (.int t) [x0, x1, x2, some (tdD h1 ws), some (tdD h2 us), some (.int s), some (rt kk), some (.lst (ways h1 h2 kk ws us s)), z8, y9, y10, y11, y12, y13, y14, y15, y16, none] E =
    E.nx [x0, x1, x2, some (tdD h1 ws), some (tdD h2 us), some (.int s), some (rt kk), some (.lst (ways h1 h2 kk ws us s)), some (.int t), some (rt (wat h1 ws t)), some (rt (wat h2 us t)), some (.lst (dues h1 h2 kk ws us s t)), y12, y13, y14, y15, y16, none] := by
  obtain ⟨⟨f1, e1⟩, ⟨f2, e2⟩, B1⟩ := w_one g wf n G1 t
  obtain ⟨_, ⟨f3, e3⟩, B2⟩ := w_one g wf n G2 t
  obtain ⟨_, ⟨f4, e4⟩, B3⟩ := w_one g wf n G1 (t - s)
  obtain ⟨f5, e5⟩ := w_later g wf n G1 s t
  obtain ⟨f6, e6⟩ := w_times g wf n G1 hk t
  obtain ⟨f7, e7⟩ := w_added g wf n G1 G2 t
  obtain ⟨f8, e8⟩ := w_taken g wf n G1 G2 t
  obtain ⟨f9, e9⟩ := lproduct_ok g wf (n + 2) B1 hk.b (by decide) (by decide) (by decide)
  obtain ⟨f10, e10⟩ := lplus_ok g wf (n + 2) B1 B2 (by decide) (by decide) (by decide)
  obtain ⟨f11, e11⟩ := lminus_ok g wf (n + 2) B1 B2 (by decide) (by decide) (by decide)
  obtain ⟨f12, e12⟩ := plus_ok g wf (n + 3) B1 B2 (by decide) (by decide) (by decide) (by decide)
  obtain ⟨f13, e13⟩ := minus_ok g wf (n + 3) B1 B2 (by decide) (by decide) (by decide) (by decide)
  obtain ⟨f14, e14⟩ := product_ok g wf (n + 3) B1 hk.b (by decide) (by decide) (by decide) (by decide)
  obtain ⟨f15, e15⟩ := compare_ok g wf (n + 4) B1 B2 (by decide) (by decide) (by decide) (by decide)
  obtain ⟨f16, e16⟩ := lless_ok g wf (n + 4) B2 B1 (by decide) (by decide) (by decide) (by decide)
  obtain ⟨f17, e17⟩ := lless_ok g wf (n + 4) B1 B2 (by decide) (by decide) (by decide) (by decide)
  have lk : ∀ r : Rat, ∃ fin, cl g wf (n + 5) "_law_like" [rt r, rt r] = .ret (.bl true) fin := fun r => like_ok g wf 1 _ (vl_rt r) (n + 5) (by omega)
  have li : ∀ i : Int, cl g wf (n + 5) "_law_like" [.int i, .int i] = .ret (.bl true) [none, none] := fun i => by rw [l_int, decide_eq_true rfl]
  obtain ⟨q1, k1⟩ := lk (wat h1 ws t)
  obtain ⟨q2, k2⟩ := lk (wat h1 ws t + wat h2 us t)
  obtain ⟨q3, k3⟩ := lk (wat h1 ws t - wat h2 us t)
  obtain ⟨q4, k4⟩ := lk (wat h1 ws t * kk)
  obtain ⟨q5, k5⟩ := lk (wat h1 ws (t - s))
  have hc := cmp_int (wat h1 ws t) (wat h2 us t)
  intro E
  obtain ⟨b', lc⟩ := lc_gen (b_law_8b_3_lc1 g wf (n + 5)) (fun (i : Nat) => D.int (i : Int)) (fun _ => none) (fun b => [x0, x1, x2, some (tdD h1 ws), some (tdD h2 us), some (.int s), some (rt kk), some (.lst (ways h1 h2 kk ws us s)), some (.int t), some (rt (wat h1 ws t)), some (rt (wat h2 us t)), some (.lst (dues h1 h2 kk ws us s t)), y12, y13, y14, y15, y16, b]) (List.range' 0 4) [] none (fun i hi b => ⟨some (.int (i : Int)), fun kz => by
    rw [b_law_8b_3_lc1_x]
    have h4 : i = 0 ∨ i = 1 ∨ i = 2 ∨ i = 3 := by
      have := List.mem_range'_1.mp hi
      omega
    rcases h4 with rfl | rfl | rfl | rfl
    · simp -implicitDefEqProofs only [getS_some, show ((0 : Nat) : Int) = 0 from rfl, l4_0, pu_t, e5, onRet_ret, k5, tru_b, bnot_t, unl_i]
    · simp -implicitDefEqProofs only [getS_some, show ((1 : Nat) : Int) = 1 from rfl, l4_1, pu_t, e6, onRet_ret, k4, tru_b, bnot_t, unl_i]
    · simp -implicitDefEqProofs only [getS_some, show ((2 : Nat) : Int) = 2 from rfl, l4_2, pu_t, e7, onRet_ret, k2, tru_b, bnot_t, unl_i]
    · simp -implicitDefEqProofs only [getS_some, show ((3 : Nat) : Int) = 3 from rfl, l4_3, pu_t, e8, onRet_ret, k3, tru_b, bnot_t, unl_i]⟩) (by rw [List.length_range']; show 0 + 4 < szLine; unfold szLine; omega)
  rw [b_law_8x, b_law_8b_q, stL_cons, b_law_8b_0]
  simp -implicitDefEqProofs only [getS_some, e2, e3, onRet_ret, unl_t, unl_i]
  rw [stL_cons, b_law_8b_1]
  simp -implicitDefEqProofs only [getS_some, e1, onRet_ret, k1, tru_b, bnot_t, unl_t, unl_i, b_law_8b_1f_q, stL_nil]
  rw [stL_cons, b_law_8b_2]
  simp -implicitDefEqProofs only [getS_some, sub_ii, e4, e9, e10, e11, onRet_ret, unl_t, unl_i]
  rw [stL_cons, b_law_8b_3]
  rw [show smallI 4 = true from by decide, ck_true, show hidOk [x0, x1, x2, some (tdD h1 ws), some (tdD h2 us), some (.int s), some (rt kk), some (.lst (ways h1 h2 kk ws us s)), some (.int t), some (rt (wat h1 ws t)), some (rt (wat h2 us t)), some (.lst (dues h1 h2 kk ws us s t)), y12, y13, y14, y15, y16, none] [17] = true from rfl, ck_true, show rngL 0 (4 : Int).toNat = _ from rngL_nat 4, lc]
  rw [show (List.range' 0 4).filterMap (fun (_ : Nat) => (none : Option D)) = [] from rfl, List.append_nil, eq_l0]
  rw [show wipeB [x0, x1, x2, some (tdD h1 ws), some (tdD h2 us), some (.int s), some (rt kk), some (.lst (ways h1 h2 kk ws us s)), some (.int t), some (rt (wat h1 ws t)), some (rt (wat h2 us t)), some (.lst (dues h1 h2 kk ws us s t)), y12, y13, y14, y15, y16, b'] [x0, x1, x2, some (tdD h1 ws), some (tdD h2 us), some (.int s), some (rt kk), some (.lst (ways h1 h2 kk ws us s)), some (.int t), some (rt (wat h1 ws t)), some (rt (wat h2 us t)), some (.lst (dues h1 h2 kk ws us s t)), y12, y13, y14, y15, y16, none] [17] = [x0, x1, x2, some (tdD h1 ws), some (tdD h2 us), some (.int s), some (rt kk), some (.lst (ways h1 h2 kk ws us s)), some (.int t), some (rt (wat h1 ws t)), some (rt (wat h2 us t)), some (.lst (dues h1 h2 kk ws us s t)), y12, y13, y14, y15, y16, none] from rfl]
  simp -implicitDefEqProofs only [bnot_t, b_law_8b_3f_q, stL_nil]
  rw [stL_cons, b_law_8b_4]
  simp -implicitDefEqProofs only [getS_some, e12, e13, e14, l4_1, l4_2, l4_3, pu_t, k2, k3, k4, onRet_ret, tru_b, bnot_t, unl_t, unl_i, b_law_8b_4f_q, stL_nil]
  rw [stL_cons, b_law_8b_5]
  simp -implicitDefEqProofs only [getS_some, e15, e16, e17, int_b, sub_ii, onRet_ret, unl_t, hc, li, tru_b, bnot_t, b_law_8b_5f_q, stL_nil]
theorem law_mins (x0 x1 x2 y12 y13 y14 y15 y16 : Option D) : ∀ (l : List Int) (z8 y9 y10 y11 : Option D), ∃ z8' y9' y10' y11', ∀ E, forC (fst g wf (n + 5) df_law 51 (at1 b_law 8)) (l.map D.int) [x0, x1, x2, some (tdD h1 ws), some (tdD h2 us), some (.int s), some (rt kk), some (.lst (ways h1 h2 kk ws us s)), z8, y9, y10, y11, y12, y13, y14, y15, y16, none] E =
    E.nx [x0, x1, x2, some (tdD h1 ws), some (tdD h2 us), some (.int s), some (rt kk), some (.lst (ways h1 h2 kk ws us s)), z8', y9', y10', y11', y12, y13, y14, y15, y16, none]
  | [], z8, y9, y10, y11 => ⟨z8, y9, y10, y11, fun E => rfl⟩
  | t :: l, z8, y9, y10, y11 => by
    obtain ⟨a, b, c, d, e⟩ := law_mins x0 x1 x2 y12 y13 y14 y15 y16 l (some (.int t)) (some (rt (wat h1 ws t))) (some (rt (wat h2 us t))) (some (.lst (dues h1 h2 kk ws us s t)))
    refine ⟨a, b, c, d, fun E => ?_⟩
    rw [List.map_cons, forC_cons, law_min g wf n G1 G2 hk s]
    exact e E
end
end K00
set_option Elab.async false
set_option linter.all false
set_option maxRecDepth 100000
set_option maxHeartbeats 4000000
/-! the defs of the text, as the evaluator runs them -/
namespace K00
open PySem PySem.Spec PyProof.Rows L2 TI
/-! BODY -/
/-! the law -/
open RQ RW
theorem is_bt (b : Bool) (k : Bool → Res) : dIs (.bl b) (.bl b) k = k true := by
  show k (decide (b = b)) = _
  rw [decide_eq_true rfl]
def ltl (x y : D) : Prop := True
theorem l2_0 (a b : D) (k : D → Res) : dIx (.lst [a, b]) (.int 0) k = k a := rfl
theorem l2_1 (a b : D) (k : D → Res) : dIx (.lst [a, b]) (.int 1) k = k b := rfl
theorem seq_l {l : List D} (h : D.pus l = true) (k : List D → Res) : seqV false (.lst l) k = k l := by
  show ckK (!false) (pusK l (k l)) = _
  rw [pusK_t h]
  rfl
theorem frz_l {l : List D} (h : D.pus l = true) (k : D → Res) : frzK false (.lst l) k = k (.rol l) := by
  show ckK (!false) (pusK l (k (.rol l))) = _
  rw [pusK_t h]
  rfl
section
variable (g : List D → Res) (wf n : Nat)
/-! what is none -/
abbrev wr0 : List D := [.tup [.int 2, .int 4], .tup [.int 1, .int 0], .tup [.int 1, .int (-1)], .tup [.int 0, .int 2], .tup [.bl true, .int 1], .tup [.int 1], .int 1, .non, .rol [.int 1, .int 1], .tup [.int 1, .int 1, .int 1]]
theorem wrong_ok {x : D} (h : x ∈ wr0) : x.pu = true ∧ ∃ fin, cl g wf (n + 1) "is_ratio" [x] = .ret (.bl false) fin := by
  simp -implicitDefEqProofs only [List.mem_cons, List.not_mem_nil, or_false] at h
  rcases h with rfl | rfl | rfl | rfl | rfl | rfl | rfl | rfl | rfl | rfl <;> exact ⟨rfl, [none], by kernel_rfl⟩
abbrev zz : D := .tup [.int 0, .int 1]
abbrev bd0 (d : D) : List D := [d, .tup [.str "tide", .tup [.int 1, .int 61], .tup []], .tup [.str "tide", .tup [.int 1000001, .int 1], .tup []], .tup [.str "tide", zz, .tup [.tup [.str "wave", .int 1801, .tup [.tup [.int 0, zz]]]]], .tup [.str "tide", zz, .tup [.tup [.str "wave", .int 5, .tup []]]]]
abbrev wo0 (d : D) : List D := [d, .tup [.str "tide", zz, .tup [.tup [.str "wave", .int 5, .tup [.tup [.int 5, zz]]]]], .tup [.str "tide", zz, .tup [.tup [.str "wave", .int 5, .tup [.tup [.int 3, zz], .tup [.int 1, zz]]]]], .tup [.str "tide", zz, .rol []], .non]
theorem bad_two (x y : D) : ∃ fin, cl g wf (n + 4) "is_tide" [.tup [x, y]] = .ret (.bl false) fin := by
  rw [cl_run g wf (n + 3) "is_tide" df_is_tide _ (by kernel_rfl), show env0 df_is_tide [.tup [x, y]] = [some (.tup [x, y])] from rfl]
  have e : cl g wf (n + 3) "_is_tide" [.tup [x, y], .fnv "_is_typed"] = .ret (.bl false) [none, none] := by
    rw [cl_run g wf (n + 2) "_is_tide" df_u_is_tide _ (by kernel_rfl), show env0 df_u_is_tide [.tup [x, y], .fnv "_is_typed"] = [some (.tup [x, y]), some (.fnv "_is_typed"), none] from rfl]
    simp -implicitDefEqProofs only [b_u_is_tide_q, b_u_is_tide_0, b_u_is_tide_0t_q, b_u_is_tide_0t_0, stL_cons, stL_nil, getS_some, isi_t, tru_b, bnot_t, bnot_f, len_t, eq_ii, decide_eq_false (show ¬ (([x, y] : List D).length : Int) = 3 from by show ¬ (2 : Int) = 3; decide)]
    rfl
  simp -implicitDefEqProofs only [b_is_tide_q, b_is_tide_0, stL_cons, stL_nil, getS_some, pu_f, e, onRet_ret]
  exact ⟨_, rfl⟩
theorem bad_ok {x a b : D} (h : x ∈ bd0 (.tup [a, b])) : ∃ fin, cl g (wf + 1) (n + 5) "is_tide" [x] = .ret (.bl false) fin := by
  simp -implicitDefEqProofs only [List.mem_cons, List.not_mem_nil, or_false] at h
  rcases h with rfl | rfl | rfl | rfl | rfl
  · exact bad_two g (wf + 1) (n + 1) a b
  all_goals exact ⟨[none], by kernel_rfl⟩
theorem worse_ok {x d : D} (hd : ∃ fin, cl g (wf + 1) (n + 5) "is_tide" [d] = .ret (.bl false) fin) (h : x ∈ wo0 d) : ∃ fin, cl g (wf + 1) (n + 5) "is_tide" [x] = .ret (.bl false) fin := by
  simp -implicitDefEqProofs only [List.mem_cons, List.not_mem_nil, or_false] at h
  rcases h with rfl | rfl | rfl | rfl | rfl
  · exact hd
  all_goals exact ⟨[none], by kernel_rfl⟩
theorem gd_wav {h : Rat} {ws : List Wv} (G : Gd h ws) : ∀ w ∈ ws, w.Ok ∧ w.L ≤ 1800 ∧ w.cs.length ≤ 24 ∧ ∀ c ∈ w.cs, Typ c.2 := fun w hw => ⟨(G.w w hw).o, by have := (ps0_in (G.w w hw).per).2; omega, by have := (G.w w hw).len; omega, fun c hc => ((G.w w hw).sm c hc).t⟩
theorem tx_len {r : Rat} (h1 : r.num.natAbs < 64) (h2 : r.den < 64) : (txS r).length ≤ 30 := by
  have l2 := tS_len r.den h2
  have lr : (tS r.num).length ≤ 10 := by
    by_cases h0 : 0 ≤ r.num
    · have := tS_len r.num.toNat (by omega)
      rwa [show ((r.num.toNat : Nat) : Int) = r.num by omega] at this
    · have := tS_lenN (-r.num).toNat (by omega)
      rwa [show -(((-r.num).toNat : Nat) : Int) = r.num by omega] at this
  unfold txS
  split
  · omega
  · rw [app_len', app_len', c47, len1]; omega
theorem div_sgn (a : Int) {b : Int} (hb : b < 0) : Rat.divInt (a * -1) (b.natAbs : Int) = Rat.divInt a b := by
  rw [Rat.divInt_eq_divInt_iff (by omega) (by omega)]
  rw [show (b.natAbs : Int) = -b by omega]
  grind
theorem div_pos' (a : Int) {b : Int} (hb : 0 < b) : Rat.divInt (a * 1) (b.natAbs : Int) = Rat.divInt a b := by
  rw [Int.mul_one, show (b.natAbs : Int) = b by omega]
theorem cut2 (a b c : D) : cutL [a, b, c] none (some 2) = [a, b] := rfl
theorem ps_pus : D.pus (ps0.map D.int) = true := rfl
theorem unl_bp (xs : List Int) (a : Nat) (d : D) (l : List (Option D)) : unlend (box xs a) (some d :: l)[0]? = some d := rfl
theorem unl_pp (d e : D) (l : List (Option D)) : unlend (.lst (ps0.map D.int)) (some d :: some e :: l)[1]? = some e := rfl
theorem unl_rol (l : List D) (x : Option (Option D)) : unlend (.rol l) x = some (.rol l) := rfl
theorem mul_1440 (v : Int) : mulOk 1440 v = true := mul_l 1440 v (by decide)
theorem law_ok (ns : List Int) : cl g (wf + 1) (n + 6) "law" [.rol (ns.map D.int)] = .ret (.bl true) [none] := by
  obtain ⟨xs, f0, e0⟩ := digits_ok g (wf + 1) (n + 3) ns 63 (by decide)
  obtain ⟨h1, ws, a1, H1, L1, W1, e1⟩ := tide_draw g (wf + 1) n xs 0 ps0 (by simp) (fun p hp => (ps0_in hp).1) 3 (by decide)
  obtain ⟨h2, us, a2, H2, L2, W2, e2⟩ := tide_draw g (wf + 1) n xs a1 ps0 (by simp) (fun p hp => (ps0_in hp).1) 3 (by decide)
  have G1 : Gd h1 ws := ⟨H1, L1, W1⟩
  have G2 : Gd h2 us := ⟨H2, L2, W2⟩
  obtain ⟨s0, _, _, o3, e3⟩ := draw_ok g (wf + 1) (n + 4) xs a2 80 (by decide)
  obtain ⟨kk, hk, e4⟩ := height_draw g (wf + 1) (n + 2) xs (a2 + 1)
  obtain ⟨f5, e5⟩ := istide_ok g (wf + 1) n G1.h.t (by have := G1.n; omega) (gd_wav G1)
  have hw5 : ∀ w ∈ ws, Wok 5 5 2 w := fun w hw => wok_of (G1.w w hw)
  have hu5 : ∀ w ∈ us, Wok 5 5 2 w := fun w hw => wok_of (G2.w w hw)
  have n1 := G1.n
  have n2 := G2.n
  obtain ⟨f6, e6⟩ := times_ok g (wf + 1) (n + 2) (k := 5) (p := 5) (q := 2) (p2 := 5) (q2 := 2) (by decide) (by decide) (by decide) (by decide) h1 ws G1.h.b (by decide) (by decide) hk.b hw5 (by omega)
  obtain ⟨f7, e7⟩ := isany_ok g (wf + 1) n (h := h1 * kk) (ws := ws.map (grown kk)) (by rw [List.length_map]; omega) (fun w hw => by
    obtain ⟨x, hx, rfl⟩ := List.mem_map.mp hw
    obtain ⟨q1, q2, q3, _⟩ := gd_wav G1 x hx
    exact ⟨grown_ok q1, q2, by rw [show (grown kk x).cs = x.cs.map _ from rfl, List.length_map]; exact q3⟩)
  obtain ⟨f8, e8⟩ := later_ok g (wf + 1) (n + 4) h1 ws (s0 - 40) (fun w hw => ⟨(hw5 w hw).o, (hw5 w hw).len⟩) (by omega)
  obtain ⟨f9, e9⟩ := isany_ok g (wf + 1) n (h := h1) (ws := ws.map (mvW (s0 - 40))) (by rw [List.length_map]; omega) (fun w hw => by
    obtain ⟨x, hx, rfl⟩ := List.mem_map.mp hw
    obtain ⟨q1, q2, q3, _⟩ := gd_wav G1 x hx
    have P := srtK_perm (fun c : Int × Rat => c.1) (x.cs.map (mvC x.L (s0 - 40)))
    exact ⟨mvW_ok q1 _, q2, by rw [show (mvW (s0 - 40) x).cs.length = _ from P.length_eq, List.length_map]; exact q3⟩)
  obtain ⟨f10, e10⟩ := added_ok g (wf + 1) (n + 2) h1 h2 ws us G1.h.b G2.h.b (by decide) (by decide) (by decide) (by decide) (by omega)
  obtain ⟨f11, e11⟩ := taken_ok g (wf + 1) (n + 1) h1 h2 ws us G1.h.b G2.h.b (by decide) (by decide) (by decide) (by decide) (by decide) (by decide) hu5 (by omega)
  obtain ⟨v12, _, _, o12, e12⟩ := draw_ok g (wf + 1) (n + 4) xs (a2 + 3) 60 (by decide)
  obtain ⟨v13, _, _, o13, e13⟩ := draw_ok g (wf + 1) (n + 4) xs (a2 + 4) 60 (by decide)
  obtain ⟨v14, _, _, o14, e14⟩ := draw_ok g (wf + 1) (n + 4) xs (a2 + 5) 900 (by decide)
  obtain ⟨v15, _, _, o15, e15⟩ := draw_ok g (wf + 1) (n + 4) xs (a2 + 6) 24 (by decide)
  obtain ⟨v16, v160, v161, o16, e16⟩ := draw_ok g (wf + 1) (n + 4) xs (a2 + 7) 90 (by decide)
  obtain ⟨v17, v170, v171, o17, e17⟩ := draw_ok g (wf + 1) (n + 4) xs (a2 + 8) 30 (by decide)
  obtain ⟨x18, hx18, e18⟩ := pick_ok g (wf + 1) (n + 3) xs (a2 + 9) [.int 1, .int (-1)] (by simp) rfl
  obtain ⟨σ, rfl, hσ⟩ : ∃ σ : Int, x18 = .int σ ∧ (σ = 1 ∨ σ = -1) := by
    simp -implicitDefEqProofs only [List.mem_cons, List.not_mem_nil, or_false] at hx18
    rcases hx18 with rfl | rfl
    · exact ⟨_, rfl, .inl rfl⟩
    · exact ⟨_, rfl, .inr rfl⟩
  obtain ⟨x19, hx19, e19⟩ := pick_ok g (wf + 1) (n + 3) xs (a2 + 10) wr0 (by simp) rfl
  obtain ⟨p19, f20, e20⟩ := wrong_ok g (wf + 1) (n + 4) hx19
  obtain ⟨x21, hx21, e21⟩ := pick_ok g (wf + 1) (n + 3) xs (a2 + 11) (bd0 (.tup [.str "tide", rt h1])) (by simp) rfl
  have p21 : x21.pu = true := pus_mem (l := bd0 (.tup [.str "tide", rt h1])) rfl hx21
  obtain ⟨x22, hx22, e22⟩ := pick_ok g (wf + 1) (n + 3) xs (a2 + 12) (wo0 x21) (by simp) (by show (x21.pu && true) = true; rw [p21]; rfl)
  obtain ⟨f23, e23⟩ := worse_ok g wf n (bad_ok g wf n hx21) hx22
  obtain ⟨z8, z9, z10, z11, lm⟩ := law_mins g (wf + 1) n G1 G2 hk (s0 - 40) (some (.rol (ns.map D.int))) (some (box xs (a2 + 7))) (some (.lst (ps0.map D.int))) none none none none none [0, 1, -1, v12, 0 - v13, 1440 * (v14 - 450) + v15] none none none none
  rw [cl_run g (wf + 1) (n + 5) "law" df_law _ (by kernel_rfl), show env0 df_law [.rol (ns.map D.int)] = [some (.rol (ns.map D.int)), none, none, none, none, none, none, none, none, none, none, none, none, none, none, none, none, none] from rfl]
  rw [b_law_q, stL_cons, b_law_0]
  simp -implicitDefEqProofs only [getS_some, show (D.int 63) = .int ((63 : Nat) : Int) from rfl, e0, onRet_ret, unl_rol]
  rw [show (some (D.lst [.lst (xs.map D.int), .int 0])) = some (box xs 0) from rfl, stL_cons, b_law_1]
  dsimp only
  rw [show (some (D.lst [.int 1, .int 2, .int 3, .int 4, .int 5, .int 6, .int 8, .int 12, .int 24])) = some (.lst (ps0.map D.int)) from rfl, stL_cons, b_law_2]
  simp -implicitDefEqProofs only [getS_some, show (D.int 3) = .int ((3 : Nat) : Int) from rfl, e1, onRet_ret, unl_bp, unl_pp]
  rw [stL_cons, b_law_3]
  simp -implicitDefEqProofs only [getS_some, show (D.int 3) = .int ((3 : Nat) : Int) from rfl, e2, onRet_ret, unl_bp, unl_pp]
  rw [stL_cons, b_law_4]
  simp -implicitDefEqProofs only [getS_some, e3, onRet_ret, unl_bp, sub_ii]
  rw [stL_cons, b_law_5]
  simp -implicitDefEqProofs only [getS_some, e4, onRet_ret, unl_bp]
  rw [stL_cons, b_law_6]
  simp -implicitDefEqProofs only [getS_some, e5, onRet_ret, is_bt, bnot_t, unl_t, unl_r, unl_i, e6, e7, e8, e9, b_law_6f_q, stL_nil]
  rw [stL_cons, b_law_7]
  simp -implicitDefEqProofs only [getS_some, e8, e6, e10, e11, onRet_ret, unl_t, unl_r, unl_i]
  rw [stL_cons, b_law_8]
  simp -implicitDefEqProofs only [sub_ii, getS_some, e12, e13, e14, e15, onRet_ret, unl_bp, mul_ii, mul_1440, ck_true, add_ii]
  rw [seq_l rfl]
  refine (lm _).trans ?_
  dsimp only
  rw [stL_cons, b_law_9]
  have mb : ∀ x : Int, mulOk x σ = true := fun x => mul_r x σ (by rcases hσ with rfl | rfl <;> decide)
  have hb0 : (1 + v17) * σ ≠ 0 := by rcases hσ with rfl | rfl <;> omega
  have hbb : ((1 + v17) * σ).natAbs ≤ 30 := by rcases hσ with rfl | rfl <;> omega
  simp -implicitDefEqProofs only [getS_some, e16, e17, e18, onRet_ret, unl_bp, sub_ii, add_ii, mul_ii, mb, ck_true, show (0 - 1 : Int) = -1 from rfl]
  generalize hB : (1 + v17) * σ = b at *
  have hab : (v16 - 45).natAbs ≤ 45 := by omega
  generalize hA : v16 - 45 = a at *
  have hR : Bq 6 5 (Rat.divInt a b) := by
    by_cases hb : b < 0
    · rw [← div_sgn a hb]
      exact bq_divInt (show (a * -1).natAbs < 2 ^ 6 by omega) (show ((b.natAbs : Int)).natAbs < 2 ^ 5 by omega) (by omega)
    · rw [← div_pos' a (show 0 < b by omega)]
      exact bq_divInt (show (a * 1).natAbs < 2 ^ 6 by omega) (show ((b.natAbs : Int)).natAbs < 2 ^ 5 by omega) (by omega)
  have r1 : (Rat.divInt a b).num.natAbs < 64 := hR.n
  have r2 : (Rat.divInt a b).den < 64 := by
    have : ((Rat.divInt a b).den : Int).natAbs < 32 := hR.d
    omega
  have due : ∀ E, st1 g (wf + 1) (n + 5) df_law 49 (at1 b_law 10) [some (.rol (ns.map D.int)), some (box xs (a2 + 10)), some (.lst (ps0.map D.int)), some (tdD h1 ws), some (tdD h2 us), some (.int (s0 - 40)), some (rt kk), some (.lst (ways h1 h2 kk ws us (s0 - 40))), z8, z9, z10, z11, some (.int a), some (.int b), none, none, none, none] E = E.nx [some (.rol (ns.map D.int)), some (box xs (a2 + 10)), some (.lst (ps0.map D.int)), some (tdD h1 ws), some (tdD h2 us), some (.int (s0 - 40)), some (rt kk), some (.lst (ways h1 h2 kk ws us (s0 - 40))), z8, z9, z10, some (rt (Rat.divInt a b)), some (.int a), some (.int b), none, none, none, none] := by
    intro E
    rw [b_law_10]
    by_cases hb : b < 0
    · obtain ⟨f, e⟩ := lratio_ok g (wf + 1) (n + 3) (q := 5) (a * -1) (b := (b.natAbs : Int)) (by omega) (show ((b.natAbs : Int)).natAbs < 2 ^ 5 by omega) (by decide)
      rw [div_sgn a hb] at e
      simp -implicitDefEqProofs only [getS_some, sub_ii, show (0 - 1 : Int) = -1 from rfl, lt_ii, decide_eq_true hb, int_b, if_true, l2_1, mul_ii, mul_r a (-1) (by decide), ck_true, abs_nat, e, onRet_ret]
    · obtain ⟨f, e⟩ := lratio_ok g (wf + 1) (n + 3) (q := 5) (a * 1) (b := (b.natAbs : Int)) (by omega) (show ((b.natAbs : Int)).natAbs < 2 ^ 5 by omega) (by decide)
      rw [div_pos' a (show 0 < b by omega)] at e
      simp -implicitDefEqProofs only [getS_some, sub_ii, lt_ii, decide_eq_false hb, int_b, Bool.false_eq_true, if_false, l2_0, mul_ii, mul_r a 1 (by decide), ck_true, abs_nat, e, onRet_ret]
  obtain ⟨f24, e24⟩ : ∃ fin, cl g (wf + 1) (n + 5) "ratio" [.int a, .int b] = .ret (rt (Rat.divInt a b)) fin := by
    by_cases hb : b < 0
    · exact ratio_neg g (wf + 1) (n + 4) a hb (by omega)
    · exact ratio_ok g (wf + 1) (n + 4) (q := 5) a (show 0 < b by omega) (show b.natAbs < 2 ^ 5 by omega) (by decide)
  obtain ⟨f25, e25⟩ := isratio_ok g (wf + 1) (n + 4) (Rat.divInt a b)
  obtain ⟨f26, e26⟩ := write_ok g wf (n + 3) r1 r2
  obtain ⟨f27, e27⟩ := ltext_ok g (wf + 1) (n + 4) r1 r2
  obtain ⟨f28, e28⟩ := like_ok g (wf + 1) 1 _ (vl_rt (Rat.divInt a b)) (n + 5) (by omega)
  obtain ⟨f29, e29⟩ := like_ok g (wf + 1) 0 _ (.str 0 (txS (Rat.divInt a b)) (by have := tx_len r1 r2; unfold szLine; omega)) (n + 5) (by omega)
  have due' := due ⟨fun ρ1 => stL g (wf + 1) (n + 5) df_law 49 [at1 b_law 11, at1 b_law 12, at1 b_law 13, at1 b_law 14, at1 b_law 15, at1 b_law 16] ρ1 (nx0 df_law.np), (nx0 df_law.np).bk, (nx0 df_law.np).ct, (nx0 df_law.np).rt⟩
  rw [stL_cons]
  refine due'.trans ?_
  dsimp only
  rw [stL_cons, b_law_11]
  simp -implicitDefEqProofs only [getS_some, e24, e25, e26, e27, e28, e29, onRet_ret, tru_b, bnot_t, is_bt, unl_t, unl_r, unl_i, b_law_11f_q, stL_nil]
  rw [stL_cons, b_law_12]
  simp -implicitDefEqProofs only [getS_some, sub_ii, show (0 - 1 : Int) = -1 from rfl, pus_ii', frz_t, frz_i, frz_n, frz_l (l := [.int 1, .int 1]) rfl]
  rw [show decide (List.length (wr0 : List D) ≤ szLine) = true from decide_eq_true (by show 10 ≤ szLine; unfold szLine; omega), ck_true]
  simp -implicitDefEqProofs only [pusK, D.pus, D.pu, Bool.and_self, getS_some, e19, onRet_ret, unl_bp]
  rw [stL_cons, b_law_13]
  simp -implicitDefEqProofs only [getS_some, e20, onRet_ret, is_bt, bnot_t, unlend_t p19, b_law_13f_q, stL_nil]
  rw [stL_cons, b_law_14]
  simp -implicitDefEqProofs only [getS_some]
  simp -implicitDefEqProofs only [pusK, D.pus, D.pu, Bool.and_self, sl_t, cut2, e21, onRet_ret, unl_bp]
  rw [stL_cons, b_law_15]
  simp -implicitDefEqProofs only [getS_some, frz_s, frz_t, frz_l (l := []) rfl, puK_t p21]
  rw [show decide (List.length ([.str "tide", .tup [.int 0, .int 1], .rol []] : List D) ≤ szLine) = true from decide_eq_true (by show 3 ≤ szLine; unfold szLine; omega), ck_true]
  simp -implicitDefEqProofs only [pusK, D.pus, D.pu, Bool.and_self, e22, onRet_ret, unl_bp]
  rw [stL_cons, b_law_16]
  simp -implicitDefEqProofs only [getS_some, e23, onRet_ret, is_bt]
  rfl
end
theorem law_end (ns : List Int) : ∃ fin, (TT fun _ => .stuck).call 1 60 6 "law" [.rol (ns.map D.int)] = .ret (.bl true) fin := ⟨_, law_ok (fun _ => .stuck) 0 0 ns⟩
end K00
set_option Elab.async false
set_option linter.all false
set_option maxRecDepth 100000
set_option maxHeartbeats 4000000
/-! the defs of the text, as the evaluator runs them -/
namespace K00
open PySem PySem.Spec PyProof.Rows L2 TI
/-! BODY -/
/-! the head -/
def dD (x : Str) (i : Nat) : He.DefD := ⟨(x, none), x, x, defArgs (topS i), defBody (topS i), defScope (topS i), [], []⟩
def fnZ : List He.DefD := [dD "is_ratio" 4, dD "ratio" 5, dD "plus" 6, dD "minus" 7, dD "product" 8, dD "compare" 9, dD "write_ratio" 10, dD "_digits" 11, dD "height_at" 13, dD "is_tide" 20, dD "is_any_tide" 21, dD "water" 22, dD "later" 23, dD "times" 24, dD "added" 25, dD "taken" 26, dD "_is_tide" 27, dD "_is_wave" 28, dD "_is_whole" 29, dD "_is_typed" 30, dD "_law_cell" 32, dD "_law_digits" 33, dD "_law_draw" 34, dD "_law_pick" 35, dD "_law_like" 36, dD "_law_gcd" 37, dD "_law_ratio" 38, dD "_law_plus" 39, dD "_law_minus" 40, dD "_law_product" 41, dD "_law_less" 42, dD "_law_wave_at" 43, dD "_law_water" 44, dD "_law_height" 45, dD "_law_wave" 46, dD "_law_tide" 47, dD "_law_ratio_text" 48, dD "law" 49]
def faZ : List He.Fa := [.glo "is_ratio", .glo "ratio", .glo "plus", .glo "minus", .glo "product", .glo "compare", .glo "write_ratio", .glo "_digits", .glo "height_at", .glo "is_tide", .glo "is_any_tide", .glo "water", .glo "later", .glo "times", .glo "added", .glo "taken", .glo "_is_tide", .glo "_is_wave", .glo "_is_whole", .glo "_is_typed", .glo "_law_cell", .glo "_law_digits", .glo "_law_draw", .glo "_law_pick", .glo "_law_like", .glo "_law_gcd", .glo "_law_ratio", .glo "_law_plus", .glo "_law_minus", .glo "_law_product", .glo "_law_less", .glo "_law_wave_at", .glo "_law_water", .glo "_law_height", .glo "_law_wave", .glo "_law_tide", .glo "_law_ratio_text", .glo "law", .free "abs", .free "all", .free "bool", .free "divmod", .free "int", .free "isinstance", .free "len", .free "range", .free "reversed", .free "set", .free "sorted", .free "str", .free "tuple", .int "CHUNK" (10000000000000000000000000000000000000000000000000000000000000000), .int "CHUNK_DIGITS" (64), .int "MOST_WAVES" (8), .int "MOST_CORNERS" (24), .int "LONGEST_PERIOD" (1800), .int "LARGEST" (1000000), .int "GREATEST_LOW" (60)]
def mthZ (K : PySem.W.Frag) : Bool := true && He.eqO (PySem.W.nsIn K mainGlobals "gcd") (some (some (.builtin "math.gcd")))
section
variable {P : Program} {w : World} {K : PySem.W.Frag} {mg : Str → Option Value} {h : Heap} {cx : CXT} {er : Er}
theorem fns_ok (X : K.In h) (G : h.Ns mainGlobals mg) (c : He.SaysD faZ fnZ K) {base : Heap} : ∀ p ∈ defs, FnIs P w K mg base cx er p := by
  intro p hp
  simp -implicitDefEqProofs only [defs, List.mem_cons, List.not_mem_nil, or_false] at hp
  rcases hp with rfl | rfl | rfl | rfl | rfl | rfl | rfl | rfl | rfl | rfl | rfl | rfl | rfl | rfl | rfl | rfl | rfl | rfl | rfl | rfl | rfl | rfl | rfl | rfl | rfl | rfl | rfl | rfl | rfl | rfl | rfl | rfl | rfl | rfl | rfl | rfl | rfl | rfl
  · exact fn_is (st := topS 4) X G rfl rfl (c.fact 0 (f := .glo "is_ratio") rfl) (c.def_ 0 (d := dD "is_ratio" 4) rfl) ⟨rfl, rfl, rfl, by decide +kernel, rfl, by decide +kernel, by decide +kernel⟩ rfl fun _ _ _ _ _ _ us hl => match us, hl with | [_], _ => rfl
  · exact fn_is (st := topS 5) X G rfl rfl (c.fact 1 (f := .glo "ratio") rfl) (c.def_ 1 (d := dD "ratio" 5) rfl) ⟨rfl, rfl, rfl, by decide +kernel, rfl, by decide +kernel, by decide +kernel⟩ rfl fun _ _ _ _ _ _ us hl => match us, hl with | [_, _], _ => rfl
  · exact fn_is (st := topS 6) X G rfl rfl (c.fact 2 (f := .glo "plus") rfl) (c.def_ 2 (d := dD "plus" 6) rfl) ⟨rfl, rfl, rfl, by decide +kernel, rfl, by decide +kernel, by decide +kernel⟩ rfl fun _ _ _ _ _ _ us hl => match us, hl with | [_, _], _ => rfl
  · exact fn_is (st := topS 7) X G rfl rfl (c.fact 3 (f := .glo "minus") rfl) (c.def_ 3 (d := dD "minus" 7) rfl) ⟨rfl, rfl, rfl, by decide +kernel, rfl, by decide +kernel, by decide +kernel⟩ rfl fun _ _ _ _ _ _ us hl => match us, hl with | [_, _], _ => rfl
  · exact fn_is (st := topS 8) X G rfl rfl (c.fact 4 (f := .glo "product") rfl) (c.def_ 4 (d := dD "product" 8) rfl) ⟨rfl, rfl, rfl, by decide +kernel, rfl, by decide +kernel, by decide +kernel⟩ rfl fun _ _ _ _ _ _ us hl => match us, hl with | [_, _], _ => rfl
  · exact fn_is (st := topS 9) X G rfl rfl (c.fact 5 (f := .glo "compare") rfl) (c.def_ 5 (d := dD "compare" 9) rfl) ⟨rfl, rfl, rfl, by decide +kernel, rfl, by decide +kernel, by decide +kernel⟩ rfl fun _ _ _ _ _ _ us hl => match us, hl with | [_, _], _ => rfl
  · exact fn_is (st := topS 10) X G rfl rfl (c.fact 6 (f := .glo "write_ratio") rfl) (c.def_ 6 (d := dD "write_ratio" 10) rfl) ⟨rfl, rfl, rfl, by decide +kernel, rfl, by decide +kernel, by decide +kernel⟩ rfl fun _ _ _ _ _ _ us hl => match us, hl with | [_], _ => rfl
  · exact fn_is (st := topS 11) X G rfl rfl (c.fact 7 (f := .glo "_digits") rfl) (c.def_ 7 (d := dD "_digits" 11) rfl) ⟨rfl, rfl, rfl, by decide +kernel, rfl, by decide +kernel, by decide +kernel⟩ rfl fun _ _ _ _ _ _ us hl => match us, hl with | [_], _ => rfl
  · exact fn_is (st := topS 13) X G rfl rfl (c.fact 8 (f := .glo "height_at") rfl) (c.def_ 8 (d := dD "height_at" 13) rfl) ⟨rfl, rfl, rfl, by decide +kernel, rfl, by decide +kernel, by decide +kernel⟩ rfl fun _ _ _ _ _ _ us hl => match us, hl with | [_, _], _ => rfl
  · exact fn_is (st := topS 20) X G rfl rfl (c.fact 9 (f := .glo "is_tide") rfl) (c.def_ 9 (d := dD "is_tide" 20) rfl) ⟨rfl, rfl, rfl, by decide +kernel, rfl, by decide +kernel, by decide +kernel⟩ rfl fun _ _ _ _ _ _ us hl => match us, hl with | [_], _ => rfl
  · exact fn_is (st := topS 21) X G rfl rfl (c.fact 10 (f := .glo "is_any_tide") rfl) (c.def_ 10 (d := dD "is_any_tide" 21) rfl) ⟨rfl, rfl, rfl, by decide +kernel, rfl, by decide +kernel, by decide +kernel⟩ rfl fun _ _ _ _ _ _ us hl => match us, hl with | [_], _ => rfl
  · exact fn_is (st := topS 22) X G rfl rfl (c.fact 11 (f := .glo "water") rfl) (c.def_ 11 (d := dD "water" 22) rfl) ⟨rfl, rfl, rfl, by decide +kernel, rfl, by decide +kernel, by decide +kernel⟩ rfl fun _ _ _ _ _ _ us hl => match us, hl with | [_, _], _ => rfl
  · exact fn_is (st := topS 23) X G rfl rfl (c.fact 12 (f := .glo "later") rfl) (c.def_ 12 (d := dD "later" 23) rfl) ⟨rfl, rfl, rfl, by decide +kernel, rfl, by decide +kernel, by decide +kernel⟩ rfl fun _ _ _ _ _ _ us hl => match us, hl with | [_, _], _ => rfl
  · exact fn_is (st := topS 24) X G rfl rfl (c.fact 13 (f := .glo "times") rfl) (c.def_ 13 (d := dD "times" 24) rfl) ⟨rfl, rfl, rfl, by decide +kernel, rfl, by decide +kernel, by decide +kernel⟩ rfl fun _ _ _ _ _ _ us hl => match us, hl with | [_, _], _ => rfl
  · exact fn_is (st := topS 25) X G rfl rfl (c.fact 14 (f := .glo "added") rfl) (c.def_ 14 (d := dD "added" 25) rfl) ⟨rfl, rfl, rfl, by decide +kernel, rfl, by decide +kernel, by decide +kernel⟩ rfl fun _ _ _ _ _ _ us hl => match us, hl with | [_, _], _ => rfl
  · exact fn_is (st := topS 26) X G rfl rfl (c.fact 15 (f := .glo "taken") rfl) (c.def_ 15 (d := dD "taken" 26) rfl) ⟨rfl, rfl, rfl, by decide +kernel, rfl, by decide +kernel, by decide +kernel⟩ rfl fun _ _ _ _ _ _ us hl => match us, hl with | [_, _], _ => rfl
  · exact fn_is (st := topS 27) X G rfl rfl (c.fact 16 (f := .glo "_is_tide") rfl) (c.def_ 16 (d := dD "_is_tide" 27) rfl) ⟨rfl, rfl, rfl, by decide +kernel, rfl, by decide +kernel, by decide +kernel⟩ rfl fun _ _ _ _ _ _ us hl => match us, hl with | [_, _], _ => rfl
  · exact fn_is (st := topS 28) X G rfl rfl (c.fact 17 (f := .glo "_is_wave") rfl) (c.def_ 17 (d := dD "_is_wave" 28) rfl) ⟨rfl, rfl, rfl, by decide +kernel, rfl, by decide +kernel, by decide +kernel⟩ rfl fun _ _ _ _ _ _ us hl => match us, hl with | [_, _], _ => rfl
  · exact fn_is (st := topS 29) X G rfl rfl (c.fact 18 (f := .glo "_is_whole") rfl) (c.def_ 18 (d := dD "_is_whole" 29) rfl) ⟨rfl, rfl, rfl, by decide +kernel, rfl, by decide +kernel, by decide +kernel⟩ rfl fun _ _ _ _ _ _ us hl => match us, hl with | [_, _, _], _ => rfl
  · exact fn_is (st := topS 30) X G rfl rfl (c.fact 19 (f := .glo "_is_typed") rfl) (c.def_ 19 (d := dD "_is_typed" 30) rfl) ⟨rfl, rfl, rfl, by decide +kernel, rfl, by decide +kernel, by decide +kernel⟩ rfl fun _ _ _ _ _ _ us hl => match us, hl with | [_], _ => rfl
  · exact fn_is (st := topS 32) X G rfl rfl (c.fact 20 (f := .glo "_law_cell") rfl) (c.def_ 20 (d := dD "_law_cell" 32) rfl) ⟨rfl, rfl, rfl, by decide +kernel, rfl, by decide +kernel, by decide +kernel⟩ rfl fun _ _ _ _ _ _ us hl => match us, hl with | [_, _], _ => rfl
  · exact fn_is (st := topS 33) X G rfl rfl (c.fact 21 (f := .glo "_law_digits") rfl) (c.def_ 21 (d := dD "_law_digits" 33) rfl) ⟨rfl, rfl, rfl, by decide +kernel, rfl, by decide +kernel, by decide +kernel⟩ rfl fun _ _ _ _ _ _ us hl => match us, hl with | [_, _, _], _ => rfl
  · exact fn_is (st := topS 34) X G rfl rfl (c.fact 22 (f := .glo "_law_draw") rfl) (c.def_ 22 (d := dD "_law_draw" 34) rfl) ⟨rfl, rfl, rfl, by decide +kernel, rfl, by decide +kernel, by decide +kernel⟩ rfl fun _ _ _ _ _ _ us hl => match us, hl with | [_, _], _ => rfl
  · exact fn_is (st := topS 35) X G rfl rfl (c.fact 23 (f := .glo "_law_pick") rfl) (c.def_ 23 (d := dD "_law_pick" 35) rfl) ⟨rfl, rfl, rfl, by decide +kernel, rfl, by decide +kernel, by decide +kernel⟩ rfl fun _ _ _ _ _ _ us hl => match us, hl with | [_, _], _ => rfl
  · exact fn_is (st := topS 36) X G rfl rfl (c.fact 24 (f := .glo "_law_like") rfl) (c.def_ 24 (d := dD "_law_like" 36) rfl) ⟨rfl, rfl, rfl, by decide +kernel, rfl, by decide +kernel, by decide +kernel⟩ rfl fun _ _ _ _ _ _ us hl => match us, hl with | [_, _], _ => rfl
  · exact fn_is (st := topS 37) X G rfl rfl (c.fact 25 (f := .glo "_law_gcd") rfl) (c.def_ 25 (d := dD "_law_gcd" 37) rfl) ⟨rfl, rfl, rfl, by decide +kernel, rfl, by decide +kernel, by decide +kernel⟩ rfl fun _ _ _ _ _ _ us hl => match us, hl with | [_, _], _ => rfl
  · exact fn_is (st := topS 38) X G rfl rfl (c.fact 26 (f := .glo "_law_ratio") rfl) (c.def_ 26 (d := dD "_law_ratio" 38) rfl) ⟨rfl, rfl, rfl, by decide +kernel, rfl, by decide +kernel, by decide +kernel⟩ rfl fun _ _ _ _ _ _ us hl => match us, hl with | [_, _], _ => rfl
  · exact fn_is (st := topS 39) X G rfl rfl (c.fact 27 (f := .glo "_law_plus") rfl) (c.def_ 27 (d := dD "_law_plus" 39) rfl) ⟨rfl, rfl, rfl, by decide +kernel, rfl, by decide +kernel, by decide +kernel⟩ rfl fun _ _ _ _ _ _ us hl => match us, hl with | [_, _], _ => rfl
  · exact fn_is (st := topS 40) X G rfl rfl (c.fact 28 (f := .glo "_law_minus") rfl) (c.def_ 28 (d := dD "_law_minus" 40) rfl) ⟨rfl, rfl, rfl, by decide +kernel, rfl, by decide +kernel, by decide +kernel⟩ rfl fun _ _ _ _ _ _ us hl => match us, hl with | [_, _], _ => rfl
  · exact fn_is (st := topS 41) X G rfl rfl (c.fact 29 (f := .glo "_law_product") rfl) (c.def_ 29 (d := dD "_law_product" 41) rfl) ⟨rfl, rfl, rfl, by decide +kernel, rfl, by decide +kernel, by decide +kernel⟩ rfl fun _ _ _ _ _ _ us hl => match us, hl with | [_, _], _ => rfl
  · exact fn_is (st := topS 42) X G rfl rfl (c.fact 30 (f := .glo "_law_less") rfl) (c.def_ 30 (d := dD "_law_less" 42) rfl) ⟨rfl, rfl, rfl, by decide +kernel, rfl, by decide +kernel, by decide +kernel⟩ rfl fun _ _ _ _ _ _ us hl => match us, hl with | [_, _], _ => rfl
  · exact fn_is (st := topS 43) X G rfl rfl (c.fact 31 (f := .glo "_law_wave_at") rfl) (c.def_ 31 (d := dD "_law_wave_at" 43) rfl) ⟨rfl, rfl, rfl, by decide +kernel, rfl, by decide +kernel, by decide +kernel⟩ rfl fun _ _ _ _ _ _ us hl => match us, hl with | [_, _], _ => rfl
  · exact fn_is (st := topS 44) X G rfl rfl (c.fact 32 (f := .glo "_law_water") rfl) (c.def_ 32 (d := dD "_law_water" 44) rfl) ⟨rfl, rfl, rfl, by decide +kernel, rfl, by decide +kernel, by decide +kernel⟩ rfl fun _ _ _ _ _ _ us hl => match us, hl with | [_, _], _ => rfl
  · exact fn_is (st := topS 45) X G rfl rfl (c.fact 33 (f := .glo "_law_height") rfl) (c.def_ 33 (d := dD "_law_height" 45) rfl) ⟨rfl, rfl, rfl, by decide +kernel, rfl, by decide +kernel, by decide +kernel⟩ rfl fun _ _ _ _ _ _ us hl => match us, hl with | [_], _ => rfl
  · exact fn_is (st := topS 46) X G rfl rfl (c.fact 34 (f := .glo "_law_wave") rfl) (c.def_ 34 (d := dD "_law_wave" 46) rfl) ⟨rfl, rfl, rfl, by decide +kernel, rfl, by decide +kernel, by decide +kernel⟩ rfl fun _ _ _ _ _ _ us hl => match us, hl with | [_, _], _ => rfl
  · exact fn_is (st := topS 47) X G rfl rfl (c.fact 35 (f := .glo "_law_tide") rfl) (c.def_ 35 (d := dD "_law_tide" 47) rfl) ⟨rfl, rfl, rfl, by decide +kernel, rfl, by decide +kernel, by decide +kernel⟩ rfl fun _ _ _ _ _ _ us hl => match us, hl with | [_, _, _], _ => rfl
  · exact fn_is (st := topS 48) X G rfl rfl (c.fact 36 (f := .glo "_law_ratio_text") rfl) (c.def_ 36 (d := dD "_law_ratio_text" 48) rfl) ⟨rfl, rfl, rfl, by decide +kernel, rfl, by decide +kernel, by decide +kernel⟩ rfl fun _ _ _ _ _ _ us hl => match us, hl with | [_], _ => rfl
  · exact fn_is (st := topS 49) X G rfl rfl (c.fact 37 (f := .glo "law") rfl) (c.def_ 37 (d := dD "law" 49) rfl) ⟨rfl, rfl, rfl, by decide +kernel, rfl, by decide +kernel, by decide +kernel⟩ rfl fun _ _ _ _ _ _ us hl => match us, hl with | [_], _ => rfl
theorem go_ok (g : List D → Res) (X : K.In h) (G : h.Ns mainGlobals mg) (c : He.SaysD faZ fnZ K) (hm : mthZ K = true) : GOk K w mg (TT g).glo := by
  refine go_of (fun x hx => ?_) fun p hp => ?_
  · simp -implicitDefEqProofs only [TT, bis, List.mem_cons, List.not_mem_nil, or_false] at hx
    rcases hx with rfl | rfl | rfl | rfl | rfl | rfl | rfl | rfl | rfl | rfl | rfl | rfl | rfl
    · exact He.free_ok X G (c.fact 38 (f := .free "abs") rfl)
    · exact He.free_ok X G (c.fact 39 (f := .free "all") rfl)
    · exact He.free_ok X G (c.fact 40 (f := .free "bool") rfl)
    · exact He.free_ok X G (c.fact 41 (f := .free "divmod") rfl)
    · exact He.free_ok X G (c.fact 42 (f := .free "int") rfl)
    · exact He.free_ok X G (c.fact 43 (f := .free "isinstance") rfl)
    · exact He.free_ok X G (c.fact 44 (f := .free "len") rfl)
    · exact He.free_ok X G (c.fact 45 (f := .free "range") rfl)
    · exact He.free_ok X G (c.fact 46 (f := .free "reversed") rfl)
    · exact He.free_ok X G (c.fact 47 (f := .free "set") rfl)
    · exact He.free_ok X G (c.fact 48 (f := .free "sorted") rfl)
    · exact He.free_ok X G (c.fact 49 (f := .free "str") rfl)
    · exact He.free_ok X G (c.fact 50 (f := .free "tuple") rfl)
  · unfold mthZ at hm
    simp -implicitDefEqProofs only [Bool.and_eq_true, true_and] at hm
    simp -implicitDefEqProofs only [TT, cons, List.mem_cons, List.not_mem_nil, or_false] at hp
    rcases hp with rfl | rfl | rfl | rfl | rfl | rfl | rfl | rfl
    · exact con_int X G (c.fact 51 (f := .int "CHUNK" (10000000000000000000000000000000000000000000000000000000000000000)) rfl)
    · exact con_int X G (c.fact 52 (f := .int "CHUNK_DIGITS" (64)) rfl)
    · exact con_int X G (c.fact 53 (f := .int "MOST_WAVES" (8)) rfl)
    · exact con_int X G (c.fact 54 (f := .int "MOST_CORNERS" (24)) rfl)
    · exact con_int X G (c.fact 55 (f := .int "LONGEST_PERIOD" (1800)) rfl)
    · exact con_int X G (c.fact 56 (f := .int "LARGEST" (1000000)) rfl)
    · exact con_int X G (c.fact 57 (f := .int "GREATEST_LOW" (60)) rfl)
    · exact con_mth X G (hm)
/-- the law's promise: it lets nothing out -/
def spR (K : PySem.W.Frag) (np : Nat) (g : List D → Res) : Sp := fun vs H Q _ => vs.length = np ∧ ∃ ds F, Rps K H ds vs F ∧ ∃ d fin, g ds = .ret d fin ∧ ∀ v H' Fv Ff, Keep F H H' → Fr F H Fv → Fr F H Ff → Dis Ff Fv → Rp K H' d v Fv → Ens K H' fin (vs.map some) Ff → Q v H'
theorem spR_sp {np : Nat} {g : List D → Res} (vs : List V) (H : Hp) (Q : VK) (E : XK) (q : spR K np g vs H Q E) : SpD K er np g vs H Q E := by
  obtain ⟨hl, ds, F, hr, d, fin, e, q⟩ := q
  refine ⟨hl, ds, F, hr, ?_⟩
  rw [e]
  exact q
theorem law_spR {g : List D → Res} {H : Hp} {a : Addr} {ns : List Int} (ho : Only H) (hs : SqL K H a (ns.map V.int)) (e : ∃ fin, g [.rol (ns.map D.int)] = .ret (.bl true) fin) :
    spR K 1 g [.ref a] H (fun v _ => v = .bl true) fun _ _ _ => False := by
  obtain ⟨fin, e⟩ := e
  exact ⟨rfl, [.rol (ns.map D.int)], F0, ⟨.ref a, [], F0, F0, rfl, ⟨a, ns.map V.int, rfl, sqf_of ho hs, TI.pus_ints ns, TI.rps_ints ns⟩, rfl, fun _ q => q, fun _ q => q, fun _ q => False.elim q⟩, _, fin, e, fun v H' Fv Ff _ _ _ _ r _ => r⟩
def g0 : List D → Res := fun _ => .stuck
theorem all_z {fa : Addr} (X : K.In h) (G : h.Ns mainGlobals mg) (hfa : mg "law" = some (.ref fa)) (c : He.obsD faZ fnZ K = He.valD fnZ) (hm : mthZ K = true) (hd : PySem.W.nsIn K cStatics "sys.int_max_str_digits" = some none) :
    ∃ fd : FuncData, (∀ (s : Shared) (u : Value), BindsTo s fd ⟨[u], []⟩ [("script", u)]) ∧ ∀ base : Heap, K.In base → base.Ns mainGlobals mg → FnOk P w K mg base L2.CX0 8 fa fd ["script"] (spR K 1 ((TT g0).call 1 60 6 "law")) := by
  have c' : He.SaysD faZ fnZ K := c
  obtain ⟨fd, F⟩ := c'.def_ 37 (d := dD "law" 49) rfl
  have b := FunD.bindsA (ps := ["script"]) F fun _ _ _ _ _ _ us hl => match us, hl with | [_], _ => rfl
  refine ⟨fd, fun s v => b s [v] rfl, fun base hK hG => ?_⟩
  have hlim : LimOk K 640 := .inl (by decide)
  have e1 := hfa.symm.trans (He.glo_ok X G (c'.fact 37 (f := .glo "law") rfl))
  cases e1
  have hcls : ∀ x ps, (TT g0).glo x = .cls ps → ExcF P w K mg base er0 x ps ∧ XTk L2.CX0 P w K mg base := by
    intro x ps hx
    have hm := lookup_mem (glo_cls hx)
    simp -implicitDefEqProofs only [TT, cons, List.mem_cons, List.not_mem_nil, or_false, Prod.mk.injEq] at hm
    rcases hm with ⟨_, h⟩ | ⟨_, h⟩ | ⟨_, h⟩ | ⟨_, h⟩ | ⟨_, h⟩ | ⟨_, h⟩ | ⟨_, h⟩ | ⟨_, h⟩ <;> cases h
  have ext0 : ∀ p ∈ (TT g0).exts, ExtIs P w K mg base L2.CX0 er0 2 p := fun p hp => by simp [TT] at hp
  have fn := run_ok (P := P) (base := base) (er := er0) xok0 (d := df_law) F (⟨rfl, rfl, rfl, by decide +kernel, rfl, by decide +kernel, by decide +kernel⟩) rfl (TT g0).glo ((TT g0).call 1 60 5) 640 1 60 7 (by decide) hlim hcls (go_ok g0 X G c' hm)
    (all_ok xok0 (by decide) hlim (go_ok g0 X G c' hm) hcls (fns_ok X G c') ext0 1 60 5)
  exact FnOk.imp fn fun vs H Q E q => spR_sp vs H Q E q
end
theorem walk_ofKX {l : PySem.W.OpenLaw} {n k : Nat} {q : Program} {loose : List Str} {XP : (Str → Option Value) → Heap → Prop} {YP : World → Heap → Prop} {d : DefRec} {K : Params → PySem.W.Frag} {CX : World → CXT} {sp : PySem.W.Frag → Sp} {x : Str}
    (hn : l.most = some n) (hn2 : n ≤ sizeLine) (hdf : d.params.defaults = []) (hr : Room k callerA)
    (hY : ∀ (w : World) (h : Heap), YP w h → (K w.params).In h)
    (F : ∀ (w : World) (mg : Str → Option Value) (fa : Addr) (h : Heap), (K w.params).In h → h.Ns mainGlobals mg → mg d.name = some (.ref fa) →
      ∃ fd : FuncData, (∀ (s : Shared) (u : Value), BindsTo s fd ⟨[u], []⟩ [(x, u)]) ∧
        ∀ base : Heap, (K w.params).In base → base.Ns mainGlobals mg → FnOk l.prog w (K w.params) mg base (CX w) k fa fd [x] (sp (K w.params)))
    (hsp : ∀ (K : PySem.W.Frag) (H : Hp) (a : Addr) (ns : List Int), ns.length ≤ n → Only H → SqL K H a (ns.map V.int) → sp K [.ref a] H (fun v _ => v = .bl true) fun _ _ _ => False)
    (hCX : ∀ (w : World) (H : Hp) (s : Shared) (e : Value) (s' : Shared), CX w [] H s (fun _ _ _ => False) e s' → False) :
    PySem.W.WalkO q loose XP YP l.row.toRowW d [] (fun f vs => PySem.call f vs) :=
  walk_of (K := K) (CX := CX) (sp := fun w => sp (K w.params)) hn hn2 hdf hr hY F (fun w H a ns h1 h2 h3 => hsp (K w.params) H a ns h1 h2 h3) hCX
end K00
set_option Elab.async false
set_option linter.all false
set_option maxRecDepth 100000
open PySem PySem.W PyProof.Rows
set_option maxHeartbeats 0 in
theorem PySem.Challenge.cw_surewater_k00_tides_waters_holds : PySem.Challenge.rw_surewater_k00_tides_waters.Holds := by
  w_on; o_law; k_head; (case hw => w_witness2)
  k_fill
  refine K00.walk_ofKX (l := PySem.Challenge.rw_surewater_k00_tides_waters) (n := 63) (k := 8) (x := "script") (CX := fun w => L2.CX0) (sp := fun K => K00.spR K 1 ((K00.TT K00.g0).call 1 60 6 "law")) rfl (by decide) rfl ⟨rfl, by decide, by decide⟩ (fun w h Y => PySem.W.kIn_of Y) ?F ?g (fun _ _ _ _ _ z => z)
  case F =>
    intro w mg fa h KX G hmg
    exact K00.all_z KX G hmg (by kernel_rfl) (by kernel_rfl) (by kernel_rfl)
  case g =>
    intro K H a ns hl hO hS
    exact K00.law_spR hO hS (K00.law_end ns)
