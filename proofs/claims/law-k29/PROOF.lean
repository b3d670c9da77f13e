import PyProof.Rows.All
import Wide.All
import OpenK.AllK
import Wide.FinOn
import PyProof.Conv_int
import KE.KIntText
import PyProof.Rows.Digits
import HandS.ForMost
import HandS.StrMore
import HandS.IsInst
import HandS.Flow
import HandS.Style
import HandS.TupAny
import HandS.Wide
import HandS.Replace
import HandS.ReplaceLit
import HandS.ReplaceDef
import HandS.WrittenGet
import PyProof.EqLayable
import HandS.Deep
import PyProof.StrOps2
import HandS.More
import HandS.WideBits
import HandS.Zip
import HandS.List
import HandS.Exc
import HandS.ExcInit
import HandS.Dict
import HandS.Defaults
import HandS.TryOnly
import HandS.Head0
import HandS.Head1
import HandS.Head2
import HandS.HeadEnd
import HandS.HeadHook1
import HandS.HeadHook2
import HandS.HeadHook3
import KE.KIsAll
import KE.KTryMore
import HandS.ExcIs
import HandS.ExcField
import HandS.Words
import HandS.CallSlots
import HandS.ExcOwn
import HandS.WordsExc
import KE.IntTextLaws
import HandS.Ends
import HandS.Base
import HandS.Call
import PySem.Challenge.RW_surewater_k29_plain_wrong_texts
set_option Elab.async false
set_option linter.all false
set_option maxRecDepth 100000
set_option maxHeartbeats 4000000
/-! int(text) of any length, where the limit on digits stands as it was -/
namespace TW
open PySem PySem.NumText PyProof.Rows PySem.Calls
section
variable {M : Model} {A : Around} {E : Value → Shared → Prop} {s : Shared}
theorem digits_limit {Q : Nat → Shared → Prop} (nd : s.heap.NoDigits) (h : Q 4300 s) : wpAny M A Builtin.intMaxStrDigits Q E s := by
  obtain ⟨mc, h1, h2⟩ := nd
  unfold Builtin.intMaxStrDigits
  refine wpAny_bind (wpAny_nsGet h1 ?_)
  rw [h2]
  exact wpAny_pure h
theorem from_text {Q : Value → Shared → Prop} {v : Value} {text : List Nat} {n : Int} (nd : s.heap.NoDigits) (hs : ¬ (text.takeWhile (· != 0)).length ≤ 640) (hr : (int_private% "readNumeral") 4300 10 (text.takeWhile (· != 0)) = (int_private% "Numeral.value") n)
    (ha : ((text.takeWhile (· != 0)).length == text.length) = true) (h : Q (.int n s.toks) { s with toks := s.toks + 1 }) :
    wpAny M A ((int_private% "intFromText") v text 10) Q E s := by
  obtain ⟨hp, g, d, tk, os⟩ := s
  repeat (any_goals (first
    | assumption
    | with_reducible refine wpAny_ite_false (decide_eq_false hs) ?_
    | with_reducible refine digits_limit nd ?_
    | with_reducible refine wpAny_ite_true (decide_eq_true ha) ?_
    | wp_step))
  rw [hr]
  dsimp only
  repeat (any_goals (first
    | assumption
    | with_reducible refine wpAny_ite_true (decide_eq_true ha) ?_
    | wp_step))
end
section
variable {M : Model} {A : Around} {E : Value → Shared → Prop} {s : Shared}
theorem from_any {Q : Value → Shared → Prop} {v : Value} {x : PySem.Str} {n : Int} (nd : s.heap.NoDigits) (hr : (int_private% "readNumeral") (numLimitOf x) 10 (numSeenOf x) = (int_private% "Numeral.value") n)
    (ha : ((numSeenOf x).length == (numTextOf x).length) = true) (h : Q (.int n s.toks) { s with toks := s.toks + 1 }) :
    wpAny M A ((int_private% "intFromText") v (numTextOf x) 10) Q E s := by
  by_cases hl : (numSeenOf x).length ≤ 640
  · rw [show numLimitOf x = 0 from if_pos hl] at hr
    exact PySem.W.KIN.wp_text hl hr ha h
  · rw [show numLimitOf x = 4300 from if_neg hl] at hr
    exact from_text nd hl hr ha h
end
/-- held from the walk's eyes -/
structure Far (p : Prop) : Prop where
  near : p
def limS (n : Int) : PySem.Spec := fun _ R s => s.heap.NoDigits ∧ R (.ok (.ret (.int n s.toks))) { s with toks := s.toks + 1 }
theorem limS_meets {x : PySem.Str} {u : Tok} {n : Int} (hn : PySem.intText? x = some n) (hz : x.length ≤ sizeLine) : Meets (Builtin.«int.__new__» ⟨[.type "int", .str x u], []⟩) (limS n) := by
  intro prog w A R s h
  obtain ⟨nd, h⟩ := h
  have g1 := F.conv_sub_int
  have g2 := F.madeHere_int
  have g3 := PySem.W.KIN.str_int
  have g4 := PySem.W.KIN.str_idx
  have g5 := PySem.W.KIN.str_trunc
  have g6 : typeOf (.str x u) = pure (.type "str") := rfl
  have key : (int_private% "readNumeral") (numLimitOf x) 10 (numSeenOf x) = (int_private% "Numeral.value") n ∧ ((numSeenOf x).length == (numTextOf x).length) = true := by
    rcases readAny x hz with ⟨m, h1, h2, h3⟩ | ⟨h1, _⟩
    · rw [hn] at h1
      cases h1
      exact ⟨h3, h2⟩
    · rw [hn] at h1; cases h1
  have far := Far.mk (And.intro nd key)
  obtain ⟨hp, g, d, tk, os⟩ := s
  clear key nd hn hz
  repeat (any_goals (first
    | assumption
    | ((with_reducible show wpAny _ _ ((int_private% "intFromText") _ _ _) _ _ _); refine from_any far.near.1 far.near.2.1 far.near.2.2 ?_)
    | wp_step))
section
variable {prog : Program} {w : World} {A : Around} {E : Value → Shared → Prop} {s : Shared}
/-- int(text), the digits as many as one likes -/
theorem int_of_text {Q : Value → Shared → Prop} {x : PySem.Str} {t : Tok} {n : Int} (nd : s.heap.NoDigits) (hz : x.length ≤ sizeLine) (hn : PySem.intText? x = some n) (h : Q (.int n s.toks) { s with toks := s.toks + 1 }) :
    wpAny (model prog w) A (call (.type "int") [.str x t]) Q E s := call_int_1 (limS_meets hn hz) ⟨nd, rfl, h⟩
end
end TW
set_option Elab.async false
set_option linter.all false
set_option maxRecDepth 100000
set_option maxHeartbeats 4000000
/-! values without addresses, and how they lie in the abstract heap -/
namespace TI
open PySem PySem.Spec PyProof.Rows L2

inductive D where
  | non | bl (b : Bool) | int (i : Int) | str (x : Str) | ty (n : String)
  | tup (xs : List D) | rol (xs : List D) | lst (xs : List D) | lck (xs : List D)
  /-- a def as a value; a dict that one slot owns -/
  | fnv (x : Str) | dct (ks : List Key) (xs : List D)

def D.pu : D → Bool
  | .lst _ => false
  | .lck _ => false
  | .dct _ _ => false
  | _ => true
def D.pus : List D → Bool
  | [] => true
  | d :: ds => d.pu && D.pus ds

abbrev Fp := Addr → Prop
abbrev F0 : Fp := fun _ => False
/-- a list that nobody writes -/
def SqF (K : PySem.W.Frag) (H : Hp) (a : Addr) (xs : List V) : Prop :=
  (∃ o, H a = some (.frz o (.lst xs))) ∨ ∃ (o : Obj) (its : Array Value) (n : Nat), K.lookup a = some o ∧ o.cls = .type "list" ∧ o.dict = none ∧ o.data = .seq its n ∧ its.size ≤ sizeLine ∧ Vals xs its.toList
theorem SqF.sq {K : PySem.W.Frag} {H : Hp} {a : Addr} {xs : List V} (h : SqF K H a xs) : SqL K H a xs := by
  rcases h with ⟨o, h⟩ | h
  · exact .inl (.inr ⟨o, h⟩)
  · exact .inr h

section
variable (K : PySem.W.Frag) (H : Hp)
mutual
def Rp : D → V → Fp → Prop
  | .non, v, _ => v = .non
  | .bl b, v, _ => v = .bl b
  | .int i, v, _ => v = .int i
  | .str x, v, _ => v = .str x
  | .ty n, v, _ => v = .ty n
  | .tup ds, v, F => ∃ a vs, v = .ref a ∧ SqT K H a vs ∧ D.pus ds = true ∧ Rps ds vs F
  | .rol ds, v, F => ∃ a vs, v = .ref a ∧ SqF K H a vs ∧ D.pus ds = true ∧ Rps ds vs F
  | .lst ds, v, F => ∃ a vs, v = .ref a ∧ H a = some (.lst vs) ∧ F a ∧ Rps ds vs (fun b => F b ∧ b ≠ a)
  | .lck ds, v, F => ∃ a vs, v = .ref a ∧ H a = some (.lst vs) ∧ F a ∧ Rps ds vs (fun b => F b ∧ b ≠ a)
  | .fnv x, v, F => ∃ a, v = .ref a ∧ PySem.W.nsIn K mainGlobals x = some (some (.ref a))
  | .dct ks ds, v, F => ∃ a vs, v = .ref a ∧ H a = some (.dK (ks.zip vs)) ∧ ks.length = ds.length ∧ F a ∧ Rps ds vs (fun b => F b ∧ b ≠ a)
def Rps : List D → List V → Fp → Prop
  | [], vs, _ => vs = []
  | d :: ds, vs, F => ∃ v ws G1 G2, vs = v :: ws ∧ Rp d v G1 ∧ Rps ds ws G2 ∧ (∀ a, G1 a → F a) ∧ (∀ a, G2 a → F a) ∧ (∀ a, G1 a → G2 a → False)
end
end

def Imm : HO → Prop
  | .tup _ => True
  | .frz _ _ => True
  | _ => False
/-- from H to H' all is kept but what stands in F -/
structure Keep (F : Fp) (H H' : Hp) : Prop where
  k : ∀ a o, H a = some o → (¬ F a ∨ Imm o) → H' a = some o
  g : ∀ a, H' a = none → H a = none
/-- what is new or was in F -/
def Fr (F : Fp) (H : Hp) (F' : Fp) : Prop := ∀ a, F' a → F a ∨ H a = none
def Dis (F G : Fp) : Prop := ∀ a, F a → G a → False

theorem Keep.refl (F : Fp) (H : Hp) : Keep F H H := ⟨fun _ _ h _ => h, fun _ h => h⟩
theorem Keep.trans {F F1 : Fp} {H H1 H2 : Hp} (a : Keep F H H1) (b : Keep F1 H1 H2) (s : Fr F H F1) : Keep F H H2 :=
  ⟨fun x o h hn => by
    have h1 := a.k x o h hn
    refine b.k x o h1 ?_
    rcases hn with hn | hn
    · refine .inl fun q => ?_
      rcases s x q with r | r
      · exact hn r
      · rw [h] at r; cases r
    · exact .inr hn, fun x h => a.g x (b.g x h)⟩
theorem Keep.mono {F G : Fp} {H H' : Hp} (a : Keep F H H') (h : ∀ x, F x → G x) : Keep G H H' :=
  ⟨fun x o e hn => a.k x o e (hn.elim (fun n => .inl fun q => n (h x q)) .inr), a.g⟩
/-- a fresh object -/
theorem Keep.new {F : Fp} {H : Hp} {p : Addr} {o : HO} (h : H p = none) : Keep F H (upd H p o) :=
  ⟨fun a u e _ => by rw [upd_ne (ne_of_none e h)]; exact e, fun a e => by
    by_cases q : a = p
    · subst q; exact h
    · rw [upd_ne q] at e; exact e⟩
/-- an object in F changes -/
theorem Keep.set {F : Fp} {H : Hp} {p : Addr} {o u : HO} (h : H p = some u) (hF : F p) (hu : ¬ Imm u) : Keep F H (upd H p o) :=
  ⟨fun a w e hn => by
    by_cases q : a = p
    · subst q
      rw [h] at e; cases e
      rcases hn with n | n
      · exact absurd hF n
      · exact absurd n hu
    · rw [upd_ne q]; exact e, fun a e => by
    by_cases q : a = p
    · subst q; rw [upd_same] at e; cases e
    · rw [upd_ne q] at e; exact e⟩
theorem Fr.trans {F F1 F2 : Fp} {H H1 : Hp} (a : Fr F H F1) (k : Keep F H H1) (b : Fr F1 H1 F2) : Fr F H F2 := fun x h => by
  rcases b x h with r | r
  · exact a x r
  · exact .inr (k.g x r)
theorem Fr.refl (F : Fp) (H : Hp) : Fr F H F := fun _ h => .inl h
theorem Fr.sub {F F' F2 : Fp} {H : Hp} (a : Fr F H F') (h : ∀ x, F2 x → F' x) : Fr F H F2 := fun x q => a x (h x q)

section
variable {K : PySem.W.Frag} {H H' : Hp}
theorem sqt_keep {F : Fp} {a : Addr} {vs : List V} (k : Keep F H H') (h : SqT K H a vs) : SqT K H' a vs := by
  rcases h with (h | ⟨o, h⟩) | h
  · exact .inl (.inl (k.k _ _ h (.inr trivial)))
  · exact .inl (.inr ⟨o, k.k _ _ h (.inr trivial)⟩)
  · exact .inr h
theorem sqf_keep {F : Fp} {a : Addr} {vs : List V} (k : Keep F H H') (h : SqF K H a vs) : SqF K H' a vs := by
  rcases h with ⟨o, h⟩ | h
  · exact .inl ⟨o, k.k _ _ h (.inr trivial)⟩
  · exact .inr h
mutual
theorem Rp.mono : ∀ (d : D) (v : V) (F G : Fp), (∀ a, F a → G a) → Rp K H d v F → Rp K H d v G
  | .non, v, F, G, s, h => h
  | .bl b, v, F, G, s, h => h
  | .int i, v, F, G, s, h => h
  | .str x, v, F, G, s, h => h
  | .ty n, v, F, G, s, h => h
  | .tup ds, v, F, G, s, h => by
    obtain ⟨a, vs, e, q, p, r⟩ := h
    exact ⟨a, vs, e, q, p, Rps.mono ds vs F G s r⟩
  | .rol ds, v, F, G, s, h => by
    obtain ⟨a, vs, e, q, p, r⟩ := h
    exact ⟨a, vs, e, q, p, Rps.mono ds vs F G s r⟩
  | .lst ds, v, F, G, s, h => by
    obtain ⟨a, vs, e, q, hf, r⟩ := h
    exact ⟨a, vs, e, q, s a hf, Rps.mono ds vs _ _ (fun b hb => ⟨s b hb.1, hb.2⟩) r⟩
  | .lck ds, v, F, G, s, h => by
    obtain ⟨a, vs, e, q, hf, r⟩ := h
    exact ⟨a, vs, e, q, s a hf, Rps.mono ds vs _ _ (fun b hb => ⟨s b hb.1, hb.2⟩) r⟩
  | .fnv x, v, F, G, s, h => h
  | .dct ks ds, v, F, G, s, h => by
    obtain ⟨a, vs, e, q, hl, hf, r⟩ := h
    exact ⟨a, vs, e, q, hl, s a hf, Rps.mono ds vs _ _ (fun b hb => ⟨s b hb.1, hb.2⟩) r⟩
theorem Rps.mono : ∀ (ds : List D) (vs : List V) (F G : Fp), (∀ a, F a → G a) → Rps K H ds vs F → Rps K H ds vs G
  | [], vs, F, G, s, h => h
  | d :: ds, vs, F, G, s, h => by
    obtain ⟨v, ws, G1, G2, e, h1, h2, s1, s2, dj⟩ := h
    exact ⟨v, ws, G1, G2, e, h1, h2, fun a q => s a (s1 a q), fun a q => s a (s2 a q), dj⟩
end
mutual
theorem Rp.stay {B : Fp} (k : Keep B H H') : ∀ (d : D) (v : V) (F : Fp), (∀ a, F a → B a → False) → Rp K H d v F → Rp K H' d v F
  | .non, v, F, s, h => h
  | .bl b, v, F, s, h => h
  | .int i, v, F, s, h => h
  | .str x, v, F, s, h => h
  | .ty n, v, F, s, h => h
  | .tup ds, v, F, s, h => by
    obtain ⟨a, vs, e, q, p, r⟩ := h
    exact ⟨a, vs, e, sqt_keep k q, p, Rps.stay k ds vs F s r⟩
  | .rol ds, v, F, s, h => by
    obtain ⟨a, vs, e, q, p, r⟩ := h
    exact ⟨a, vs, e, sqf_keep k q, p, Rps.stay k ds vs F s r⟩
  | .lst ds, v, F, s, h => by
    obtain ⟨a, vs, e, q, hf, r⟩ := h
    exact ⟨a, vs, e, k.k _ _ q (.inl (s a hf)), hf, Rps.stay k ds vs _ (fun b hb => s b hb.1) r⟩
  | .lck ds, v, F, s, h => by
    obtain ⟨a, vs, e, q, hf, r⟩ := h
    exact ⟨a, vs, e, k.k _ _ q (.inl (s a hf)), hf, Rps.stay k ds vs _ (fun b hb => s b hb.1) r⟩
  | .fnv x, v, F, s, h => h
  | .dct ks ds, v, F, s, h => by
    obtain ⟨a, vs, e, q, hl, hf, r⟩ := h
    exact ⟨a, vs, e, k.k _ _ q (.inl (s a hf)), hl, hf, Rps.stay k ds vs _ (fun b hb => s b hb.1) r⟩
theorem Rps.stay {B : Fp} (k : Keep B H H') : ∀ (ds : List D) (vs : List V) (F : Fp), (∀ a, F a → B a → False) → Rps K H ds vs F → Rps K H' ds vs F
  | [], vs, F, s, h => h
  | d :: ds, vs, F, s, h => by
    obtain ⟨v, ws, G1, G2, e, h1, h2, s1, s2, dj⟩ := h
    exact ⟨v, ws, G1, G2, e, Rp.stay k d v G1 (fun a q => s a (s1 a q)) h1, Rps.stay k ds ws G2 (fun a q => s a (s2 a q)) h2, s1, s2, dj⟩
end
mutual
theorem Rp.pure : ∀ (d : D) (v : V) (F : Fp), d.pu = true → Rp K H d v F → Rp K H d v F0
  | .non, v, F, s, h => h
  | .bl b, v, F, s, h => h
  | .int i, v, F, s, h => h
  | .str x, v, F, s, h => h
  | .ty n, v, F, s, h => h
  | .tup ds, v, F, s, h => by
    obtain ⟨a, vs, e, q, p, r⟩ := h
    exact ⟨a, vs, e, q, p, Rps.pure ds vs F p r⟩
  | .rol ds, v, F, s, h => by
    obtain ⟨a, vs, e, q, p, r⟩ := h
    exact ⟨a, vs, e, q, p, Rps.pure ds vs F p r⟩
  | .lst ds, v, F, s, h => by rw [D.pu] at s; cases s
  | .lck ds, v, F, s, h => by rw [D.pu] at s; cases s
  | .fnv x, v, F, s, h => h
  | .dct ks ds, v, F, s, h => by rw [D.pu] at s; cases s
theorem Rps.pure : ∀ (ds : List D) (vs : List V) (F : Fp), D.pus ds = true → Rps K H ds vs F → Rps K H ds vs F0
  | [], vs, F, s, h => h
  | d :: ds, vs, F, s, h => by
    obtain ⟨v, ws, G1, G2, e, h1, h2, s1, s2, dj⟩ := h
    rw [D.pus, Bool.and_eq_true] at s
    exact ⟨v, ws, F0, F0, e, Rp.pure d v G1 s.1 h1, Rps.pure ds ws G2 s.2 h2, fun _ q => q, fun _ q => q, fun _ q => q.elim⟩
end
mutual
theorem Rp.trim : ∀ (d : D) (v : V) (F : Fp), Rp K H d v F → Rp K H d v (fun a => F a ∧ H a ≠ none)
  | .non, v, F, h => h
  | .bl b, v, F, h => h
  | .int i, v, F, h => h
  | .str x, v, F, h => h
  | .ty n, v, F, h => h
  | .tup ds, v, F, h => by
    obtain ⟨a, vs, e, q, p, r⟩ := h
    exact ⟨a, vs, e, q, p, Rps.trim ds vs F r⟩
  | .rol ds, v, F, h => by
    obtain ⟨a, vs, e, q, p, r⟩ := h
    exact ⟨a, vs, e, q, p, Rps.trim ds vs F r⟩
  | .lst ds, v, F, h => by
    obtain ⟨a, vs, e, q, hf, r⟩ := h
    exact ⟨a, vs, e, q, ⟨hf, by rw [q]; exact fun z => nomatch z⟩, Rps.mono ds vs _ _ (fun b hb => ⟨⟨hb.1.1, hb.2⟩, hb.1.2⟩) (Rps.trim ds vs _ r)⟩
  | .lck ds, v, F, h => by
    obtain ⟨a, vs, e, q, hf, r⟩ := h
    exact ⟨a, vs, e, q, ⟨hf, by rw [q]; exact fun z => nomatch z⟩, Rps.mono ds vs _ _ (fun b hb => ⟨⟨hb.1.1, hb.2⟩, hb.1.2⟩) (Rps.trim ds vs _ r)⟩
  | .fnv x, v, F, h => h
  | .dct ks ds, v, F, h => by
    obtain ⟨a, vs, e, q, hl, hf, r⟩ := h
    exact ⟨a, vs, e, q, hl, ⟨hf, by rw [q]; exact fun z => nomatch z⟩, Rps.mono ds vs _ _ (fun b hb => ⟨⟨hb.1.1, hb.2⟩, hb.1.2⟩) (Rps.trim ds vs _ r)⟩
theorem Rps.trim : ∀ (ds : List D) (vs : List V) (F : Fp), Rps K H ds vs F → Rps K H ds vs (fun a => F a ∧ H a ≠ none)
  | [], vs, F, h => h
  | d :: ds, vs, F, h => by
    obtain ⟨v, ws, G1, G2, e, h1, h2, s1, s2, dj⟩ := h
    exact ⟨v, ws, _, _, e, Rp.trim d v G1 h1, Rps.trim ds ws G2 h2, fun a q => ⟨s1 a q.1, q.2⟩, fun a q => ⟨s2 a q.1, q.2⟩, fun a q r => dj a q.1 r.1⟩
end
theorem Rps.length : ∀ (ds : List D) (vs : List V) (F : Fp), Rps K H ds vs F → vs.length = ds.length
  | [], vs, F, h => by rw [show vs = [] from h]; rfl
  | d :: ds, vs, F, h => by
    obtain ⟨v, ws, G1, G2, e, h1, h2, _⟩ := h
    rw [e, List.length_cons, List.length_cons, Rps.length ds ws G2 h2]
theorem Rps.get : ∀ (ds : List D) (vs : List V) (F : Fp) (i : Nat) (d : D), Rps K H ds vs F → ds[i]? = some d → ∃ v, vs[i]? = some v ∧ Rp K H d v F
  | [], vs, F, i, d, h, e => by simp at e
  | x :: ds, vs, F, 0, d, h, e => by
    obtain ⟨v, ws, G1, G2, ev, h1, h2, s1, _⟩ := h
    simp at e; subst e
    exact ⟨v, by rw [ev]; rfl, Rp.mono _ _ _ _ s1 h1⟩
  | x :: ds, vs, F, i + 1, d, h, e => by
    obtain ⟨v, ws, G1, G2, ev, h1, h2, s1, s2, _⟩ := h
    obtain ⟨u, hu, ru⟩ := Rps.get ds ws G2 i d h2 (by simpa using e)
    exact ⟨u, by rw [ev]; simpa using hu, Rp.mono _ _ _ _ s2 ru⟩
/-- a fresh value put behind -/
theorem Rps.snoc : ∀ (ds : List D) (vs : List V) (F G : Fp) (d : D) (v : V), Rps K H ds vs F → Rp K H d v G → Dis F G → Rps K H (ds ++ [d]) (vs ++ [v]) (fun a => F a ∨ G a)
  | [], vs, F, G, d, v, h, hd, dj => by
    rw [show vs = [] from h]
    exact ⟨v, [], G, F0, rfl, hd, rfl, fun a q => .inr q, fun _ q => q.elim, fun _ _ q => q⟩
  | x :: ds, vs, F, G, d, v, h, hd, dj => by
    obtain ⟨u, ws, G1, G2, ev, h1, h2, s1, s2, d2⟩ := h
    subst ev
    exact ⟨u, ws ++ [v], G1, fun a => G2 a ∨ G a, rfl, h1, Rps.snoc ds ws G2 G d v h2 hd (fun a p q => dj a (s2 a p) q), fun a q => .inl (s1 a q), fun a q => q.elim (fun r => .inl (s2 a r)) .inr,
      fun a q r => r.elim (fun z => d2 a q z) fun z => dj a (s1 a q) z⟩
theorem Rps.append : ∀ (ds : List D) (vs : List V) (F G : Fp) (es : List D) (ws : List V), Rps K H ds vs F → Rps K H es ws G → Dis F G → Rps K H (ds ++ es) (vs ++ ws) (fun a => F a ∨ G a)
  | [], vs, F, G, es, ws, h, he, dj => by
    rw [show vs = [] from h]
    exact Rps.mono _ _ _ _ (fun a q => .inr q) he
  | x :: ds, vs, F, G, es, ws, h, he, dj => by
    obtain ⟨u, us, G1, G2, ev, h1, h2, s1, s2, d2⟩ := h
    subst ev
    exact ⟨u, us ++ ws, G1, fun a => G2 a ∨ G a, rfl, h1, Rps.append ds us G2 G es ws h2 he (fun a p q => dj a (s2 a p) q), fun a q => .inl (s1 a q), fun a q => q.elim (fun r => .inl (s2 a r)) .inr,
      fun a q r => r.elim (fun z => d2 a q z) fun z => dj a (s1 a q) z⟩
theorem Rps.set : ∀ (ds : List D) (vs : List V) (F G : Fp) (i : Nat) (d : D) (v : V), Rps K H ds vs F → Rp K H d v G → Dis F G → Rps K H (ds.set i d) (vs.set i v) (fun a => F a ∨ G a)
  | [], vs, F, G, i, d, v, h, hd, dj => by
    rw [show vs = [] from h]
    rfl
  | x :: ds, vs, F, G, 0, d, v, h, hd, dj => by
    obtain ⟨u, ws, G1, G2, ev, h1, h2, s1, s2, d2⟩ := h
    subst ev
    exact ⟨v, ws, G, G2, rfl, hd, h2, fun a q => .inr q, fun a q => .inl (s2 a q), fun a q r => dj a (s2 a r) q⟩
  | x :: ds, vs, F, G, i + 1, d, v, h, hd, dj => by
    obtain ⟨u, ws, G1, G2, ev, h1, h2, s1, s2, d2⟩ := h
    subst ev
    exact ⟨u, ws.set i v, G1, fun a => G2 a ∨ G a, rfl, h1, Rps.set ds ws G2 G i d v h2 hd (fun a p q => dj a (s2 a p) q), fun a q => .inl (s1 a q), fun a q => q.elim (fun r => .inl (s2 a r)) .inr,
      fun a q r => r.elim (fun z => d2 a q z) fun z => dj a (s1 a q) z⟩
theorem Rps.take : ∀ (ds : List D) (vs : List V) (F : Fp) (n : Nat), Rps K H ds vs F → Rps K H (ds.take n) (vs.take n) F
  | ds, vs, F, 0, h => by rw [List.take_zero, List.take_zero]; rfl
  | [], vs, F, n + 1, h => by rw [show vs = [] from h]; rfl
  | x :: ds, vs, F, n + 1, h => by
    obtain ⟨u, ws, G1, G2, ev, h1, h2, s1, s2, d2⟩ := h
    subst ev
    exact ⟨u, ws.take n, G1, G2, rfl, h1, Rps.take ds ws G2 n h2, s1, s2, d2⟩
theorem Rps.drop : ∀ (ds : List D) (vs : List V) (F : Fp) (n : Nat), Rps K H ds vs F → Rps K H (ds.drop n) (vs.drop n) F
  | ds, vs, F, 0, h => h
  | [], vs, F, n + 1, h => by rw [show vs = [] from h]; rfl
  | x :: ds, vs, F, n + 1, h => by
    obtain ⟨u, ws, G1, G2, ev, h1, h2, s1, s2, d2⟩ := h
    subst ev
    exact Rps.mono _ _ _ _ s2 (Rps.drop ds ws G2 n h2)
theorem Rps.reverse : ∀ (ds : List D) (vs : List V) (F : Fp), Rps K H ds vs F → Rps K H ds.reverse vs.reverse F
  | [], vs, F, h => by rw [show vs = [] from h]; rfl
  | x :: ds, vs, F, h => by
    obtain ⟨u, ws, G1, G2, ev, h1, h2, s1, s2, d2⟩ := h
    subst ev
    rw [List.reverse_cons, List.reverse_cons]
    exact Rps.mono _ _ _ _ (fun a q => q.elim (s2 a) (s1 a)) (Rps.snoc _ _ _ _ _ _ (Rps.reverse ds ws G2 h2) h1 fun a p q => d2 a q p)
end

/-! ### slots -/
abbrev Env := List (Option D)
section
variable (K : PySem.W.Frag) (H : Hp)
def Ens : Env → L2.St → Fp → Prop
  | [], σ, _ => σ = []
  | none :: ρ, σ, F => ∃ o τ, σ = o :: τ ∧ Ens ρ τ F
  | some d :: ρ, σ, F => ∃ v τ G1 G2, σ = some v :: τ ∧ Rp K H d v G1 ∧ Ens ρ τ G2 ∧ (∀ a, G1 a → F a) ∧ (∀ a, G2 a → F a) ∧ Dis G1 G2
end
section
variable {K : PySem.W.Frag} {H H' : Hp}
theorem Ens.mono : ∀ (ρ : Env) (σ : L2.St) (F G : Fp), (∀ a, F a → G a) → Ens K H ρ σ F → Ens K H ρ σ G
  | [], σ, F, G, s, h => h
  | none :: ρ, σ, F, G, s, h => by
    obtain ⟨o, τ, e, r⟩ := h
    exact ⟨o, τ, e, Ens.mono ρ τ F G s r⟩
  | some d :: ρ, σ, F, G, s, h => by
    obtain ⟨v, τ, G1, G2, e, h1, h2, s1, s2, dj⟩ := h
    exact ⟨v, τ, G1, G2, e, h1, h2, fun a q => s a (s1 a q), fun a q => s a (s2 a q), dj⟩
theorem Ens.stay {B : Fp} (k : Keep B H H') : ∀ (ρ : Env) (σ : L2.St) (F : Fp), (∀ a, F a → B a → False) → Ens K H ρ σ F → Ens K H' ρ σ F
  | [], σ, F, s, h => h
  | none :: ρ, σ, F, s, h => by
    obtain ⟨o, τ, e, r⟩ := h
    exact ⟨o, τ, e, Ens.stay k ρ τ F s r⟩
  | some d :: ρ, σ, F, s, h => by
    obtain ⟨v, τ, G1, G2, e, h1, h2, s1, s2, dj⟩ := h
    exact ⟨v, τ, G1, G2, e, Rp.stay k d v G1 (fun a q => s a (s1 a q)) h1, Ens.stay k ρ τ G2 (fun a q => s a (s2 a q)) h2, s1, s2, dj⟩
theorem Ens.trim : ∀ (ρ : Env) (σ : L2.St) (F : Fp), Ens K H ρ σ F → Ens K H ρ σ (fun a => F a ∧ H a ≠ none)
  | [], σ, F, h => h
  | none :: ρ, σ, F, h => by
    obtain ⟨o, τ, e, r⟩ := h
    exact ⟨o, τ, e, Ens.trim ρ τ F r⟩
  | some d :: ρ, σ, F, h => by
    obtain ⟨v, τ, G1, G2, e, h1, h2, s1, s2, dj⟩ := h
    exact ⟨v, τ, _, _, e, Rp.trim d v G1 h1, Ens.trim ρ τ G2 h2, fun a q => ⟨s1 a q.1, q.2⟩, fun a q => ⟨s2 a q.1, q.2⟩, fun a q r => dj a q.1 r.1⟩
theorem Ens.length : ∀ (ρ : Env) (σ : L2.St) (F : Fp), Ens K H ρ σ F → σ.length = ρ.length
  | [], σ, F, h => by rw [show σ = [] from h]; rfl
  | none :: ρ, σ, F, h => by
    obtain ⟨o, τ, e, r⟩ := h
    rw [e, List.length_cons, List.length_cons, Ens.length ρ τ F r]
  | some d :: ρ, σ, F, h => by
    obtain ⟨v, τ, G1, G2, e, h1, h2, _⟩ := h
    rw [e, List.length_cons, List.length_cons, Ens.length ρ τ G2 h2]
theorem Ens.get : ∀ (ρ : Env) (σ : L2.St) (F : Fp) (i : Nat) (d : D), Ens K H ρ σ F → ρ[i]? = some (some d) → ∃ v, σ[i]? = some (some v) ∧ Rp K H d v F
  | [], σ, F, i, d, h, e => by simp at e
  | none :: ρ, σ, F, 0, d, h, e => by simp at e
  | none :: ρ, σ, F, i + 1, d, h, e => by
    obtain ⟨o, τ, ev, r⟩ := h
    subst ev
    obtain ⟨v, hv, rv⟩ := Ens.get ρ τ F i d r (by simpa using e)
    exact ⟨v, by simpa using hv, rv⟩
  | some x :: ρ, σ, F, 0, d, h, e => by
    obtain ⟨v, τ, G1, G2, ev, h1, h2, s1, _⟩ := h
    simp at e; subst e; subst ev
    exact ⟨v, rfl, Rp.mono _ _ _ _ s1 h1⟩
  | some x :: ρ, σ, F, i + 1, d, h, e => by
    obtain ⟨v, τ, G1, G2, ev, h1, h2, s1, s2, _⟩ := h
    subst ev
    obtain ⟨u, hu, ru⟩ := Ens.get ρ τ G2 i d h2 (by simpa using e)
    exact ⟨u, by simpa using hu, Rp.mono _ _ _ _ s2 ru⟩
/-- a slot forgets -/
theorem Ens.forget : ∀ (ρ : Env) (σ : L2.St) (F : Fp) (i : Nat), Ens K H ρ σ F → Ens K H (ρ.set i none) σ F
  | [], σ, F, i, h => h
  | none :: ρ, σ, F, 0, h => h
  | none :: ρ, σ, F, i + 1, h => by
    obtain ⟨o, τ, ev, r⟩ := h
    exact ⟨o, τ, ev, Ens.forget ρ τ F i r⟩
  | some x :: ρ, σ, F, 0, h => by
    obtain ⟨v, τ, G1, G2, ev, h1, h2, s1, s2, _⟩ := h
    exact ⟨some v, τ, ev, Ens.mono _ _ _ _ s2 h2⟩
  | some x :: ρ, σ, F, i + 1, h => by
    obtain ⟨v, τ, G1, G2, ev, h1, h2, s1, s2, dj⟩ := h
    exact ⟨v, τ, G1, G2, ev, h1, Ens.forget ρ τ G2 i h2, s1, s2, dj⟩
/-- σ at a slot that the environment does not know may be anything -/
theorem Ens.other : ∀ (ρ : Env) (σ : L2.St) (F : Fp) (i : Nat) (o : Option V), Ens K H ρ σ F → ρ[i]? ≠ none → (∀ d, ρ[i]? ≠ some (some d)) → Ens K H ρ (σ.set i o) F
  | [], σ, F, i, o, h, e, e2 => by rw [show σ = [] from h]; rfl
  | none :: ρ, σ, F, 0, o, h, e, e2 => by
    obtain ⟨u, τ, ev, r⟩ := h
    exact ⟨o, τ, by rw [ev]; rfl, r⟩
  | none :: ρ, σ, F, i + 1, o, h, e, e2 => by
    obtain ⟨u, τ, ev, r⟩ := h
    exact ⟨u, τ.set i o, by rw [ev]; rfl, Ens.other ρ τ F i o r (by simpa using e) (by simpa using e2)⟩
  | some x :: ρ, σ, F, 0, o, h, e, e2 => absurd rfl (e2 x)
  | some x :: ρ, σ, F, i + 1, o, h, e, e2 => by
    obtain ⟨v, τ, G1, G2, ev, h1, h2, s1, s2, dj⟩ := h
    exact ⟨v, τ.set i o, G1, G2, by rw [ev]; rfl, h1, Ens.other ρ τ G2 i o h2 (by simpa using e) (by simpa using e2), s1, s2, dj⟩
/-- a value laid into a slot -/
theorem Ens.put : ∀ (ρ : Env) (σ : L2.St) (F G : Fp) (i : Nat) (d : D) (v : V), Ens K H ρ σ F → Rp K H d v G → Dis F G → Ens K H (ρ.set i (some d)) (σ.set i (some v)) (fun a => F a ∨ G a)
  | [], σ, F, G, i, d, v, h, hd, dj => by rw [show σ = [] from h]; rfl
  | none :: ρ, σ, F, G, 0, d, v, h, hd, dj => by
    obtain ⟨u, τ, ev, r⟩ := h
    exact ⟨v, τ, G, F, by rw [ev]; rfl, hd, r, fun a q => .inr q, fun a q => .inl q, fun a p q => dj a q p⟩
  | none :: ρ, σ, F, G, i + 1, d, v, h, hd, dj => by
    obtain ⟨u, τ, ev, r⟩ := h
    exact ⟨u, τ.set i (some v), by rw [ev]; rfl, Ens.put ρ τ F G i d v r hd dj⟩
  | some x :: ρ, σ, F, G, 0, d, v, h, hd, dj => by
    obtain ⟨u, τ, G1, G2, ev, h1, h2, s1, s2, d2⟩ := h
    exact ⟨v, τ, G, G2, by rw [ev]; rfl, hd, h2, fun a q => .inr q, fun a q => .inl (s2 a q), fun a p q => dj a (s2 a q) p⟩
  | some x :: ρ, σ, F, G, i + 1, d, v, h, hd, dj => by
    obtain ⟨u, τ, G1, G2, ev, h1, h2, s1, s2, d2⟩ := h
    exact ⟨u, τ.set i (some v), G1, fun a => G2 a ∨ G a, by rw [ev]; rfl, h1, Ens.put ρ τ G2 G i d v h2 hd (fun a p q => dj a (s2 a p) q), fun a q => .inl (s1 a q), fun a q => q.elim (fun r => .inl (s2 a r)) .inr,
      fun a p q => q.elim (fun z => d2 a p z) fun z => dj a (s1 a p) z⟩
/-- a slot's value taken out: what it has is apart from the rest -/
theorem Ens.take : ∀ (ρ : Env) (σ : L2.St) (F : Fp) (i : Nat) (d : D), Ens K H ρ σ F → ρ[i]? = some (some d) → ∃ v G1 G2, σ[i]? = some (some v) ∧ Rp K H d v G1 ∧ Ens K H (ρ.set i none) σ G2 ∧ (∀ a, G1 a → F a) ∧ (∀ a, G2 a → F a) ∧ Dis G1 G2
  | [], σ, F, i, d, h, e => by simp at e
  | none :: ρ, σ, F, 0, d, h, e => by simp at e
  | none :: ρ, σ, F, i + 1, d, h, e => by
    obtain ⟨o, τ, ev, r⟩ := h
    obtain ⟨v, G1, G2, hv, rv, re, s1, s2, dj⟩ := Ens.take ρ τ F i d r (by simpa using e)
    exact ⟨v, G1, G2, by rw [ev]; simpa using hv, rv, ⟨o, τ, ev, re⟩, s1, s2, dj⟩
  | some x :: ρ, σ, F, 0, d, h, e => by
    obtain ⟨v, τ, G1, G2, ev, h1, h2, s1, s2, dj⟩ := h
    simp at e; subst e
    exact ⟨v, G1, G2, by rw [ev]; rfl, h1, ⟨some v, τ, ev, h2⟩, s1, s2, dj⟩
  | some x :: ρ, σ, F, i + 1, d, h, e => by
    obtain ⟨u, τ, G1, G2, ev, h1, h2, s1, s2, dj⟩ := h
    obtain ⟨v, G3, G4, hv, rv, re, s3, s4, d4⟩ := Ens.take ρ τ G2 i d h2 (by simpa using e)
    refine ⟨v, G3, fun a => G1 a ∨ G4 a, by rw [ev]; simpa using hv, rv, ⟨u, τ, G1, G4, ev, h1, re, fun a q => .inl q, fun a q => .inr q, fun a p q => dj a p (s4 a q)⟩, fun a q => s2 a (s3 a q),
      fun a q => q.elim (s1 a) fun r => s2 a (s4 a r), fun a p q => q.elim (fun r => dj a r (s3 a p)) fun r => d4 a p r⟩
theorem set_same {α : Type} : ∀ (l : List α) (i : Nat) (x : α), l[i]? = some x → l.set i x = l
  | [], i, x, h => by simp at h
  | y :: l, 0, x, h => by simp at h; rw [h]; rfl
  | y :: l, i + 1, x, h => by
    show y :: l.set i x = y :: l
    rw [set_same l i x (by simpa using h)]
/-- laid back at the slot's own place -/
theorem Ens.back {ρ : Env} {σ : L2.St} {F G : Fp} {i : Nat} {d : D} {v : V} (h : Ens K H (ρ.set i none) σ F) (hv : σ[i]? = some (some v)) (hd : Rp K H d v G) (dj : Dis F G) : Ens K H (ρ.set i (some d)) σ (fun a => F a ∨ G a) := by
  have q := Ens.put _ _ F G i d v h hd dj
  rw [List.set_set, set_same σ i (some v) hv] at q
  exact q
end
end TI
set_option Elab.async false
set_option linter.all false
set_option maxRecDepth 100000
set_option maxHeartbeats 4000000
/-! a small evaluator over values without addresses -/
namespace TI
open PySem PySem.Spec PyProof.Rows L2

inductive Res where
  | ret (d : D) (fin : Env)
  | exc (c : Str) (fs : List (Str × D))
  | stuck
structure Nx where
  nx : Env → Res
  bk : Env → Res
  ct : Env → Res
  rt : D → Env → Res
/-- what a global name is -/
inductive Glo where
  | fn (n : Nat) | bi | con (d : D) | kd (kvs : List (Str × D)) | cls (ps : List Str) | no
structure Cd where
  N : List Str
  np : Nat
  glo : Str → Glo
  call : Str → List D → Res
  wf : Nat
  own : Str → Bool
  xc : Str → List (Str × D) → Env → Res
  /-- the most signs of a text that int() reads -/
  lim : Nat

inductive Arg where
  | nm (i : Nat) | own (d : D) | bor (d : D)

def ixOf : List Str → Str → Option Nat
  | [], _ => none
  | y :: l, x => if y = x then some 0 else (ixOf l x).map (· + 1)
def vis (sc : Scope) (x : Str) : Bool :=
  match sc.names.lookup x with
  | some .local => true
  | some .cell => true
  | some .free => true
  | _ => false
def locl (sc : Scope) (x : Str) : Bool :=
  match sc.names.lookup x with
  | some .local => true
  | some .cell => true
  | _ => false
def okName (x : Str) : Bool := !(x == ("__debug__" : Str)) && !(x == ("__classdict__" : Str)) && !(x == ("__name__" : Str))
def slotOf (C : Cd) (sc : Scope) (x : Str) : Option Nat := if vis sc x && okName x then ixOf C.N x else none
def globOf (C : Cd) (sc : Scope) (x : Str) : Glo := match sc.names.lookup x with
  | some .globalImplicit => if okName x then C.glo x else .no
  | _ => .no
def isBi (C : Cd) (sc : Scope) (x : Str) : Bool := match globOf C sc x with
  | .bi => true
  | _ => false
def isFn (C : Cd) (sc : Scope) (x : Str) : Option Nat := match globOf C sc x with
  | .fn n => some n
  | _ => none
def noStar : List Expr → Bool
  | [] => true
  | .Starred _ _ :: _ => false
  | _ :: r => noStar r

def oK {α : Type} (o : Option α) (k : α → Res) : Res := match o with
  | some a => k a
  | none => .stuck
def puK (d : D) (r : Res) : Res := match d.pu with
  | true => r
  | false => .stuck
def pusK (ds : List D) (r : Res) : Res := match D.pus ds with
  | true => r
  | false => .stuck
def ckK (b : Bool) (r : Res) : Res := match b with
  | true => r
  | false => .stuck
def getK (ρ : Env) (i : Nat) (k : D → Res) : Res := match ρ[i]? with
  | some (some d) => k d
  | _ => .stuck

def isPath0 : Expr → Bool
  | .Name _ _ => true
  | .Subscript _ (.Slice _ _ _ _) _ => false
  | .Subscript _ _ _ => true
  | .Attribute _ _ _ => true
  | .IfExp _ _ _ _ => true
  | .BoolOp _ _ _ => true
  | _ => false
def isPath : Expr → Bool
  | .IfExp _ a b _ => isPath0 a || isPath0 b
  | e => isPath0 e
def isCalm : Expr → Bool
  | .Name _ _ => true
  | .Constant _ _ _ => true
  | _ => false
/-- a value that is kept while e is evaluated -/
def holdK (e1 : Expr) (d1 : D) (e2 : Expr) (r : Res) : Res := if isPath e1 && !isCalm e2 then puK d1 r else r
def storK (e : Expr) (d : D) (r : Res) : Res := if isPath e then puK d r else r

def szLine : Nat := 16777216
/-! ### operators by values -/
def mulOk (i j : Int) : Bool := decide (i.natAbs < 18446744073709551616) || decide (j.natAbs < 18446744073709551616) || decide (i.natAbs.log2 + j.natAbs.log2 < 1000000)
def divOk (j : Int) : Bool := (decide (j ≠ 0) && decide (j.natAbs < 1073741824)) || (decide (0 < j) && decide (j.natAbs.log2 < 9000))
def dAdd (x y : D) (k : D → Res) : Res := match x, y with
  | .int i, .int j => k (.int (i + j))
  | .str a, .str b => ckK (decide (a.length + b.length ≤ szLine)) (k (.str (a ++ b)))
  | .tup xs, .tup ys => ckK (decide (xs.length + ys.length ≤ szLine)) (k (.tup (xs ++ ys)))
  | .lst xs, .lst ys => ckK (decide (xs.length + ys.length ≤ szLine)) (pusK xs (pusK ys (k (.lst (xs ++ ys)))))
  | _, _ => .stuck
def dSub (x y : D) (k : D → Res) : Res := match x, y with
  | .int i, .int j => k (.int (i - j))
  | _, _ => .stuck
def repS (x : Str) (n : Nat) : Str := ⟨(List.replicate n x.cps.toList).flatten.toArray⟩
def dMul (x y : D) (k : D → Res) : Res := match x, y with
  | .int i, .int j => ckK (mulOk i j) (k (.int (i * j)))
  | .str a, .int j => ckK (decide (j.natAbs ≤ 100000) && decide (a.length * j.toNat ≤ szLine)) (k (.str (repS a j.toNat)))
  | _, _ => .stuck
def dDiv (x y : D) (k : D → Res) : Res := match x, y with
  | .int i, .int j => ckK (divOk j) (k (.int (i.fdiv j)))
  | _, _ => .stuck
def dMod (x y : D) (k : D → Res) : Res := match x, y with
  | .int i, .int j => ckK (decide (j ≠ 0)) (k (.int (i.fmod j)))
  | _, _ => .stuck
def dPow (x y : D) (k : D → Res) : Res := match x, y with
  | .int i, .int j => ckK (decide (0 ≤ j) && decide (j ≤ 1000000) && decide (i.natAbs < 18446744073709551616)) (k (.int (i ^ j.toNat)))
  | _, _ => .stuck
def binD (op : Operator) (x y : D) (k : D → Res) : Res := match op with
  | .Add => dAdd x y k
  | .Sub => dSub x y k
  | .Mult => dMul x y k
  | .FloorDiv => dDiv x y k
  | .Mod => dMod x y k
  | .Pow => dPow x y k
  | _ => .stuck

mutual
def toPy : D → PyData
  | .non => .none
  | .bl b => .bool b
  | .int i => .int i
  | .str x => .str x
  | .tup ds => .tuple (toPys ds)
  | .rol ds => .list (toPys ds)
  | .lst ds => .list (toPys ds)
  | .lck ds => .list (toPys ds)
  | .ty _ => .none
  | .fnv _ => .none
  | .dct _ _ => .none
def toPys : List D → List PyData
  | [] => []
  | d :: ds => toPy d :: toPys ds
end
mutual
/-- data that may be compared at any depth -/
def pyOk : D → Bool
  | .ty _ => false
  | .fnv _ => false
  | .dct _ _ => false
  | .tup ds => pyOks ds
  | .rol ds => pyOks ds
  | .lst ds => pyOks ds
  | .lck ds => pyOks ds
  | _ => true
def pyOks : List D → Bool
  | [] => true
  | d :: ds => pyOk d && pyOks ds
end
def eqOk (d : D) : Bool := pyOk d && SeqAt.shaped (toPy d)
def dEqD (x y : D) (k : Bool → Res) : Res := ckK (eqOk x && eqOk y) (k (PyData.eqv (toPy x) (toPy y)))
def dEq (x y : D) (k : Bool → Res) : Res := match x, y with
  | .int i, .int j => k (decide (i = j))
  | .str a, .str b => k (decide (a = b))
  | .bl a, .bl b => k (decide (a = b))
  | .non, .int _ => k false
  | .int _, .non => k false
  | .non, .str _ => k false
  | .str _, .non => k false
  | .int _, .str _ => k false
  | .str _, .int _ => k false
  | .non, .non => k true
  | .ty _, _ => .stuck
  | _, .ty _ => .stuck
  | x, y => dEqD x y k
def dLt (x y : D) (k : Bool → Res) : Res := match x, y with
  | .int i, .int j => k (decide (i < j))
  | .str a, .str b => k (decide (a.cps.toList < b.cps.toList))
  | _, _ => .stuck
def dLe (x y : D) (k : Bool → Res) : Res := match x, y with
  | .int i, .int j => k (decide (i ≤ j))
  | _, _ => .stuck
def isN : D → Bool
  | .non => true
  | _ => false
def isB (b : Bool) : D → Bool
  | .bl c => decide (c = b)
  | _ => false
/-- x is y, y a written None, True or False -/
def dIs (x y : D) (k : Bool → Res) : Res := match y with
  | .non => k (isN x)
  | .bl b => k (isB b x)
  | .ty n => (match x with
    | .ty m => k (decide (m = n))
    | _ => .stuck)
  | _ => .stuck
/-- x in y: a sign in a text; a flat value among flat values -/
def flatD : D → Bool
  | .non => true
  | .bl _ => true
  | .int _ => true
  | .str _ => true
  | _ => false
def dIn (x y : D) (k : Bool → Res) : Res := match y with
  | .str z => (match x with
    | .str a => ckK (decide (a.length = 1)) (k (decide (a.cps.getD 0 0 ∈ z.cps.toList)))
    | _ => .stuck)
  | .tup ds => ckK (flatD x && ds.all flatD) (k (ds.any fun d => PyData.eqv (toPy d) (toPy x)))
  | .rol ds => ckK (flatD x && ds.all flatD) (k (ds.any fun d => PyData.eqv (toPy d) (toPy x)))
  | .lst ds => ckK (flatD x && ds.all flatD) (k (ds.any fun d => PyData.eqv (toPy d) (toPy x)))
  | .lck ds => ckK (flatD x && ds.all flatD) (k (ds.any fun d => PyData.eqv (toPy d) (toPy x)))
  | _ => .stuck
def cmpD (op : CmpOp) (x y : D) (k : Bool → Res) : Res := match op with
  | .Eq => dEq x y k
  | .NotEq => dEq x y fun b => k (!b)
  | .Lt => dLt x y k
  | .Gt => dLt y x k
  | .LtE => dLe x y k
  | .GtE => dLe y x k
  | .Is => dIs x y k
  | .IsNot => dIs x y fun b => k (!b)
  | .In => dIn x y k
  | .NotIn => dIn x y fun b => k (!b)

def atK (ds : List D) (i : Int) (k : D → Res) : Res := match atI ds i with
  | some d => k d
  | none => .stuck
/-- d[i] -/
def dIx (d i : D) (k : D → Res) : Res := match d, i with
  | .tup ds, .int j => atK ds j k
  | .rol ds, .int j => atK ds j k
  | .lst ds, .int j => atK ds j k
  | .lck ds, .int j => atK ds j k
  | .str x, .int j => ckK (decide (x.length ≤ szLine)) (match atI x.cps.toList j with
    | some c => k (.str ⟨#[c]⟩)
    | none => .stuck)
  | _, _ => .stuck
def cutL (ds : List D) (lo hi : Option Int) : List D := (ds.drop (HT.sIx ds.length 0 lo)).take (HT.sIx ds.length ds.length hi - HT.sIx ds.length 0 lo)
/-- d[lo:hi] -/
def dSl (d : D) (lo hi : Option Int) (k : D → Res) : Res := match d with
  | .tup ds => k (.tup (cutL ds lo hi))
  | .rol ds => k (.lst (cutL ds lo hi))
  | .lst ds => pusK ds (k (.lst (cutL ds lo hi)))
  | .lck ds => pusK ds (k (.lst (cutL ds lo hi)))
  | .str x => ckK (decide (x.length ≤ szLine)) (k (.str (cutS x lo hi)))
  | _ => .stuck
def dNeg (d : D) (k : D → Res) : Res := match d with
  | .int i => k (.int (-i))
  | _ => .stuck
/-- the truth of a value -/
def dTru (d : D) (k : Bool → Res) : Res := match d with
  | .non => k false
  | .bl b => k b
  | .int i => k (decide (i ≠ 0))
  | .str x => ckK (decide (x.length ≤ szLine)) (k (decide (x.length ≠ 0)))
  | .tup ds => k (!ds.isEmpty)
  | .rol ds => k (!ds.isEmpty)
  | .lst ds => k (!ds.isEmpty)
  | .lck ds => k (!ds.isEmpty)
  | _ => .stuck
def dLen (d : D) (k : D → Res) : Res := match d with
  | .str x => ckK (decide (x.length ≤ szLine)) (k (.int x.length))
  | .tup ds => k (.int ds.length)
  | .rol ds => k (.int ds.length)
  | .lst ds => k (.int ds.length)
  | .lck ds => k (.int ds.length)
  | _ => .stuck
def dInt (lim : Nat) (d : D) (k : D → Res) : Res := match d with
  | .int i => k (.int i)
  | .bl b => k (.int (if b then 1 else 0))
  | .str x => ckK (decide (x.length ≤ lim)) (match intText? x with
    | some n => k (.int n)
    | none => .stuck)
  | _ => .stuck
def dStr (d : D) (k : D → Res) : Res := match d with
  | .int i => ckK (decide (i.natAbs.log2 < 1920)) (k (.str (Str.ofString (toString i))))
  | _ => .stuck
def dTup (d : D) (k : D → Res) : Res := match d with
  | .tup ds => k (.tup ds)
  | .rol ds => k (.tup ds)
  | .lst ds => pusK ds (k (.tup ds))
  | .lck ds => pusK ds (k (.tup ds))
  | _ => .stuck
def dAbs (d : D) (k : D → Res) : Res := match d with
  | .int i => k (.int (if i < 0 then -i else i))
  | _ => .stuck
def dOrd (d : D) (k : D → Res) : Res := match d with
  | .str x => ckK (decide (x.length = 1)) (k (.int (x.cps.getD 0 0 : Nat)))
  | _ => .stuck
def blsD : List D → Option (List Bool)
  | [] => some []
  | .bl b :: ds => (blsD ds).map (b :: ·)
  | _ :: _ => none
def intsD : List D → Option (List Int)
  | [] => some []
  | .int b :: ds => (intsD ds).map (b :: ·)
  | _ :: _ => none
/-- of a list -/
def lstK (d : D) (k : List D → Res) : Res := match d with
  | .rol ds => k ds
  | .lst ds => k ds
  | .lck ds => k ds
  | _ => .stuck
def dAll (d : D) (k : D → Res) : Res := lstK d fun ds => oK (blsD ds) fun bs => k (.bl (bs.all id))
def dAny (d : D) (k : D → Res) : Res := lstK d fun ds => oK (blsD ds) fun bs => k (.bl (bs.any id))
def dSum (d : D) (k : D → Res) : Res := lstK d fun ds => oK (intsD ds) fun bs => k (.int bs.sum)
def maxI : Int → List Int → Int
  | m, [] => m
  | m, x :: l => maxI (if m < x then x else m) l
def minI : Int → List Int → Int
  | m, [] => m
  | m, x :: l => minI (if x < m then x else m) l
def dMax1 (d : D) (k : D → Res) : Res := lstK d fun ds => oK (intsD ds) fun bs => match bs with
  | [] => .stuck
  | x :: l => k (.int (maxI x l))
def dMin1 (d : D) (k : D → Res) : Res := lstK d fun ds => oK (intsD ds) fun bs => match bs with
  | [] => .stuck
  | x :: l => k (.int (minI x l))
def dMax2 (x y : D) (k : D → Res) : Res := match x, y with
  | .int i, .int j => k (.int (if j > i then j else i))
  | _, _ => .stuck
def dMin2 (x y : D) (k : D → Res) : Res := match x, y with
  | .int i, .int j => k (.int (if j < i then j else i))
  | _, _ => .stuck
def dvmOk (i j : Int) : Bool := decide (0 < j) && decide (i.natAbs.log2 < 9000)
def dDvm (x y : D) (k : D → Res) : Res := match x, y with
  | .int i, .int j => ckK (dvmOk i j) (k (.tup [.int (i / j), .int (i % j)]))
  | _, _ => .stuck
def tyD : D → Option String
  | .non => some "NoneType"
  | .bl _ => some "bool"
  | .int _ => some "int"
  | .str _ => some "str"
  | .tup _ => some "tuple"
  | .rol _ => some "list"
  | .lst _ => some "list"
  | .lck _ => some "list"
  | .ty _ => none
  | .fnv _ => none
  | .dct _ _ => none
def isiCls (c : Str) : Option String :=
  if c = "int" then some "int"
  else if c = "str" then some "str"
  else if c = "tuple" then some "tuple"
  else if c = "list" then some "list"
  else if c = "bool" then some "bool"
  else none
def dTyp (d : D) (k : D → Res) : Res := match d with
  | .int _ => k (.ty "int")
  | .str _ => k (.ty "str")
  | .lst _ => k (.ty "list")
  | .tup _ => k (.ty "tuple")
  | .bl _ => k (.ty "bool")
  | .non => k (.ty "NoneType")
  | _ => .stuck
def dIsi (d : D) (n : String) (k : D → Res) : Res := oK (tyD d) fun t => k (.bl (t == n || (n == "int" && t == "bool")))
def strsD : List D → Option (List Str)
  | [] => some []
  | .str x :: ds => (strsD ds).map (x :: ·)
  | _ :: _ => none
def joinLen (a : Str) (ys : List Str) : Nat := (Txt.join a ys).length
def dJoin (a : Str) (d : D) (k : D → Res) : Res :=
  let go (ds : List D) : Res := match strsD ds with
    | some ys => ckK (decide ((ys.map (·.length)).sum + ys.length * a.length ≤ szLine)) (k (.str (Txt.join a ys)))
    | none => .stuck
  match d with
  | .tup ds => go ds
  | .rol ds => go ds
  | .lst ds => go ds
  | .lck ds => go ds
  | _ => .stuck

/-! ### arguments -/
def resP : List Arg → Env → (List D → Res) → Res
  | [], _, k => k []
  | .nm i :: as, ρ, k => getK ρ i fun d => puK d (resP as ρ fun ds => k (d :: ds))
  | .own d :: as, ρ, k => resP as ρ fun ds => k (d :: ds)
  | .bor d :: as, ρ, k => puK d (resP as ρ fun ds => k (d :: ds))
def resB : List Arg → Env → (List D → Res) → Res
  | [], _, k => k []
  | .nm i :: as, ρ, k => getK ρ i fun d => resB as ρ fun ds => k (d :: ds)
  | .own d :: as, ρ, k => resB as ρ fun ds => k (d :: ds)
  | .bor d :: as, ρ, k => resB as ρ fun ds => k (d :: ds)
/-- what stays in a slot that lends its value; what comes back -/
def lend (d : D) : Option D := match d.pu with
  | true => some d
  | false => none
def unlend (d : D) (o : Option (Option D)) : Option D := match d.pu with
  | true => some d
  | false => match o with
    | some o' => o'
    | none => none
/-- the arguments of a call of one's own: what is written through a name is lent -/
def takeK : List Arg → Nat → Env → (List D → Env → List (Nat × Nat × D) → Res) → Res
  | [], _, ρ, k => k [] ρ []
  | .nm i :: as, p, ρ, k => getK ρ i fun d => takeK as (p + 1) (ρ.set i (lend d)) fun ds ρ1 l => k (d :: ds) ρ1 ((i, p, d) :: l)
  | .own d :: as, p, ρ, k => takeK as (p + 1) ρ fun ds ρ1 l => k (d :: ds) ρ1 l
  | .bor d :: as, p, ρ, k => puK d (takeK as (p + 1) ρ fun ds ρ1 l => k (d :: ds) ρ1 l)
def back : List (Nat × Nat × D) → Env → Env → Env
  | [], _, ρ => ρ
  | e :: l, fin, ρ => back l fin (ρ.set e.1 (unlend e.2.2 fin[e.2.1]?))
def callK (C : Cd) (f : Str) (as : List Arg) (ρ : Env) (k : D → Env → Res) : Res :=
  takeK as 0 ρ fun ds ρ1 l => match C.call f ds with
    | .ret d fin => k d (back l fin ρ1)
    | .exc c fs => C.xc c fs ρ1
    | .stuck => .stuck

/-- what of the parameters is handed back: their objects -/
def fin1 (o : Option D) : Option D := match o with
  | some d => (match d.pu with
    | true => none
    | false => some d)
  | none => none
def finOf : Nat → Env → Env
  | 0, _ => []
  | n + 1, [] => none :: finOf n []
  | n + 1, o :: ρ => fin1 o :: finOf n ρ

/-! ### the evaluator's parts -/
structure Fns where
  E : Cd → Scope → Expr → Env → (D → Env → Res) → Res
  T : Cd → Scope → Expr → Env → (Bool → Env → Res) → Res
  A : Cd → Scope → List Expr → Env → (List Arg → Env → Res) → Res
  P : Cd → Scope → Expr → Env → (D → Env → Res) → Res
  G : Cd → Scope → Expr → D → Env → (Env → Res) → Res
  S : Cd → Scope → List Stmt → Env → Nx → Res
def dead : Fns := ⟨fun _ _ _ _ _ => .stuck, fun _ _ _ _ _ => .stuck, fun _ _ _ _ _ => .stuck, fun _ _ _ _ _ => .stuck, fun _ _ _ _ _ _ => .stuck, fun _ _ _ _ _ => .stuck⟩

def nameE (C : Cd) (sc : Scope) (x : Str) (ρ : Env) (k : D → Env → Res) : Res :=
  match slotOf C sc x with
  | some i => getK ρ i fun d => k d ρ
  | none => match globOf C sc x with
    | .con d => k d ρ
    | .bi => (match isiCls x with
      | some n => k (.ty n) ρ
      | none => .stuck)
    | _ => .stuck
def constE (c : Const) (k : D → Res) : Res := match c with
  | .int i => k (.int i)
  | .bool b => k (.bl b)
  | .none => k .non
  | .str x => k (.str x)
  | _ => .stuck
/-- a slot's new value: an own parameter's object is never lost -/
def setK (C : Cd) (i : Nat) (d : D) (ρ : Env) (k : Env → Res) : Res :=
  if i < C.np then puK d (match ρ[i]? with
    | some (some o) => puK o (k (ρ.set i (some d)))
    | _ => .stuck)
  else k (ρ.set i (some d))
/-- parts of a slice -/
def optE (R : Fns) (C : Cd) (sc : Scope) (o : Option Expr) (ρ : Env) (k : Option Int → Env → Res) : Res := match o with
  | none => k none ρ
  | some e => R.E C sc e ρ fun d ρ1 => match d with
    | .int i => k (some i) ρ1
    | _ => .stuck
def kdGet (kvs : List (Str × D)) (x : Str) : Option D := kvs.lookup x

def callE (R : Fns) (C : Cd) (sc : Scope) (f : Str) (n : Nat) (args : List Expr) (ρ : Env) (k : D → Env → Res) : Res := match args with
  | [] => ckK (decide (0 = n)) (callK C f [] ρ k)
  | a :: r => R.A C sc (a :: r) ρ fun as ρ1 => ckK (decide (as.length = n)) (callK C f as ρ1 k)
def as1 : List D → Option D
  | [d] => some d
  | _ => none
/-- a built-in called by its name -/
def tab1 (lim : Nat) : List (Str × (D → (D → Res) → Res)) := [("len", dLen), ("int", dInt lim), ("str", dStr), ("tuple", dTup), ("abs", dAbs), ("ord", dOrd), ("all", dAll), ("any", dAny), ("sum", dSum), ("max", dMax1), ("min", dMin1), ("type", dTyp)]
def tab2 : List (Str × (D → D → (D → Res) → Res)) := [("max", dMax2), ("min", dMin2), ("divmod", dDvm)]
def fn1 (lim : Nat) (f : Str) : Option (D → (D → Res) → Res) := (tab1 lim).lookup f
def fn2 (f : Str) : Option (D → D → (D → Res) → Res) := tab2.lookup f
def isB1 (f : Str) : Bool := (fn1 0 f).isSome || (fn2 f).isSome
def biE (C : Cd) (f : Str) (as : List Arg) (ρ : Env) (k : D → Env → Res) : Res :=
  resB as ρ fun ds => match ds with
    | [d] => oK (fn1 C.lim f) fun g => g d fun r => k r ρ
    | [d, e] => oK (fn2 f) fun g => g d e fun r => k r ρ
    | _ => .stuck
def isiE (R : Fns) (C : Cd) (sc : Scope) (args : List Expr) (ρ : Env) (k : D → Env → Res) : Res := match args with
  | [a, .Name c _] => ckK (isBi C sc c) (oK (isiCls c) fun n => R.E C sc a ρ fun d ρ1 => dIsi d n fun r => k r ρ1)
  | _ => .stuck

/-- a written dict -/
def dcK : List (Option Expr) → Option (List Str)
  | [] => some []
  | some (.Constant (.str x) _ _) :: r => (dcK r).map (x :: ·)
  | _ :: _ => none
def dcV : List Expr → Option (List D)
  | [] => some []
  | .Constant (.int i) _ _ :: r => (dcV r).map (.int i :: ·)
  | .Constant (.bool i) _ _ :: r => (dcV r).map (.bl i :: ·)
  | .Constant .none _ _ :: r => (dcV r).map (.non :: ·)
  | .Constant (.str i) _ _ :: r => (dcV r).map (.str i :: ·)
  | _ :: _ => none
def dupS : List Str → Bool
  | [] => false
  | x :: l => l.contains x || dupS l
def dctE (ks : List (Option Expr)) (vs : List Expr) (k : D → Res) : Res := oK (dcK ks) fun xs => oK (dcV vs) fun ds => ckK (decide (xs.length = ds.length) && !dupS xs && decide (0 < xs.length) && decide (xs.length ≤ 15)) (k (.dct (xs.map .inr) ds))
def keyD : D → Option Key
  | .int i => some (.inl i)
  | .str x => some (.inr x)
  | _ => none
def dctGet : List Key → List D → Key → Option D
  | k :: ks, d :: ds, y => if decide (k = y) then some d else dctGet ks ds y
  | _, _, _ => none
/-- {..}.get(e, f) -/
def get2E (R : Fns) (C : Cd) (sc : Scope) (b a e : Expr) (ρ : Env) (k : D → Env → Res) : Res :=
  R.E C sc b ρ fun d ρ1 => match d with
    | .dct ks ds => ckK (!isPath b) (pusK ds (R.E C sc a ρ1 fun y ρ2 => R.E C sc e ρ2 fun z ρ3 => oK (keyD y) fun key => puK z (k ((dctGet ks ds key).getD z) ρ3)))
    | _ => .stuck
def getArgs (o : Expr) (m : Str) (args : List Expr) : Option (Expr × Expr) := match o, args with
  | .Dict _ _ _, [a, e] => if m = "get" then some (a, e) else none
  | _, _ => none
def raiseOf : Option Expr → Option Expr → Option (Str × Expr × List Expr)
  | some (.Call (.Name c _) (a :: r) [] _), none => some (c, a, r)
  | _, _ => none
def isDct : Expr → Bool
  | .Dict _ _ _ => true
  | _ => false
def nmOf : Expr → Option Str
  | .Name x _ => some x
  | _ => none
def opG : Expr → Bool
  | .Call (.Name _ _) [] [] _ => false
  | _ => true
def asS : List D → Option Str
  | [.str y] => some y
  | _ => none
def asSII : List D → Option (Str × Int × Int)
  | [.str y, .int i, .int j] => some (y, i, j)
  | _ => none
/-- a method of a text -/
def strM (m : Str) (x : Str) (ds : List D) (k : D → Res) : Res :=
  if m = "join" then (match ds with
    | [d] => dJoin x d k
    | _ => .stuck)
  else if m = "find" then oK (asSII ds) fun t => k (.int (Txt.findIn x t.1 t.2.1 t.2.2))
  else if m = "lstrip" then oK (asS ds) fun y => ckK (decide (x.length ≤ szLine)) (k (.str (Txt.lstripChars x y)))
  else .stuck

/-- a name's item -/
def ixN1 (R : Fns) (C : Cd) (sc : Scope) (x : Str) (i : Expr) (ρ : Env) (k : D → Env → Res) : Res := match slotOf C sc x with
  | some j => getK ρ j fun _ => R.E C sc i ρ fun y ρ1 => getK ρ1 j fun d => dIx d y fun z => k z ρ1
  | none => (match globOf C sc x with
    | .kd kvs => R.E C sc i ρ fun y ρ1 => oK (asS [y]) fun s => oK (kdGet kvs s) fun d => k d ρ1
    | .con d => R.E C sc i ρ fun y ρ1 => dIx d y fun z => k z ρ1
    | _ => .stuck)
/-- arguments, one at least -/
def argE (R : Fns) (C : Cd) (sc : Scope) (args : List Expr) (ρ : Env) (k : List Arg → Env → Res) : Res := match args with
  | [] => .stuck
  | a :: r => R.A C sc (a :: r) ρ k
/-- a method called -/
def appE (R : Fns) (C : Cd) (sc : Scope) (m : Str) (i : Nat) (args : List Expr) (ρ : Env) (k : D → Env → Res) : Res :=
  if m = "append" then R.A C sc args ρ fun as ρ1 => resP as ρ1 fun ys => oK (as1 ys) fun y => getK ρ1 i fun d1 => (match d1 with
    | .lst zs => ckK (decide (zs.length < szLine)) (k .non (ρ1.set i (some (.lst (zs ++ [y])))))
    | _ => .stuck)
  else .stuck
def isStrM (m : Str) : Bool := m == "join" || m == "find" || m == "lstrip"
def strE (R : Fns) (C : Cd) (sc : Scope) (o : Expr) (m : Str) (args : List Expr) (ρ : Env) (k : D → Env → Res) : Res :=
  ckK (isStrM m) (R.E C sc o ρ fun d ρ1 => oK (asS [d]) fun x => R.A C sc args ρ1 fun as ρ2 => resB as ρ2 fun ds => strM m x ds fun z => k z ρ2)
def methE (R : Fns) (C : Cd) (sc : Scope) (o : Expr) (m : Str) (args : List Expr) (ρ : Env) (k : D → Env → Res) : Res :=
  if m = "append" then (match o with
    | .Name x _ => (match slotOf C sc x with
      | some i => getK ρ i fun d => (match d with
        | .lst _ => appE R C sc m i args ρ k
        | _ => .stuck)
      | none => .stuck)
    | _ => .stuck)
  else strE R C sc o m args ρ k
/-- [elt for tg in ds if ..] -/
def lcC (step : D → Env → (Option D → Env → Res) → Res) : List D → List D → Env → (List D → Env → Res) → Res
  | [], acc, ρ, k => k acc ρ
  | d :: ds, acc, ρ, k => step d ρ fun o ρ1 => match o with
    | some y => ckK (decide (acc.length < szLine)) (lcC step ds (acc ++ [y]) ρ1 k)
    | none => lcC step ds acc ρ1 k
def forC (step : D → Env → Nx → Res) : List D → Env → Nx → Res
  | [], ρ, E => E.nx ρ
  | d :: ds, ρ, E => step d ρ { nx := fun ρ1 => forC step ds ρ1 E, bk := E.nx, ct := fun ρ1 => forC step ds ρ1 E, rt := E.rt }
def whileC (test : Env → (Bool → Env → Res) → Res) (body : Env → Nx → Res) : Nat → Env → Nx → Res
  | 0, _, _ => .stuck
  | n + 1, ρ, E => test ρ fun b ρ1 => match b with
    | true => body ρ1 { nx := fun ρ2 => whileC test body n ρ2 E, bk := E.nx, ct := fun ρ2 => whileC test body n ρ2 E, rt := E.rt }
    | false => E.nx ρ1
def rngL (lo : Int) (n : Nat) : List D := (List.range n).map fun (i : Nat) => .int (lo + (i : Int))
def smallI (i : Int) : Bool := decide (i.natAbs < 4611686018427387904)
/-- what a for, a comprehension walks: its items -/
def seqK (e : Expr) (d : D) (k : List D → Res) : Res := match d with
  | .tup ds => k ds
  | .rol ds => k ds
  | .lst ds => ckK (!isPath e) (pusK ds (k ds))
  | _ => .stuck
def rngE (R : Fns) (C : Cd) (sc : Scope) (args : List Expr) (ρ : Env) (k : List D → Env → Res) : Res := match args with
  | [a] => R.A C sc [a] ρ fun as ρ1 => resB as ρ1 fun ds => (match ds with
    | [.int hi] => ckK (smallI hi) (k (rngL 0 hi.toNat) ρ1)
    | _ => .stuck)
  | [a, b] => R.A C sc [a, b] ρ fun as ρ1 => resB as ρ1 fun ds => (match ds with
    | [.int lo, .int hi] => ckK (smallI lo && smallI hi) (k (rngL lo (hi - lo).toNat) ρ1)
    | _ => .stuck)
  | _ => .stuck
def rngF : Expr → Option (Str × List Expr)
  | .Call (.Name f _) args [] _ => some (f, args)
  | _ => none
def isSet : Expr → Bool
  | .Set _ _ _ => true
  | _ => false
def iterE (R : Fns) (C : Cd) (sc : Scope) (e : Expr) (ρ : Env) (k : List D → Env → Res) : Res :=
  ckK (!isSet e) (match rngF e with
  | some (f, args) => if f = "range" then ckK (isBi C sc f && noStar args) (rngE R C sc args ρ k) else R.E C sc e ρ fun d ρ1 => seqK e d fun ds => k ds ρ1
  | none => R.E C sc e ρ fun d ρ1 => seqK e d fun ds => k ds ρ1)
def ownOf (N : List Str) (scope : Scope) : List (Str × Nat) := scope.names.filterMap fun y => match y.2 with
  | .local => (ixOf N y.1).map fun i => (y.1, i)
  | .cell => (ixOf N y.1).map fun i => (y.1, i)
  | _ => none
def wipeE (ρ : Env) : List Nat → Env
  | [] => ρ
  | v :: vs => (wipeE ρ vs).set v none
def wipeB (ρ ρ0 : Env) : List Nat → Env
  | [] => ρ
  | v :: vs => wipeB (ρ.set v (ρ0[v]?.getD none)) ρ0 vs
/-- the slots that a comprehension's names hide hold nothing that is written -/
def hidOk (ρ : Env) : List Nat → Bool
  | [] => true
  | v :: vs => (match ρ[v]? with
    | some (some d) => d.pu
    | some none => true
    | none => false) && hidOk ρ vs
def ifsE (R : Fns) (C : Cd) (sc : Scope) (ifs : List Expr) (ρ : Env) (k : Bool → Env → Res) : Res := match ifs with
  | [] => k true ρ
  | [c] => R.T C sc c ρ k
  | _ => .stuck
def few {α : Type} : List α → Bool
  | [] => true
  | [_] => true
  | _ => false
/-- within a comprehension's block -/
def noCls : Glo → Glo
  | .cls _ => .no
  | g => g
def lcCd (C : Cd) (scope : Scope) : Cd := { C with own := fun x => locl scope x, xc := fun _ _ _ => .stuck, glo := fun x => noCls (C.glo x) }
def lcStep (R : Fns) (C : Cd) (sc : Scope) (elt tg : Expr) (ifs : List Expr) (scope : Scope) (d : D) (ρ2 : Env) (k2 : Option D → Env → Res) : Res :=
  R.G (lcCd C scope) (relS scope sc) tg d (wipeE ρ2 ((ownOf C.N scope).map (·.2))) fun ρ3 => ifsE R (lcCd C scope) (relS scope sc) ifs ρ3 fun b ρ4 => match b with
      | true => R.E (lcCd C scope) (relS scope sc) elt ρ4 fun y ρ5 => storK elt y (k2 (some y) ρ5)
      | false => k2 none ρ4
def lcE (R : Fns) (C : Cd) (sc : Scope) (elt tg it : Expr) (ifs : List Expr) (scope : Scope) (ρ : Env) (k : D → Env → Res) : Res :=
  ckK (blkC C.N sc scope (ownOf C.N scope) && few ifs && !isSet it) <|
  iterE R C sc it ρ fun ds ρ1 =>
    ckK (hidOk ρ1 ((ownOf C.N scope).map (·.2))) <|
    lcC (lcStep R C sc elt tg ifs scope) ds [] (wipeE ρ1 ((ownOf C.N scope).map (·.2))) fun acc ρ6 => k (.lst acc) (wipeB ρ6 ρ1 ((ownOf C.N scope).map (·.2)))

/-- membership: in a written dict -/
def kdOf (C : Cd) (sc : Scope) (b : Expr) : Option (List (Str × D)) := match b with
  | .Name y _ => (match slotOf C sc y with
    | none => (match globOf C sc y with
      | .kd kvs => some kvs
      | _ => none)
    | _ => none)
  | _ => none
def nIn : CmpOp → Bool
  | .In => false
  | .NotIn => false
  | _ => true
def cmpE (R : Fns) (C : Cd) (sc : Scope) (a : Expr) (op : CmpOp) (b : Expr) (ρ : Env) (k : Bool → Env → Res) : Res :=
  match op, kdOf C sc b with
  | .In, some kvs => R.E C sc a ρ fun x ρ1 => oK (asS [x]) fun s => k (kdGet kvs s).isSome ρ1
  | .NotIn, some kvs => R.E C sc a ρ fun x ρ1 => oK (asS [x]) fun s => k (!(kdGet kvs s).isSome) ρ1
  | op, _ => ckK (!behindInMarks op b) (R.E C sc a ρ fun x ρ1 => holdK a x b (R.E C sc b ρ1 fun y ρ2 => cmpD op x y fun c => k c ρ2))

/-- x op b, b a calculation: the name is looked up again -/
def addN (R : Fns) (C : Cd) (sc : Scope) (x : Str) (q : Pos) (op : Operator) (b : Expr) (ρ : Env) (k : D → Env → Res) : Res := match isCalm b with
  | true => R.E C sc (.Name x q) ρ fun d ρ1 => holdK (.Name x q) d b (R.E C sc b ρ1 fun y ρ2 => binD op d y fun z => k z ρ2)
  | false => (match slotOf C sc x with
    | some j => getK ρ j fun _ => R.E C sc b ρ fun y ρ1 => getK ρ1 j fun d => binD op d y fun z => k z ρ1
    | none => R.E C sc (.Name x q) ρ fun d ρ1 => holdK (.Name x q) d b (R.E C sc b ρ1 fun y ρ2 => binD op d y fun z => k z ρ2))
def stepE (R : Fns) (C : Cd) (sc : Scope) (e : Expr) (ρ : Env) (k : D → Env → Res) : Res :=
  match e with
  | .Name x _ => nameE C sc x ρ k
  | .Constant c _ _ => constE c fun d => k d ρ
  | .Tuple es _ _ => R.A C sc es ρ fun as ρ1 => ckK (decide (as.length ≤ 1000)) (resP as ρ1 fun ds => pusK ds (k (.tup ds) ρ1))
  | .List es _ => R.A C sc es ρ fun as ρ1 => ckK (decide (as.length ≤ 1000)) (resP as ρ1 fun ds => k (.lst ds) ρ1)
  | .BinOp (.Constant (.str x) _ _) .Add b _ => R.P C sc b ρ fun y ρ2 => binD .Add (.str x) y fun z => k z ρ2
  | .BinOp (.Name x q) op b _ => addN R C sc x q op b ρ k
  | .BinOp a op b _ => R.E C sc a ρ fun x ρ1 => holdK a x b (R.E C sc b ρ1 fun y ρ2 => binD op x y fun z => k z ρ2)
  | .UnaryOp .USub a _ => R.E C sc a ρ fun x ρ1 => dNeg x fun z => k z ρ1
  | .IfExp t a b _ => R.T C sc t ρ fun c ρ1 => match c with
    | true => R.E C sc a ρ1 k
    | false => R.E C sc b ρ1 k
  | .Dict ks vs _ => dctE ks vs fun d => k d ρ
  | .Compare a [op, op'] [b, c] _ => ckK (nIn op' && nIn op) <| R.E C sc a ρ fun x ρ1 => puK x (R.E C sc b ρ1 fun y ρ2 => puK y (cmpD op x y fun t => match t with
    | true => R.E C sc c ρ2 fun z ρ3 => cmpD op' y z fun u => k (.bl u) ρ3
    | false => k (.bl false) ρ2))
  | .Compare a [op] [b] _ => cmpE R C sc a op b ρ fun c ρ1 => k (.bl c) ρ1
  | .UnaryOp .Not a _ => R.E C sc a ρ fun x ρ1 => dTru x fun c => k (.bl (!c)) ρ1
  | .BoolOp .And [a] _ => R.E C sc a ρ k
  | .BoolOp .Or [a] _ => R.E C sc a ρ k
  | .BoolOp .And (a :: b :: r) p => R.E C sc a ρ fun x ρ1 => dTru x fun c => match c with
    | true => R.E C sc (.BoolOp .And (b :: r) p) ρ1 k
    | false => k x ρ1
  | .BoolOp .Or (a :: b :: r) p => R.E C sc a ρ fun x ρ1 => dTru x fun c => match c with
    | true => k x ρ1
    | false => R.E C sc (.BoolOp .Or (b :: r) p) ρ1 k
  | .Subscript b (.Slice lo hi none _) _ => R.E C sc b ρ fun d ρ1 => puK d (optE R C sc lo ρ1 fun l ρ2 => optE R C sc hi ρ2 fun h ρ3 => dSl d l h fun z => k z ρ3)
  | .Subscript _ (.Slice _ _ (some _) _) _ => .stuck
  | .Subscript (.Name x _) i _ => ixN1 R C sc x i ρ k
  | .Subscript (.Dict ks vs q) i _ => R.E C sc (.Dict ks vs q) ρ fun d ρ1 => (match d with
    | .dct ks ds => pusK ds (R.E C sc i ρ1 fun y ρ2 => oK (keyD y) fun key => oK (dctGet ks ds key) fun z => k z ρ2)
    | _ => .stuck)
  | .Subscript b i _ => R.E C sc b ρ fun d ρ1 => holdK b d i (R.E C sc i ρ1 fun y ρ2 => dIx d y fun z => k z ρ2)
  | .Call (.Name f _) args [] _ => ckK (noStar args) (match isFn C sc f with
    | some n => callE R C sc f n args ρ k
    | none => ckK (isBi C sc f) (if f = "isinstance" then isiE R C sc args ρ k
      else ckK (isB1 f) (argE R C sc args ρ fun as ρ1 => biE C f as ρ1 k)))
  | .Call (.Attribute o m ap) args [] p => (match getArgs o m args with
    | some ae => ckK ((ap.endLine == p.line) && noStar [ae.1, ae.2]) (get2E R C sc o ae.1 ae.2 ρ k)
    | none => ckK (opG o && (ap.endLine == p.line) && noStar args && !args.isEmpty && decide (args.length < 20)) (methE R C sc o m args ρ k))
  | .ListComp elt [⟨tg, it, ifs, 0⟩] scope _ => lcE R C sc elt tg it ifs scope ρ k
  | _ => .stuck

def stepT (R : Fns) (C : Cd) (sc : Scope) (e : Expr) (ρ : Env) (k : Bool → Env → Res) : Res :=
  match e with
  | .UnaryOp .Not a _ => R.T C sc a ρ fun b ρ1 => k (!b) ρ1
  | .BoolOp .And [a] _ => R.T C sc a ρ k
  | .BoolOp .Or [a] _ => R.T C sc a ρ k
  | .BoolOp .And (a :: b :: r) p => R.T C sc a ρ fun c ρ1 => match c with
    | true => R.T C sc (.BoolOp .And (b :: r) p) ρ1 k
    | false => k false ρ1
  | .BoolOp .Or (a :: b :: r) p => R.T C sc a ρ fun c ρ1 => match c with
    | true => k true ρ1
    | false => R.T C sc (.BoolOp .Or (b :: r) p) ρ1 k
  | .Compare a [op] [b] _ => cmpE R C sc a op b ρ k
  | .Compare a [op, op'] [b, c] _ => ckK (nIn op' && nIn op) <| R.E C sc a ρ fun x ρ1 => puK x (R.E C sc b ρ1 fun y ρ2 => puK y (cmpD op x y fun t => match t with
    | true => R.E C sc c ρ2 fun z ρ3 => cmpD op' y z fun u => k u ρ3
    | false => k false ρ2))
  | .Compare _ _ _ _ => .stuck
  | .IfExp _ _ _ _ => .stuck
  | .BoolOp _ _ _ => .stuck
  | e => R.E C sc e ρ fun d ρ1 => dTru d fun b => k b ρ1

def argRest (R : Fns) (C : Cd) (sc : Scope) (e : Expr) (r : List Expr) (k : List Arg → Env → Res) (d : D) (ρ1 : Env) : Res :=
  if isPath e then (match r with
    | [] => k [.bor d] ρ1
    | _ :: _ => puK d (R.A C sc r ρ1 fun as ρ2 => k (.own d :: as) ρ2))
  else R.A C sc r ρ1 fun as ρ2 => k (.own d :: as) ρ2
def stepA (R : Fns) (C : Cd) (sc : Scope) (es : List Expr) (ρ : Env) (k : List Arg → Env → Res) : Res :=
  match es with
  | [] => k [] ρ
  | .Starred _ _ :: _ => .stuck
  | .Name x p :: r => (match slotOf C sc x with
    | some i => getK ρ i fun _ => R.A C sc r ρ fun as ρ1 => k (.nm i :: as) ρ1
    | none => R.E C sc (.Name x p) ρ fun d ρ1 => puK d (R.A C sc r ρ1 fun as ρ2 => k (.own d :: as) ρ2))
  | e :: r => R.E C sc e ρ fun d ρ1 => argRest R C sc e r k d ρ1

/-- an expression behind a written text: there replace(lit, lit) may stand -/
def stepP (R : Fns) (C : Cd) (sc : Scope) (e : Expr) (ρ : Env) (k : D → Env → Res) : Res :=
  match e with
  | .Call (.Attribute o m ap) [.Constant (.str y) _ _, .Constant (.str z) _ _] [] p =>
    if m = "replace" then ckK (opG o && (ap.endLine == p.line) && !(y == z)) (R.P C sc o ρ fun d ρ1 => oK (asS [d]) fun x => ckK (decide (x.length + (x.length + 1) * z.length ≤ szLine)) (k (.str (Txt.replace x y z)) ρ1))
    else R.E C sc e ρ k
  | e => R.E C sc e ρ k

def consK (l : List D) (k : D → List D → Res) : Res := match l with
  | a :: r => k a r
  | _ => .stuck
def nilK (l : List D) (r : Res) : Res := match l with
  | [] => r
  | _ => .stuck
def tgsE (R : Fns) (C : Cd) (sc : Scope) : List Expr → List D → Env → (Env → Res) → Res
  | [], ds, ρ, k => nilK ds (k ρ)
  | e :: es, ds, ρ, k => consK ds fun d r => R.G C sc e d ρ fun ρ1 => tgsE R C sc es r ρ1 k
/-- a target takes a value -/
def stepG (R : Fns) (C : Cd) (sc : Scope) (tg : Expr) (d : D) (ρ : Env) (k : Env → Res) : Res :=
  match tg with
  | .Name x _ => (match slotOf C sc x with
    | some i => ckK (C.own x && locl sc x) (setK C i d ρ k)
    | none => .stuck)
  | .Tuple es _ _ => ckK (noStar es) (match d with
    | .tup ds => ckK (decide (ds.length = es.length)) (tgsE R C sc es ds ρ k)
    | .lst ds => ckK (decide (ds.length = es.length)) (pusK ds (tgsE R C sc es ds ρ k))
    | _ => .stuck)
  | _ => .stuck

def isLc : Expr → Bool
  | .ListComp _ _ _ _ => true
  | .SetComp _ _ _ _ => true
  | .DictComp _ _ _ _ _ => true
  | _ => false
def isSl : Expr → Bool
  | .Slice _ _ _ _ => true
  | _ => false
def asI : D → Option Int
  | .int i => some i
  | _ => none
def isAS : Operator → Bool
  | .Add => true
  | .Sub => true
  | _ => false
/-- d op= y, ints and texts -/
def augD (op : Operator) (d y : D) (k : D → Res) : Res := match op, d, y with
  | .Add, .int a, .int b => k (.int (a + b))
  | .Add, .str a, .str b => ckK (decide (a.length + b.length ≤ szLine)) (k (.str (a ++ b)))
  | .Sub, .int a, .int b => k (.int (a - b))
  | _, _, _ => .stuck
def isTup : Expr → Bool
  | .Tuple _ _ _ => true
  | _ => false
def lcOf : Expr → Option (Expr × Expr × Expr × List Expr × Scope)
  | .ListComp elt [⟨tg, it, ifs, 0⟩] scope _ => some (elt, tg, it, ifs, scope)
  | _ => none
def stepS1 (R : Fns) (C : Cd) (sc : Scope) (st : Stmt) (ρ : Env) (E : Nx) : Res :=
  match st with
  | .Pass _ => E.nx ρ
  | .Break _ => E.bk ρ
  | .Continue _ => E.ct ρ
  | .Expr e _ => ckK (!isLc e) (R.E C sc e ρ fun _ ρ1 => E.nx ρ1)
  | .Return none _ => E.rt .non ρ
  | .Return (some e) _ => (match e with
    | .Name x _ => (match slotOf C sc x with
      | some i => getK ρ i fun d => (match d.pu with
        | true => E.rt d ρ
        | false => ckK (decide (C.np ≤ i)) (E.rt d (ρ.set i none)))
      | none => R.E C sc e ρ fun d ρ1 => puK d (E.rt d ρ1))
    | e => R.E C sc e ρ fun d ρ1 => storK e d (E.rt d ρ1))
  | .Assign [tg] e _ => (match tg with
    | .Name x _ => (match slotOf C sc x with
      | some i => ckK (C.own x && locl sc x) (match isLc e with
        | true => (match lcOf e with
          | some (elt, tg', it, ifs, scope) => lcE R C sc elt tg' it ifs scope ρ fun d ρ1 => setK C i d ρ1 E.nx
          | none => .stuck)
        | false => R.E C sc e ρ fun d ρ1 => storK e d (setK C i d ρ1 E.nx))
      | none => .stuck)
    | .Tuple es n tp => ckK (!isLc e && !isTup e) (R.E C sc e ρ fun d ρ1 => ckK (!isPath e || d.pu) (R.G C sc (.Tuple es n tp) d ρ1 E.nx))
    | .Subscript (.Name x _) i _ => ckK (!isLc e && !isSl i) (match slotOf C sc x with
      | some j => R.E C sc e ρ fun d ρ1 => puK d (getK ρ1 j fun _ => R.E C sc i ρ1 fun y ρ2 => oK (asI y) fun n => getK ρ2 j fun c => (match c with
          | .lst ds => oK (ixN ds.length n) fun m => E.nx (ρ2.set j (some (.lst (ds.set m d))))
          | _ => .stuck))
      | none => .stuck)
    | _ => .stuck)
  | .AugAssign (.Name x _) op e _ => (match slotOf C sc x with
    | some i => ckK (C.own x && locl sc x && isAS op) (getK ρ i fun d => puK d (R.E C sc e ρ fun y ρ1 => augD op d y fun z => setK C i z ρ1 E.nx))
    | none => .stuck)
  | .If c a b _ => R.T C sc c ρ fun t ρ1 => match t with
    | true => R.S C sc a ρ1 E
    | false => R.S C sc b ρ1 E
  | .For tg it body [] _ => ckK (!isSet it) (iterE R C sc it ρ fun ds ρ1 =>
      forC (fun d ρ2 E2 => R.G C sc tg d ρ2 fun ρ3 => R.S C sc body ρ3 E2) ds ρ1 E)
  | .Raise e ca _ => oK (raiseOf e ca) fun t => (match globOf C sc t.1 with
    | .cls ps => ckK (noStar (t.2.1 :: t.2.2)) (R.A C sc (t.2.1 :: t.2.2) ρ fun as ρ1 => resP as ρ1 fun ds => pusK ds (ckK (decide (ds.length = ps.length) && decide (ps.length ≤ 100)) (C.xc t.1 (ps.zip ds) ρ1)))
    | _ => .stuck)
  | .While c body [] _ => whileC (fun ρ1 k => R.T C sc c ρ1 k) (fun ρ1 E2 => R.S C sc body ρ1 E2) C.wf ρ E
  | _ => .stuck
def stepS (R : Fns) (C : Cd) (sc : Scope) (ss : List Stmt) (ρ : Env) (E : Nx) : Res :=
  match ss with
  | [] => E.nx ρ
  | st :: r => stepS1 R C sc st ρ { E with nx := fun ρ1 => R.S C sc r ρ1 E }

def step (R : Fns) : Fns := ⟨stepE R, stepT R, stepA R, stepP R, stepG R, stepS R⟩
def ev : Nat → Fns
  | 0 => dead
  | n + 1 => step (ev n)

/-- a def of the text -/
structure Df where
  N : List Str
  np : Nat
  sc : Scope
  body : List Stmt
def cdOf (glo : Str → Glo) (call : Str → List D → Res) (lim wf : Nat) (d : Df) : Cd := { N := d.N, np := d.np, glo := glo, call := call, wf := wf, own := fun _ => true, xc := fun c fs _ => .exc c fs, lim := lim }
def nx0 (np : Nat) : Nx := { nx := fun ρ => .ret .non (finOf np ρ), bk := fun _ => .stuck, ct := fun _ => .stuck, rt := fun d' ρ => .ret d' (finOf np ρ) }
def env0 (d : Df) (ds : List D) : Env := ds.map some ++ List.replicate (d.N.length - ds.length) none
def runD (glo : Str → Glo) (call : Str → List D → Res) (lim wf m : Nat) (d : Df) (ds : List D) : Res :=
  (ev m).S (cdOf glo call lim wf d) d.sc d.body (env0 d ds) (nx0 d.np)
/-- what the names of the text are -/
structure Tab where
  fns : List (Str × Df)
  exts : List (Str × Nat × (List D → Res))
  cons : List (Str × Glo)
  bis : List Str
  lim : Nat
def Tab.glo (T : Tab) (x : Str) : Glo := match T.fns.lookup x with
  | some d => .fn d.np
  | none => match T.exts.lookup x with
    | some g => .fn g.1
    | none => match T.cons.lookup x with
      | some (.con d) => .con d
      | some (.kd kvs) => .kd kvs
      | some (.cls ps) => .cls ps
      | _ => match T.bis.contains x with
        | true => .bi
        | false => .no
def Tab.call (T : Tab) (wf m : Nat) : Nat → Str → List D → Res
  | 0, _, _ => .stuck
  | n + 1, f, ds => match T.fns.lookup f with
    | some d => runD T.glo (T.call wf m n) T.lim wf m d ds
    | none => match T.exts.lookup f with
      | some g => g.2 ds
      | none => .stuck
end TI
set_option Elab.async false
set_option linter.all false
set_option maxRecDepth 100000
set_option maxHeartbeats 4000000
/-! the operators by values -/
namespace TI
open PySem PySem.Spec PyProof.Rows L2

theorem ckK_of {G : Res → Prop} (hG : ¬ G .stuck) {b : Bool} {r : Res} (h : G (ckK b r)) : b = true ∧ G r := by
  cases b with
  | true => exact ⟨rfl, h⟩
  | false => exact absurd h hG
theorem puK_of {G : Res → Prop} (hG : ¬ G .stuck) {d : D} {r : Res} (h : G (puK d r)) : d.pu = true ∧ G r := by
  unfold puK at h
  cases e : d.pu with
  | true => rw [e] at h; exact ⟨rfl, h⟩
  | false => rw [e] at h; exact absurd h hG
theorem pusK_of {G : Res → Prop} (hG : ¬ G .stuck) {d : List D} {r : Res} (h : G (pusK d r)) : D.pus d = true ∧ G r := by
  unfold pusK at h
  cases e : D.pus d with
  | true => rw [e] at h; exact ⟨rfl, h⟩
  | false => rw [e] at h; exact absurd h hG
theorem oK_of {α : Type} {G : Res → Prop} (hG : ¬ G .stuck) {o : Option α} {k : α → Res} (h : G (oK o k)) : ∃ a, o = some a ∧ G (k a) := by
  cases o with
  | none => exact absurd h hG
  | some a => exact ⟨a, rfl, h⟩
theorem getK_of {G : Res → Prop} (hG : ¬ G .stuck) {ρ : Env} {i : Nat} {k : D → Res} (h : G (getK ρ i k)) : ∃ d, ρ[i]? = some (some d) ∧ G (k d) := by
  unfold getK at h
  cases e : ρ[i]? with
  | none => rw [e] at h; exact absurd h hG
  | some o =>
    cases o with
    | none => rw [e] at h; exact absurd h hG
    | some d => rw [e] at h; exact ⟨d, rfl, h⟩
theorem pus_append : ∀ {xs ys : List D}, D.pus xs = true → D.pus ys = true → D.pus (xs ++ ys) = true
  | [], ys, _, h => h
  | d :: xs, ys, h1, h2 => by
    rw [D.pus, Bool.and_eq_true] at h1
    rw [List.cons_append, D.pus, h1.1, pus_append h1.2 h2]
    rfl
theorem pus_take : ∀ {xs : List D} (n : Nat), D.pus xs = true → D.pus (xs.take n) = true
  | xs, 0, _ => by rw [List.take_zero]; rfl
  | [], n + 1, h => by rw [List.take_nil]; rfl
  | d :: xs, n + 1, h => by
    rw [D.pus, Bool.and_eq_true] at h
    rw [List.take_succ_cons, D.pus, h.1, pus_take n h.2]
    rfl
theorem pus_drop : ∀ {xs : List D} (n : Nat), D.pus xs = true → D.pus (xs.drop n) = true
  | xs, 0, h => h
  | [], n + 1, h => by rw [List.drop_nil]; rfl
  | d :: xs, n + 1, h => by
    rw [D.pus, Bool.and_eq_true] at h
    exact pus_drop n h.2
theorem pus_get : ∀ {xs : List D} {i : Nat} {d : D}, D.pus xs = true → xs[i]? = some d → d.pu = true
  | [], i, d, _, h => by simp at h
  | x :: xs, 0, d, h, e => by
    rw [D.pus, Bool.and_eq_true] at h
    simp at e; subst e; exact h.1
  | x :: xs, i + 1, d, h, e => by
    rw [D.pus, Bool.and_eq_true] at h
    exact pus_get h.2 (by simpa using e)
theorem szLine_eq : szLine = sizeLine := by rw [sizeLine_eq]; rfl

/-- what an operation on values hands on -/
def VRes (G : Res → Prop) (K : PySem.W.Frag) (k : D → Res) (H : Hp) (Q : VK) : Prop :=
  ∀ d v H' Fv, Keep F0 H H' → Fr F0 H Fv → Rp K H' d v Fv → G (k d) → Q v H'
theorem VRes.here {G : Res → Prop} {K : PySem.W.Frag} {k : D → Res} {H : Hp} {Q : VK} (h : VRes G K k H Q) {d : D} {v : V} (r : Rp K H d v F0) (g : G (k d)) : Q v H :=
  h d v H F0 (Keep.refl _ _) (Fr.refl _ _) r g
theorem VRes.new {G : Res → Prop} {K : PySem.W.Frag} {k : D → Res} {H : Hp} {Q : VK} (h : VRes G K k H Q) {d : D} {p : Addr} {o : HO} (hp : H p = none) (r : Rp K (upd H p o) d (.ref p) (fun a => a = p)) (g : G (k d)) : Q (.ref p) (upd H p o) :=
  h d _ _ (fun a => a = p) (Keep.new hp) (fun a q => .inr (by rw [q]; exact hp)) r g

section
variable {X : Cx} {G : Res → Prop}
theorem keep_new {H : Hp} {p : Addr} {o : HO} (hp : H p = none) : Keep F0 H (upd H p o) := Keep.new hp
theorem Rps.cut {K : PySem.W.Frag} {H : Hp} {ds : List D} {vs : List V} {F : Fp} (lo hi : Option Int) (h : Rps K H ds vs F) : Rps K H (cutL ds lo hi) (cutV vs lo hi) F := by
  unfold cutL cutV
  rw [Rps.length ds vs F h]
  exact Rps.take _ _ _ _ (Rps.drop _ _ _ _ h)
theorem Rp.lst_new {K : PySem.W.Frag} {H : Hp} {ds : List D} {vs : List V} {p : Addr} (hp : H p = none) (pu : D.pus ds = true) {F : Fp} (h : Rps K H ds vs F) : Rp K (upd H p (.lst vs)) (.lst ds) (.ref p) (fun a => a = p) := by
  have h0 := Rps.stay (B := F0) (keep_new (o := .lst vs) hp) ds vs F0 (fun _ q => q.elim) (Rps.pure _ _ _ pu h)
  exact ⟨p, vs, rfl, upd_same, rfl, Rps.mono _ _ _ _ (fun _ q => q.elim) h0⟩
theorem Rp.tup_new {K : PySem.W.Frag} {H : Hp} {ds : List D} {vs : List V} {p : Addr} (hp : H p = none) (pu : D.pus ds = true) {F : Fp} (h : Rps K H ds vs F) : Rp K (upd H p (.tup vs)) (.tup ds) (.ref p) (fun a => a = p) := by
  have h0 := Rps.stay (B := F0) (keep_new (o := .tup vs) hp) ds vs F0 (fun _ q => q.elim) (Rps.pure _ _ _ pu h)
  exact ⟨p, vs, rfl, SqT.of upd_same, pu, Rps.mono _ _ _ _ (fun _ q => q.elim) h0⟩

def rBinD (G : Res → Prop) (K : PySem.W.Frag) (op : Operator) : R2 := fun x y H Q => ∃ dx dy Fx Fy k, Rp K H dx x Fx ∧ Rp K H dy y Fy ∧ G (binD op dx dy k) ∧ VRes G K k H Q
theorem mulOk_c {i j : Int} (h : mulOk i j = true) : CMul i j ∨ CMulW i j := by
  unfold mulOk at h
  rw [Bool.or_eq_true, Bool.or_eq_true] at h
  rcases h with (h | h) | h
  · have := of_decide_eq_true h
    exact .inl (.inl ⟨by omega, by omega⟩)
  · have := of_decide_eq_true h
    exact .inl (.inr ⟨by omega, by omega⟩)
  · exact .inr (show _ < _ from of_decide_eq_true h)
theorem divOk_c {j : Int} (h : divOk j = true) : CDivN 0 j ∨ CDivW 0 j := by
  unfold divOk at h
  rw [Bool.or_eq_true, Bool.and_eq_true, Bool.and_eq_true] at h
  rcases h with ⟨a, b⟩ | ⟨a, b⟩
  · exact .inl ⟨of_decide_eq_true a, of_decide_eq_true b⟩
  · exact .inr ⟨of_decide_eq_true a, of_decide_eq_true b⟩
theorem foldl_app : ∀ (l : List (Array Nat)) (b : Array Nat), (l.foldl (· ++ ·) b).toList = b.toList ++ (l.map (·.toList)).flatten
  | [], b => by simp
  | a :: l, b => by rw [List.foldl_cons, foldl_app l]; simp
theorem repS_fold (x : PySem.Str) (n : Nat) : (⟨(List.replicate n x.cps).foldl (· ++ ·) #[]⟩ : PySem.Str) = repS x n := by
  unfold repS
  congr 1
  apply Array.ext'
  rw [foldl_app]
  simp
theorem repS_len (x : PySem.Str) (n : Nat) : (repS x n).length = x.length * n := by
  have e : x.cps.toList.length = x.length := Array.length_toList
  show ((List.replicate n x.cps.toList).flatten.toArray).size = _
  rw [List.size_toArray, List.length_flatten, List.map_replicate, List.sum_replicate_nat, e, Nat.mul_comm]
theorem op_mulS : OpR X (binaryOp .Mult) (fun x y H Q => ∃ (a : PySem.Str) (j : Int), x = .str a ∧ y = .int j ∧ j.natAbs ≤ 100000 ∧ a.length * j.toNat ≤ szLine ∧ Q (.str (repS a j.toNat)) H) := by
  intro pins s σ H x y v u Q I rx ry h
  obtain ⟨a, j, rfl, rfl, h1, h2, q⟩ := h
  obtain ⟨t, rfl⟩ := rx
  obtain ⟨t2, rfl⟩ := ry
  have hz : szLine = 16777216 := rfl
  refine PySem.P.mul_str (by
      have a1 : ¬ j < -(2 ^ 63 : Int) := by omega
      have a2 : ¬ j ≥ 2 ^ 63 := by omega
      rw [decide_eq_false a1, decide_eq_false a2]; rfl) (fun h3 _ hc => ?_) (fun h3 _ => ?_) ?_
  · have hj : j = (j.toNat : Int) := by omega
    have hm : (a.length : Int) * j ≤ 16777216 := by
      rw [hj]
      rw [← Int.natCast_mul]
      exact Int.ofNat_le.mpr h2
    have h0 : (0 : Int) < j := by omega
    have h4 : (2 ^ 63 - 1 : Int) / j < (a.length : Int) := hc
    have h5 := Int.lt_mul_of_ediv_lt h0 h4
    omega
  · unfold Builtin.Str.tooLong
    have : sizeLine = 16777216 := sizeLine_eq
    simp only [decide_eq_false_iff_not]
    omega
  · by_cases h3 : j < 1
    · rw [if_pos h3]
      have e : repS a j.toNat = PySem.Str.empty := by
        have : j.toNat = 0 := by omega
        rw [this]; rfl
      rw [e] at q
      exact ⟨by show _ ≤ _; decide, .str _, H, I.tok _, ⟨_, rfl⟩, q⟩
    · rw [if_neg h3]
      by_cases h4 : (j == 1 || a.length == 0) = true
      · rw [if_pos h4]
        have e : repS a j.toNat = a := by
          rw [Bool.or_eq_true] at h4
          rcases h4 with h4 | h4
          · have : j.toNat = 1 := by have := eq_of_beq h4; omega
            rw [this]
            unfold repS
            simp
          · have hl : a.cps.toList = [] := by
              have : a.cps.toList.length = 0 := by rw [Array.length_toList]; exact eq_of_beq h4
              exact List.length_eq_zero_iff.mp this
            unfold repS
            rw [hl]
            have : a.cps = #[] := by apply Array.ext'; rw [hl]
            obtain ⟨c⟩ := a
            dsimp only at this
            subst this
            simp
        rw [e] at q
        exact ⟨.str _, H, I, ⟨_, rfl⟩, q⟩
      · rw [if_neg h4, repS_fold]
        exact ⟨by show (repS a j.toNat).length ≤ _; rw [repS_len]; rw [sizeLine_eq]; omega, .str _, H, I.tok _, ⟨_, rfl⟩, q⟩
theorem op_binD (hG : ¬ G .stuck) (op : Operator) : OpR X (binaryOp op) (rBinD G X.K op) := by
  intro pins s σ H x y v u Q I rx ry h
  obtain ⟨dx, dy, Fx, Fy, k, hx, hy, g, q⟩ := h
  cases op with
  | Add =>
    cases dx with
    | int i =>
      cases dy with
      | int j =>
        cases (show x = .int i from hx); cases (show y = .int j from hy)
        exact op_add pins s σ H _ _ v u Q I rx ry ⟨i, j, rfl, rfl, q.here (d := .int (i + j)) rfl g⟩
      | _ => exact absurd g hG
    | str a =>
      cases dy with
      | str b =>
        cases (show x = .str a from hx); cases (show y = .str b from hy)
        obtain ⟨hb, g⟩ := ckK_of hG g
        exact op_add_str pins s σ H _ _ v u Q I rx ry ⟨a, b, rfl, rfl, by rw [← szLine_eq]; exact of_decide_eq_true hb, q.here (d := .str (a ++ b)) rfl g⟩
      | _ => exact absurd g hG
    | tup xs =>
      cases dy with
      | tup ys =>
        obtain ⟨p, vs, rfl, hp, pu1, rv⟩ := hx
        obtain ⟨p2, vs2, rfl, hp2, pu2, rv2⟩ := hy
        obtain ⟨hb, g⟩ := ckK_of hG g
        have hl : vs.length + vs2.length ≤ sizeLine := by rw [Rps.length _ _ _ rv, Rps.length _ _ _ rv2, ← szLine_eq]; exact of_decide_eq_true hb
        have r12 : Rps X.K H (xs ++ ys) (vs ++ vs2) F0 := Rps.mono _ _ _ _ (fun a z => z.elim id id) (Rps.append _ _ _ _ _ _ (Rps.pure _ _ _ pu1 rv) (Rps.pure _ _ _ pu2 rv2) fun _ z => z.elim)
        have pu12 : D.pus (xs ++ ys) = true := pus_append pu1 pu2
        refine op_catA pins s σ H _ _ v u Q I rx ry ⟨p, p2, vs, vs2, rfl, rfl, hp, hp2, hl, ?_⟩
        refine ⟨fun e => ?_, fun e1 e2 => ?_, fun e1 e2 z hz => ?_⟩
        · have ex : xs = [] := by
            have := Rps.length _ _ _ rv
            rw [e] at this
            exact List.length_eq_zero_iff.mp this.symm
          subst ex
          exact q.here (d := .tup ([] ++ ys)) ⟨p2, vs2, rfl, hp2, pu2, Rps.pure _ _ _ pu2 rv2⟩ g
        · have ey : ys = [] := by
            have := Rps.length _ _ _ rv2
            rw [e2] at this
            exact List.length_eq_zero_iff.mp this.symm
          subst ey
          exact q.here (d := .tup (xs ++ [])) ⟨p, vs, rfl, hp, by rw [List.append_nil]; exact pu1, by rw [List.append_nil]; exact Rps.pure _ _ _ pu1 rv⟩ g
        · exact q.new (d := .tup (xs ++ ys)) hz (Rp.tup_new hz pu12 r12) g
      | _ => exact absurd g hG
    | lst xs =>
      cases dy with
      | lst ys =>
        obtain ⟨p, vs, rfl, hp, _, rv⟩ := hx
        obtain ⟨p2, vs2, rfl, hp2, _, rv2⟩ := hy
        obtain ⟨hb, g⟩ := ckK_of hG g
        obtain ⟨pu1, g⟩ := pusK_of hG g
        obtain ⟨pu2, g⟩ := pusK_of hG g
        have hl : vs.length + vs2.length ≤ sizeLine := by rw [Rps.length _ _ _ rv, Rps.length _ _ _ rv2, ← szLine_eq]; exact of_decide_eq_true hb
        have r12 : Rps X.K H (xs ++ ys) (vs ++ vs2) F0 := Rps.mono _ _ _ _ (fun a z => z.elim id id) (Rps.append _ _ _ _ _ _ (Rps.pure _ _ _ pu1 rv) (Rps.pure _ _ _ pu2 rv2) fun _ z => z.elim)
        have pu12 : D.pus (xs ++ ys) = true := pus_append pu1 pu2
        exact op_cat pins s σ H _ _ v u Q I rx ry ⟨p, p2, vs, vs2, rfl, rfl, hp, hp2, hl, fun z hz => q.new (d := .lst (xs ++ ys)) hz (Rp.lst_new hz pu12 r12) g⟩
      | _ => exact absurd g hG
    | _ => cases dy <;> exact absurd g hG
  | Sub =>
    cases dx with
    | int i =>
      cases dy with
      | int j =>
        cases (show x = .int i from hx); cases (show y = .int j from hy)
        exact op_sub pins s σ H _ _ v u Q I rx ry ⟨i, j, rfl, rfl, q.here (d := .int (i - j)) rfl g⟩
      | _ => exact absurd g hG
    | _ => cases dy <;> exact absurd g hG
  | Mult =>
    cases dx with
    | int i =>
      cases dy with
      | int j =>
        cases (show x = .int i from hx); cases (show y = .int j from hy)
        obtain ⟨hb, g⟩ := ckK_of hG g
        rcases mulOk_c hb with hc | hc
        · exact op_mul pins s σ H _ _ v u Q I rx ry ⟨i, j, rfl, rfl, hc, q.here (d := .int (i * j)) rfl g⟩
        · exact op_mulW pins s σ H _ _ v u Q I rx ry ⟨i, j, rfl, rfl, hc, q.here (d := .int (i * j)) rfl g⟩
      | _ => exact absurd g hG
    | str a =>
      cases dy with
      | int j =>
        cases (show x = .str a from hx); cases (show y = .int j from hy)
        obtain ⟨hb, g⟩ := ckK_of hG g
        rw [Bool.and_eq_true] at hb
        exact op_mulS pins s σ H _ _ v u Q I rx ry ⟨a, j, rfl, rfl, of_decide_eq_true hb.1, of_decide_eq_true hb.2, q.here (d := .str (repS a j.toNat)) rfl g⟩
      | _ => exact absurd g hG
    | _ => cases dy <;> exact absurd g hG
  | FloorDiv =>
    cases dx with
    | int i =>
      cases dy with
      | int j =>
        cases (show x = .int i from hx); cases (show y = .int j from hy)
        obtain ⟨hb, g⟩ := ckK_of hG g
        rcases divOk_c hb with hc | hc
        · exact op_fdivN pins s σ H _ _ v u Q I rx ry ⟨i, j, rfl, rfl, hc, q.here (d := .int (i.fdiv j)) rfl g⟩
        · have e : i.fdiv j = i / j := Int.fdiv_eq_ediv_of_nonneg _ (by have := hc.1; omega)
          rw [e] at g
          exact op_fdivW pins s σ H _ _ v u Q I rx ry ⟨i, j, rfl, rfl, hc, q.here (d := .int (i / j)) rfl g⟩
      | _ => exact absurd g hG
    | _ => cases dy <;> exact absurd g hG
  | Mod =>
    cases dx with
    | int i =>
      cases dy with
      | int j =>
        cases (show x = .int i from hx); cases (show y = .int j from hy)
        obtain ⟨hb, g⟩ := ckK_of hG g
        exact op_modN pins s σ H _ _ v u Q I rx ry ⟨i, j, rfl, rfl, of_decide_eq_true hb, q.here (d := .int (i.fmod j)) rfl g⟩
      | _ => exact absurd g hG
    | _ => cases dy <;> exact absurd g hG
  | Pow =>
    cases dx with
    | int i =>
      cases dy with
      | int j =>
        cases (show x = .int i from hx); cases (show y = .int j from hy)
        obtain ⟨hb, g⟩ := ckK_of hG g
        rw [Bool.and_eq_true, Bool.and_eq_true] at hb
        exact op_pow pins s σ H _ _ v u Q I rx ry ⟨i, j, rfl, rfl, ⟨of_decide_eq_true hb.1.1, of_decide_eq_true hb.1.2, of_decide_eq_true hb.2⟩, q.here (d := .int (i ^ j.toNat)) rfl g⟩
      | _ => exact absurd g hG
    | _ => cases dy <;> exact absurd g hG
  | _ => exact absurd g hG

/-! ### comparisons -/
mutual
theorem dp_of {K : PySem.W.Frag} {H : Hp} : ∀ (d : D) (v : V) (F : Fp), Rp K H d v F → pyOk d = true → Dp K H v (toPy d)
  | .non, v, F, h, _ => by cases (show v = .non from h); exact .non
  | .bl b, v, F, h, _ => by cases (show v = .bl b from h); exact .bl b
  | .int i, v, F, h, _ => by cases (show v = .int i from h); exact .int i
  | .str x, v, F, h, _ => by cases (show v = .str x from h); exact .str x
  | .ty n, v, F, h, p => by cases p
  | .fnv n, v, F, h, p => by cases p
  | .dct ks n, v, F, h, p => by cases p
  | .tup ds, v, F, h, p => by
    obtain ⟨a, vs, rfl, q, _, r⟩ := h
    exact .tup q (dps_of ds vs F r p)
  | .rol ds, v, F, h, p => by
    obtain ⟨a, vs, rfl, q, _, r⟩ := h
    exact .lst q.sq (dps_of ds vs F r p)
  | .lst ds, v, F, h, p => by
    obtain ⟨a, vs, rfl, q, _, r⟩ := h
    exact .lst (.inl (.inl q)) (dps_of ds vs _ r p)
  | .lck ds, v, F, h, p => by
    obtain ⟨a, vs, rfl, q, _, r⟩ := h
    exact .lst (.inl (.inl q)) (dps_of ds vs _ r p)
theorem dps_of {K : PySem.W.Frag} {H : Hp} : ∀ (ds : List D) (vs : List V) (F : Fp), Rps K H ds vs F → pyOks ds = true → DpAll K H vs (toPys ds)
  | [], vs, F, h, _ => by cases (show vs = [] from h); exact .nil
  | d :: ds, vs, F, h, p => by
    obtain ⟨v, ws, G1, G2, rfl, h1, h2, _⟩ := h
    rw [pyOks, Bool.and_eq_true] at p
    exact .cons (dp_of d v G1 h1 p.1) (dps_of ds ws G2 h2 p.2)
end
def rCmpD (G : Res → Prop) (K : PySem.W.Frag) (op : CmpOp) : R2 := fun x y H Q => ∃ dx dy Fx Fy k, Rp K H dx x Fx ∧ Rp K H dy y Fy ∧ G (cmpD op dx dy k) ∧ ∀ b, G (k b) → Q (.bl b) H
theorem op_isBlAny (neg : Bool) : OpR X (compareOp (if neg then .IsNot else .Is)) (fun x y H Q => ∃ b, y = .bl b ∧ Q (.bl (if neg then !decide (x = .bl b) else decide (x = .bl b))) H) := by
  intro pins s σ H x y v u Q I rx ry h
  obtain ⟨b, rfl, q⟩ := h
  cases (show u = Value.bool b from ry)
  cases neg with
  | false =>
    cases x with
    | bl c => exact op_isBl pins s σ H (.bl c) (.bl b) v (.bool b) Q I rx rfl ⟨c, b, rfl, rfl, by simpa using q⟩
    | non => cases (show v = Value.none from rx); exact wpAny_pure ⟨.bl false, H, I, rfl, by simpa using q⟩
    | int i => obtain ⟨t, rfl⟩ := rx; exact wpAny_pure ⟨.bl false, H, I, rfl, by simpa using q⟩
    | str i => obtain ⟨t, rfl⟩ := rx; exact wpAny_pure ⟨.bl false, H, I, rfl, by simpa using q⟩
    | byt i => obtain ⟨t, rfl⟩ := rx; exact wpAny_pure ⟨.bl false, H, I, rfl, by simpa using q⟩
    | flt i => obtain ⟨t, rfl⟩ := rx; exact wpAny_pure ⟨.bl false, H, I, rfl, by simpa using q⟩
    | ref a => cases (show v = Value.ref a from rx); exact wpAny_pure ⟨.bl false, H, I, rfl, by simpa using q⟩
    | ty n => cases (show v = Value.type n from rx); exact wpAny_pure ⟨.bl false, H, I, rfl, by simpa using q⟩
  | true =>
    cases x with
    | bl c => exact op_notBl pins s σ H (.bl c) (.bl b) v (.bool b) Q I rx rfl ⟨c, b, rfl, rfl, by simpa using q⟩
    | non => cases (show v = Value.none from rx); exact wpAny_pure ⟨.bl true, H, I, rfl, by simpa using q⟩
    | int i => obtain ⟨t, rfl⟩ := rx; exact wpAny_pure ⟨.bl true, H, I, rfl, by simpa using q⟩
    | str i => obtain ⟨t, rfl⟩ := rx; exact wpAny_pure ⟨.bl true, H, I, rfl, by simpa using q⟩
    | byt i => obtain ⟨t, rfl⟩ := rx; exact wpAny_pure ⟨.bl true, H, I, rfl, by simpa using q⟩
    | flt i => obtain ⟨t, rfl⟩ := rx; exact wpAny_pure ⟨.bl true, H, I, rfl, by simpa using q⟩
    | ref a => cases (show v = Value.ref a from rx); exact wpAny_pure ⟨.bl true, H, I, rfl, by simpa using q⟩
    | ty n => cases (show v = Value.type n from rx); exact wpAny_pure ⟨.bl true, H, I, rfl, by simpa using q⟩

theorem rp_non {K : PySem.W.Frag} {H : Hp} {v : V} {F : Fp} (h : Rp K H .non v F) : v = .non := h
theorem flat_v {K : PySem.W.Frag} {H : Hp} {d : D} {v : V} {F : Fp} (h : Rp K H d v F) (p : flatD d = true) : flatV v = true ∧ ∀ {e : D} {w : V} {F' : Fp}, Rp K H e w F' → flatD e = true → eqV w v = PyData.eqv (toPy e) (toPy d) := by
  cases d <;> first
    | exact Bool.noConfusion (show false = true from p)
    | (cases (show v = _ from h)
       refine ⟨rfl, fun {e w F'} h2 p2 => ?_⟩
       cases e <;> first
         | exact Bool.noConfusion (show false = true from p2)
         | (cases (show w = _ from h2); rfl)
         | (cases (show w = _ from h2); simp [eqV, toPy, PyData.eqv]))
theorem flat_in {K : PySem.W.Frag} {H : Hp} {x : V} {dx : D} {F0' : Fp} (hx : Rp K H dx x F0') (px : flatD dx = true) : ∀ {ds : List D} {vs : List V} {F : Fp}, Rps K H ds vs F → ds.all flatD = true → vs.all flatV = true ∧ inV x vs = ds.any fun d => PyData.eqv (toPy d) (toPy dx)
  | [], vs, F, h, _ => by cases (show vs = [] from h); exact ⟨rfl, rfl⟩
  | d :: ds, vs, F, h, p => by
    obtain ⟨v, ws, G1, G2, rfl, h1, h2, _⟩ := h
    rw [List.all_cons, Bool.and_eq_true] at p
    obtain ⟨r1, r2⟩ := flat_in hx px h2 p.2
    refine ⟨by rw [List.all_cons, (flat_v h1 p.1).1, r1]; rfl, ?_⟩
    unfold inV at r2 ⊢
    rw [List.any_cons, List.any_cons, r2, (flat_v hx px).2 h1 p.1]
theorem sign_of {a : PySem.Str} (h : a.length = 1) : a = ⟨#[a.cps.getD 0 0]⟩ := by
  obtain ⟨c⟩ := a
  have h' : c.size = 1 := h
  obtain ⟨x, rfl⟩ := Array.size_eq_one_iff.mp h'
  rfl
theorem op_cmpD (hG : ¬ G .stuck) (hu : X.A.units + 65 < cLine) (op : CmpOp) : OpR X (compareOp op) (rCmpD G X.K op) := by
  intro pins s σ H x y v u Q I rx ry h
  obtain ⟨dx, dy, Fx, Fy, k, hx, hy, g, q⟩ := h
  have eqc : ∀ {b : Bool}, scal x y = true → decide (x = y) = b → Q (.bl b) H → wpAny (model X.prog X.w) X.A (compareOp .Eq v u) (EP X pins σ Q) X.xe s := fun hs e z =>
    op_eq pins s σ H x y v u Q I rx ry ⟨hs, by rw [e]; exact z⟩
  have nec : ∀ {b : Bool}, scal x y = true → decide (x = y) = b → Q (.bl (!b)) H → wpAny (model X.prog X.w) X.A (compareOp .NotEq v u) (EP X pins σ Q) X.xe s := fun hs e z =>
    op_ne pins s σ H x y v u Q I rx ry ⟨hs, by rw [e]; exact z⟩
  have two : ∀ {f : Bool → Bool} {c : CmpOp} {Z : Prop}, (∀ {b : Bool}, scal x y = true → decide (x = y) = b → Q (.bl (f b)) H → Z) → (rEqD X.K x y H (fun w H1 => ∃ b, w = .bl b ∧ Q (.bl (f b)) H1) → Z) → G (dEq dx dy fun b => k (f b)) → Z := by
    intro f c Z eqc deep g
    have dd : G (dEqD dx dy fun b => k (f b)) → Z := fun g => by
      obtain ⟨ho, g⟩ := ckK_of hG g
      unfold eqOk at ho
      rw [Bool.and_eq_true, Bool.and_eq_true, Bool.and_eq_true] at ho
      exact deep ⟨_, _, dp_of _ _ _ hx ho.1.1, dp_of _ _ _ hy ho.2.1, ho.1.2, ho.2.2, _, rfl, q _ g⟩
    clear deep
    cases dx with
    | non =>
      cases (show x = .non from hx)
      cases dy with
      | non => cases (show y = .non from hy); exact eqc rfl (b := true) (by simp) (q _ g)
      | int j => cases (show y = .int j from hy); exact eqc rfl (b := false) (by simp) (q _ g)
      | str j => cases (show y = .str j from hy); exact eqc rfl (b := false) (by simp) (q _ g)
      | _ => first
        | exact absurd g hG
        | exact dd g
    | bl a =>
      cases (show x = .bl a from hx)
      cases dy with
      | bl j => cases (show y = .bl j from hy); exact eqc rfl (b := decide (a = j)) (by simp) (q _ g)
      | _ => first
        | exact absurd g hG
        | exact dd g
    | int i =>
      cases (show x = .int i from hx)
      cases dy with
      | non => cases (show y = .non from hy); exact eqc rfl (b := false) (by simp) (q _ g)
      | int j => cases (show y = .int j from hy); exact eqc rfl (b := decide (i = j)) (by simp) (q _ g)
      | str j => cases (show y = .str j from hy); exact eqc rfl (b := false) (by simp) (q _ g)
      | _ => first
        | exact absurd g hG
        | exact dd g
    | str i =>
      cases (show x = .str i from hx)
      cases dy with
      | non => cases (show y = .non from hy); exact eqc rfl (b := false) (by simp) (q _ g)
      | int j => cases (show y = .int j from hy); exact eqc rfl (b := false) (by simp) (q _ g)
      | str j => cases (show y = .str j from hy); exact eqc rfl (b := decide (i = j)) (by simp) (q _ g)
      | _ => first
        | exact absurd g hG
        | exact dd g
    | ty n => exact absurd g hG
    | _ => cases dy <;> first
      | exact absurd g hG
      | exact dd g
  have isc : ∀ {neg : Bool}, G (dIs dx dy fun b => k (if neg then !b else b)) → wpAny (model X.prog X.w) X.A (compareOp (if neg then .IsNot else .Is) v u) (EP X pins σ Q) X.xe s := by
    intro neg g
    cases dy with
    | non =>
      cases (show y = .non from hy)
      have e : isN dx = decide (x = .non) := by
        cases dx <;> first
          | (cases (show x = _ from hx); simp [isN, isB])
          | (obtain ⟨p, vs, rfl, _⟩ := hx; simp [isN, isB])
          | (obtain ⟨p, rfl, _⟩ := hx; simp [isN, isB])
      have g := q _ g
      rw [e] at g
      cases neg with
      | false => exact op_isN pins s σ H x .non v u Q I rx ry ⟨rfl, g⟩
      | true => exact op_notN pins s σ H x .non v u Q I rx ry ⟨rfl, g⟩
    | bl b =>
      cases (show y = .bl b from hy)
      have e : isB b dx = decide (x = .bl b) := by
        cases dx <;> first
          | (cases (show x = _ from hx); simp [isN, isB])
          | (obtain ⟨p, vs, rfl, _⟩ := hx; simp [isN, isB])
          | (obtain ⟨p, rfl, _⟩ := hx; simp [isN, isB])
      have g := q _ g
      rw [e] at g
      exact op_isBlAny neg pins s σ H x (.bl b) v u Q I rx ry ⟨b, rfl, g⟩
    | ty n =>
      cases (show y = .ty n from hy)
      cases dx with
      | ty m =>
        cases (show x = .ty m from hx)
        cases neg with
        | false => exact op_isTy pins s σ H _ _ v u Q I rx ry ⟨m, n, rfl, rfl, q _ g⟩
        | true => exact op_isNotTy pins s σ H _ _ v u Q I rx ry ⟨m, n, rfl, rfl, q _ g⟩
      | _ => exact absurd g hG
    | _ => exact absurd g hG
  have inc : ∀ {neg : Bool}, G (dIn dx dy fun b => k (if neg then !b else b)) → wpAny (model X.prog X.w) X.A (compareOp (if neg then .NotIn else .In) v u) (EP X pins σ Q) X.xe s := by
    intro neg g
    have seq : ∀ {p : Addr} {ds : List D} {vs : List V} {F : Fp}, y = .ref p → (SqL X.K H p vs ∨ SqT X.K H p vs) → Rps X.K H ds vs F → G (ckK (flatD dx && ds.all flatD) (k (if neg then !(ds.any fun d => PyData.eqv (toPy d) (toPy dx)) else ds.any fun d => PyData.eqv (toPy d) (toPy dx)))) →
        wpAny (model X.prog X.w) X.A (compareOp (if neg then .NotIn else .In) v u) (EP X pins σ Q) X.xe s := fun {p ds vs F} ey hq hr g => by
      obtain ⟨hb, g⟩ := ckK_of hG g
      rw [Bool.and_eq_true] at hb
      obtain ⟨f1, f2⟩ := flat_in hx hb.1 hr hb.2
      have g' := q _ g
      rw [← f2] at g'
      cases neg with
      | false => exact op_in_seq pins s σ H x y v u Q I rx ry ⟨p, vs, ey, hq, (flat_v hx hb.1).1, f1, g'⟩
      | true => exact op_notIn_seq pins s σ H x y v u Q I rx ry ⟨p, vs, ey, hq, (flat_v hx hb.1).1, f1, g'⟩
    cases dy with
    | str z =>
      cases (show y = .str z from hy)
      cases dx with
      | str a =>
        cases (show x = .str a from hx)
        obtain ⟨hb, g⟩ := ckK_of hG g
        have ea := sign_of (of_decide_eq_true hb)
        have g' := q _ g
        cases neg with
        | false => exact op_in_sign pins s σ H _ _ v u Q I rx ry ⟨_, z, congrArg V.str ea, rfl, g'⟩
        | true => exact op_notIn_sign pins s σ H _ _ v u Q I rx ry ⟨_, z, congrArg V.str ea, rfl, g'⟩
      | _ => exact absurd g hG
    | tup ds =>
      obtain ⟨p, vs, ey, hq, _, hr⟩ := hy
      exact seq ey (.inr hq) hr g
    | rol ds =>
      obtain ⟨p, vs, ey, hq, _, hr⟩ := hy
      exact seq ey (.inl hq.sq) hr g
    | lst ds =>
      obtain ⟨p, vs, ey, hq, _, hr⟩ := hy
      exact seq ey (.inl (.inl (.inl hq))) hr g
    | lck ds =>
      obtain ⟨p, vs, ey, hq, _, hr⟩ := hy
      exact seq ey (.inl (.inl (.inl hq))) hr g
    | _ => exact absurd g hG
  cases op with
  | Eq => exact two (f := id) (c := .Eq) (fun a b c => eqc a b c) (fun ⟨d, e, h1, h2, h3, h4, b, hb, z⟩ => op_eqD (by omega) pins s σ H x y v u Q I rx ry ⟨d, e, h1, h2, h3, h4, by cases hb; exact z⟩) g
  | NotEq => exact two (f := fun b => !b) (c := .Eq) (fun a b c => nec a b c) (fun ⟨d, e, h1, h2, h3, h4, b, hb, z⟩ => op_neD (by omega) pins s σ H x y v u Q I rx ry ⟨d, e, h1, h2, h3, h4, by cases hb; exact z⟩) g
  | Lt =>
    cases dx with
    | int i =>
      cases dy with
      | int j =>
        cases (show x = .int i from hx); cases (show y = .int j from hy)
        exact op_lt pins s σ H _ _ v u Q I rx ry ⟨i, j, rfl, rfl, q _ g⟩
      | _ => exact absurd g hG
    | str a =>
      cases dy with
      | str b =>
        cases (show x = .str a from hx); cases (show y = .str b from hy)
        exact op_lt_str pins s σ H _ _ v u Q I rx ry ⟨a, b, rfl, rfl, q _ g⟩
      | _ => exact absurd g hG
    | _ => cases dy <;> exact absurd g hG
  | LtE =>
    cases dx with
    | int i =>
      cases dy with
      | int j =>
        cases (show x = .int i from hx); cases (show y = .int j from hy)
        exact op_le pins s σ H _ _ v u Q I rx ry ⟨i, j, rfl, rfl, q _ g⟩
      | _ => exact absurd g hG
    | _ => cases dy <;> exact absurd g hG
  | Gt =>
    cases dy with
    | int j =>
      cases dx with
      | int i =>
        cases (show x = .int i from hx); cases (show y = .int j from hy)
        exact op_gt pins s σ H _ _ v u Q I rx ry ⟨i, j, rfl, rfl, q _ g⟩
      | _ => exact absurd g hG
    | str b =>
      cases dx with
      | str a =>
        cases (show x = .str a from hx); cases (show y = .str b from hy)
        exact op_gt_str pins s σ H _ _ v u Q I rx ry ⟨a, b, rfl, rfl, q _ g⟩
      | _ => exact absurd g hG
    | _ => cases dx <;> exact absurd g hG
  | GtE =>
    cases dy with
    | int j =>
      cases dx with
      | int i =>
        cases (show x = .int i from hx); cases (show y = .int j from hy)
        exact op_ge pins s σ H _ _ v u Q I rx ry ⟨i, j, rfl, rfl, q _ g⟩
      | _ => exact absurd g hG
    | _ => cases dx <;> exact absurd g hG
  | Is => exact isc (neg := false) g
  | IsNot => exact isc (neg := true) g
  | In => exact inc (neg := false) g
  | NotIn => exact inc (neg := true) g

/-! ### subscripts, slices, truth, negation -/
theorem Rps.at {K : PySem.W.Frag} {H : Hp} {ds : List D} {vs : List V} {F : Fp} {i : Int} {d : D} (h : Rps K H ds vs F) (e : atI ds i = some d) : ∃ v, atI vs i = some v ∧ Rp K H d v F := by
  unfold atI at e ⊢
  rw [Rps.length ds vs F h]
  cases q : ixN ds.length i with
  | none => rw [q] at e; cases e
  | some j =>
    rw [q] at e
    exact Rps.get ds vs F j d h e
/-- x[i]: the item may be written through x (F: what x stands in) -/
def rIxD (G : Res → Prop) (K : PySem.W.Frag) : R2 := fun x y H Q => ∃ d di F Fy k, Rp K H d x F ∧ Rp K H di y Fy ∧ G (dIx d di k) ∧ ∀ r v, Rp K H r v F → G (k r) → Q v H
theorem atK_of {G : Res → Prop} (hG : ¬ G .stuck) {ds : List D} {i : Int} {k : D → Res} (h : G (atK ds i k)) : ∃ d, atI ds i = some d ∧ G (k d) := by
  unfold atK at h
  cases e : atI ds i with
  | none => rw [e] at h; exact absurd h hG
  | some d => rw [e] at h; exact ⟨d, rfl, h⟩
theorem ix_D (hG : ¬ G .stuck) : IxR X (rIxD G X.K) := by
  intro b0 b1 pins s σ H x y v u Q I rx ry h hp
  obtain ⟨d, di, F, Fy, k, hx, hy, g, q⟩ := h
  cases d with
  | tup ds =>
    cases di with
    | int j =>
      cases (show y = .int j from hy)
      obtain ⟨p, vs, rfl, hs, _, rv⟩ := hx
      obtain ⟨e, he, g⟩ := atK_of hG g
      obtain ⟨w, hw, rw'⟩ := rv.at he
      exact ix_tup b0 b1 pins s σ H _ _ v u Q I rx ry ⟨p, vs, j, w, rfl, rfl, hs, hw, q e w rw' g⟩ hp
    | _ => exact absurd g hG
  | rol ds =>
    cases di with
    | int j =>
      cases (show y = .int j from hy)
      obtain ⟨p, vs, rfl, hs, _, rv⟩ := hx
      obtain ⟨e, he, g⟩ := atK_of hG g
      obtain ⟨w, hw, rw'⟩ := rv.at he
      exact ix_list b0 b1 pins s σ H _ _ v u Q I rx ry ⟨p, vs, j, w, rfl, rfl, hs.sq, hw, q e w rw' g⟩ hp
    | _ => exact absurd g hG
  | lst ds =>
    cases di with
    | int j =>
      cases (show y = .int j from hy)
      obtain ⟨p, vs, rfl, hs, _, rv⟩ := hx
      obtain ⟨e, he, g⟩ := atK_of hG g
      obtain ⟨w, hw, rw'⟩ := rv.at he
      exact ix_list b0 b1 pins s σ H _ _ v u Q I rx ry ⟨p, vs, j, w, rfl, rfl, SqL.of hs, hw, q e w (Rp.mono _ _ _ _ (fun _ z => z.1) rw') g⟩ hp
    | _ => exact absurd g hG
  | lck ds =>
    cases di with
    | int j =>
      cases (show y = .int j from hy)
      obtain ⟨p, vs, rfl, hs, _, rv⟩ := hx
      obtain ⟨e, he, g⟩ := atK_of hG g
      obtain ⟨w, hw, rw'⟩ := rv.at he
      exact ix_list b0 b1 pins s σ H _ _ v u Q I rx ry ⟨p, vs, j, w, rfl, rfl, SqL.of hs, hw, q e w (Rp.mono _ _ _ _ (fun _ z => z.1) rw') g⟩ hp
    | _ => exact absurd g hG
  | str z =>
    cases di with
    | int j =>
      cases (show y = .int j from hy)
      cases (show x = .str z from hx)
      obtain ⟨hb, g⟩ := ckK_of hG g
      cases e : atI z.cps.toList j with
      | none => rw [e] at g; exact absurd g hG
      | some c =>
        rw [e] at g
        exact ix_str b0 b1 pins s σ H _ _ v u Q I rx ry ⟨z, j, c, rfl, rfl, by rw [← szLine_eq]; exact of_decide_eq_true hb, e, q (.str ⟨#[c]⟩) _ rfl g⟩ hp
    | _ => exact absurd g hG
  | _ => cases di <;> exact absurd g hG

def rSlD (G : Res → Prop) (K : PySem.W.Frag) : V → Option Int → Option Int → Hp → VK → Prop := fun x lo hi H Q => ∃ d F k, Rp K H d x F ∧ G (dSl d lo hi k) ∧ VRes G K k H Q
theorem sl_D (hG : ¬ G .stuck) : SlR X (rSlD G X.K) := by
  intro pins s σ H x v vl vu lo hi sl Q I rx hs pl pu h
  obtain ⟨d, F, k, hx, g, q⟩ := h
  cases d with
  | tup ds =>
    obtain ⟨p, vs, rfl, hq, pu0, rv⟩ := hx
    have pu1 : D.pus (cutL ds lo hi) = true := pus_take _ (pus_drop _ pu0)
    have rv0 := Rps.pure _ _ _ pu0 rv
    refine sl_tupA pins s σ H _ v vl vu lo hi sl Q I rx hs pl pu ⟨p, vs, rfl, hq, ?_⟩
    refine ⟨fun e => ?_, fun e z hz => ?_⟩
    · refine q.here (d := .tup (cutL ds lo hi)) ⟨p, vs, rfl, hq, pu1, ?_⟩ g
      have r1 := rv0.cut lo hi
      have e2 : cutV vs lo hi = vs := by
        unfold cutV
        rw [e.1, e.2]
        simp
      rw [e2] at r1
      exact r1
    · exact q.new (d := .tup (cutL ds lo hi)) hz (Rp.tup_new hz pu1 (rv0.cut lo hi)) g
  | rol ds =>
    obtain ⟨p, vs, rfl, hq, pu0, rv⟩ := hx
    have pu1 : D.pus (cutL ds lo hi) = true := pus_take _ (pus_drop _ pu0)
    exact sl_list pins s σ H _ v vl vu lo hi sl Q I rx hs pl pu ⟨p, vs, rfl, hq.sq, fun z hz => q.new (d := .lst (cutL ds lo hi)) hz (Rp.lst_new hz pu1 ((Rps.pure _ _ _ pu0 rv).cut lo hi)) g⟩
  | lst ds =>
    obtain ⟨p, vs, rfl, hq, _, rv⟩ := hx
    obtain ⟨pu0, g⟩ := pusK_of hG g
    have pu1 : D.pus (cutL ds lo hi) = true := pus_take _ (pus_drop _ pu0)
    exact sl_list pins s σ H _ v vl vu lo hi sl Q I rx hs pl pu ⟨p, vs, rfl, SqL.of hq, fun z hz => q.new (d := .lst (cutL ds lo hi)) hz (Rp.lst_new hz pu1 ((Rps.pure _ _ _ pu0 rv).cut lo hi)) g⟩
  | lck ds =>
    obtain ⟨p, vs, rfl, hq, _, rv⟩ := hx
    obtain ⟨pu0, g⟩ := pusK_of hG g
    have pu1 : D.pus (cutL ds lo hi) = true := pus_take _ (pus_drop _ pu0)
    exact sl_list pins s σ H _ v vl vu lo hi sl Q I rx hs pl pu ⟨p, vs, rfl, SqL.of hq, fun z hz => q.new (d := .lst (cutL ds lo hi)) hz (Rp.lst_new hz pu1 ((Rps.pure _ _ _ pu0 rv).cut lo hi)) g⟩
  | str z =>
    cases (show x = .str z from hx)
    obtain ⟨hb, g⟩ := ckK_of hG g
    exact sl_str pins s σ H _ v vl vu lo hi sl Q I rx hs pl pu ⟨z, rfl, by rw [← szLine_eq]; exact of_decide_eq_true hb, q.here (d := .str (cutS z lo hi)) rfl g⟩
  | _ => exact absurd g hG

/-- a value's truth -/
theorem tru_D (hG : ¬ G .stuck) {H : Hp} {d : D} {x : V} {F : Fp} {k : Bool → Res} (hx : Rp X.K H d x F) (g : G (dTru d k)) : ∃ b, TruV X.K x H b ∧ G (k b) := by
  cases d with
  | non => cases (show x = .non from hx); exact ⟨false, rfl, g⟩
  | bl b => cases (show x = .bl b from hx); exact ⟨b, rfl, g⟩
  | int i => cases (show x = .int i from hx); exact ⟨_, (show decide (i ≠ 0) = (i != 0) by by_cases e : i = 0 <;> simp [e]), g⟩
  | str z =>
    cases (show x = .str z from hx)
    obtain ⟨hb, g⟩ := ckK_of hG g
    refine ⟨_, ⟨by rw [← szLine_eq]; exact of_decide_eq_true hb, ?_⟩, g⟩
    by_cases e : z.length = 0
    · simp [e]
    · have e2 : ¬ ((z.length : Int) = 0) := by omega
      simp [e]
  | tup ds =>
    obtain ⟨p, vs, rfl, hs, _, rv⟩ := hx
    refine ⟨_, .inr (.inl ⟨vs, hs, ?_⟩), g⟩
    have := Rps.length _ _ _ rv
    cases ds <;> cases vs <;> simp_all
  | rol ds =>
    obtain ⟨p, vs, rfl, hs, _, rv⟩ := hx
    refine ⟨_, .inl ⟨vs, hs.sq, ?_⟩, g⟩
    have := Rps.length _ _ _ rv
    cases ds <;> cases vs <;> simp_all
  | lst ds =>
    obtain ⟨p, vs, rfl, hs, _, rv⟩ := hx
    refine ⟨_, .inl ⟨vs, SqL.of hs, ?_⟩, g⟩
    have := Rps.length _ _ _ rv
    cases ds <;> cases vs <;> simp_all
  | lck ds =>
    obtain ⟨p, vs, rfl, hs, _, rv⟩ := hx
    refine ⟨_, .inl ⟨vs, SqL.of hs, ?_⟩, g⟩
    have := Rps.length _ _ _ rv
    cases ds <;> cases vs <;> simp_all
  | ty n => exact absurd g hG
  | fnv n => exact absurd g hG
  | dct ks ds => exact absurd g hG
def rNegD (G : Res → Prop) (K : PySem.W.Frag) : V → Hp → VK → Prop := fun x H Q => ∃ d F k, Rp K H d x F ∧ G (dNeg d k) ∧ VRes G K k H Q
theorem un_negD (hG : ¬ G .stuck) : UnR X (unaryOp .USub) (rNegD G X.K) := by
  intro pins s σ H x v Q I rx h
  obtain ⟨d, F, k, hx, g, q⟩ := h
  cases d with
  | int i =>
    cases (show x = .int i from hx)
    exact un_neg pins s σ H _ v Q I rx ⟨i, rfl, q.here (d := .int (-i)) rfl g⟩
  | _ => exact absurd g hG
end
end TI
set_option Elab.async false
set_option linter.all false
set_option maxRecDepth 100000
set_option maxHeartbeats 4000000
/-! built-ins and methods by values -/
namespace TI
open PySem PySem.Spec PyProof.Rows L2
section
variable {X : Cx} {G : Res → Prop}
def rB1 (G : Res → Prop) (K : PySem.W.Frag) (f : D → (D → Res) → Res) : List V → Hp → VK → Prop := fun xs H Q => ∃ d x F k, xs = [x] ∧ Rp K H d x F ∧ G (f d k) ∧ VRes G K k H Q
theorem c_len (hG : ¬ G .stuck) : CallR X (.builtin "len") (rB1 G X.K dLen) := by
  intro pins s σ H xs us Q I r h
  obtain ⟨d, x, F, k, rfl, hx, g, q⟩ := h
  cases d with
  | str z =>
    cases (show x = .str z from hx)
    obtain ⟨hb, g⟩ := ckK_of hG g
    exact call_len pins s σ H _ us Q I r ⟨_, z.length, rfl, ⟨by rw [← szLine_eq]; exact of_decide_eq_true hb, rfl⟩, q.here (d := .int z.length) rfl g⟩
  | tup ds =>
    obtain ⟨p, vs, rfl, hs, _, rv⟩ := hx
    exact call_len pins s σ H _ us Q I r ⟨_, ds.length, rfl, .inr ⟨vs, hs, (Rps.length _ _ _ rv).symm⟩, q.here (d := .int ds.length) rfl g⟩
  | rol ds =>
    obtain ⟨p, vs, rfl, hs, _, rv⟩ := hx
    exact call_len pins s σ H _ us Q I r ⟨_, ds.length, rfl, .inl ⟨vs, hs.sq, (Rps.length _ _ _ rv).symm⟩, q.here (d := .int ds.length) rfl g⟩
  | lst ds =>
    obtain ⟨p, vs, rfl, hs, _, rv⟩ := hx
    exact call_len pins s σ H _ us Q I r ⟨_, ds.length, rfl, .inl ⟨vs, SqL.of hs, (Rps.length _ _ _ rv).symm⟩, q.here (d := .int ds.length) rfl g⟩
  | lck ds =>
    obtain ⟨p, vs, rfl, hs, _, rv⟩ := hx
    exact call_len pins s σ H _ us Q I r ⟨_, ds.length, rfl, .inl ⟨vs, SqL.of hs, (Rps.length _ _ _ rv).symm⟩, q.here (d := .int ds.length) rfl g⟩
  | _ => exact absurd g hG
/-- the most signs that int() reads: more than 640 where the row's limit stands as it was -/
def LimOk (K : PySem.W.Frag) (lim : Nat) : Prop := lim ≤ 640 ∨ (lim ≤ szLine ∧ PySem.W.nsIn K cStatics "sys.int_max_str_digits" = some none)
theorem ns_none {K : PySem.W.Frag} {h : Heap} {a : Addr} {m : Str → Option Value} {n : Str} (X : K.In h) (G : h.Ns a m) (e : PySem.W.nsIn K a n = some none) : m n = none := by
  obtain ⟨o, es, ep, ho, hd, hx⟩ := G
  unfold PySem.W.nsIn at e
  split at e
  · rename_i c d es' n' sl q
    have hq := X _ _ q
    rw [ho] at hq
    cases hq
    cases hd
    obtain ⟨_, hf⟩ := hx
    have hfn := hf n
    split at e
    · cases e
    · rename_i hnone
      rw [← hfn]
      unfold nsFind findBy
      rw [← Array.find?_toList, hnone]
      rfl
  · cases e
theorem c_int (hG : ¬ G .stuck) {lim : Nat} (hlim : LimOk X.K lim) : CallR X (.type "int") (rB1 G X.K (dInt lim)) := by
  intro pins s σ H xs us Q I r h
  obtain ⟨d, x, F, k, rfl, hx, g, q⟩ := h
  cases d with
  | int i =>
    cases (show x = .int i from hx)
    exact call_int1 pins s σ H _ us Q I r (.inl ⟨i, rfl, q.here (d := .int i) rfl g⟩)
  | bl b =>
    cases (show x = .bl b from hx)
    exact call_int1 pins s σ H _ us Q I r (.inr ⟨b, rfl, q.here (d := .int (if b then 1 else 0)) rfl g⟩)
  | str z =>
    cases (show x = .str z from hx)
    obtain ⟨hb, g⟩ := ckK_of hG g
    cases e : intText? z with
    | none => rw [e] at g; exact absurd g hG
    | some n =>
      rw [e] at g
      have hb' := of_decide_eq_true hb
      rcases hlim with hl | ⟨hl, hns⟩
      · exact call_int_str pins s σ H _ us Q I r ⟨z, n, rfl, e, Nat.le_trans hb' hl, q.here (d := .int n) rfl g⟩
      · obtain ⟨u, rfl, t, rfl⟩ := vals1 r
        obtain ⟨mc, h1, _⟩ := I.nolimit
        exact TW.int_of_text ⟨mc, h1, ns_none I.kIn h1 hns⟩ (by rw [← szLine_eq]; omega) e ⟨.int n, H, I.tok _, ⟨_, rfl⟩, q.here (d := .int n) rfl g⟩
  | _ => exact absurd g hG
theorem c_str (hG : ¬ G .stuck) : CallR X (.type "str") (rB1 G X.K dStr) := by
  intro pins s σ H xs us Q I r h
  obtain ⟨d, x, F, k, rfl, hx, g, q⟩ := h
  cases d with
  | int i =>
    cases (show x = .int i from hx)
    obtain ⟨hb, g⟩ := ckK_of hG g
    exact call_str_int pins s σ H _ us Q I r ⟨i, rfl, of_decide_eq_true hb, q.here (d := .str (Str.ofString (toString i))) rfl g⟩
  | _ => exact absurd g hG
theorem c_tuple (hG : ¬ G .stuck) : CallR X (.type "tuple") (rB1 G X.K dTup) := by
  intro pins s σ H xs us Q I r h
  obtain ⟨d, x, F, k, rfl, hx, g, q⟩ := h
  cases d with
  | tup ds =>
    obtain ⟨p, vs, rfl, hs, pu, rv⟩ := hx
    exact call_tuple_of pins s σ H _ us Q I r ⟨p, vs, rfl, .inr ⟨hs, q.here (d := .tup ds) ⟨p, vs, rfl, hs, pu, Rps.pure _ _ _ pu rv⟩ g⟩⟩
  | rol ds =>
    obtain ⟨p, vs, rfl, hs, pu, rv⟩ := hx
    exact call_tuple_of pins s σ H _ us Q I r ⟨p, vs, rfl, .inl ⟨hs.sq, fun z hz => q.new (d := .tup ds) hz (Rp.tup_new hz pu rv) g⟩⟩
  | lst ds =>
    obtain ⟨p, vs, rfl, hs, _, rv⟩ := hx
    obtain ⟨pu, g⟩ := pusK_of hG g
    exact call_tuple_of pins s σ H _ us Q I r ⟨p, vs, rfl, .inl ⟨SqL.of hs, fun z hz => q.new (d := .tup ds) hz (Rp.tup_new hz pu rv) g⟩⟩
  | lck ds =>
    obtain ⟨p, vs, rfl, hs, _, rv⟩ := hx
    obtain ⟨pu, g⟩ := pusK_of hG g
    exact call_tuple_of pins s σ H _ us Q I r ⟨p, vs, rfl, .inl ⟨SqL.of hs, fun z hz => q.new (d := .tup ds) hz (Rp.tup_new hz pu rv) g⟩⟩
  | _ => exact absurd g hG

theorem c_abs (hG : ¬ G .stuck) : CallR X (.builtin "abs") (rB1 G X.K dAbs) := by
  intro pins s σ H xs us Q I r h
  obtain ⟨d, x, F, k, rfl, hx, g, q⟩ := h
  cases d with
  | int i =>
    cases (show x = .int i from hx)
    exact call_abs pins s σ H _ us Q I r ⟨i, rfl, q.here (d := .int (if i < 0 then -i else i)) rfl g⟩
  | _ => exact absurd g hG
theorem c_ord (hG : ¬ G .stuck) : CallR X (.builtin "ord") (rB1 G X.K dOrd) := by
  intro pins s σ H xs us Q I r h
  obtain ⟨d, x, F, k, rfl, hx, g, q⟩ := h
  cases d with
  | str z =>
    cases (show x = .str z from hx)
    obtain ⟨hb, g⟩ := ckK_of hG g
    exact call_ord pins s σ H _ us Q I r ⟨z, rfl, of_decide_eq_true hb, q.here (d := .int (z.cps.getD 0 0 : Nat)) rfl g⟩
  | _ => exact absurd g hG
theorem lstK_of {K : PySem.W.Frag} {H : Hp} {d : D} {x : V} {F : Fp} {k : List D → Res} (hG : ¬ G .stuck) (hx : Rp K H d x F) (g : G (lstK d k)) : ∃ a ds vs F', x = .ref a ∧ SqL K H a vs ∧ Rps K H ds vs F' ∧ G (k ds) := by
  cases d with
  | rol ds =>
    obtain ⟨p, vs, rfl, hs, _, rv⟩ := hx
    exact ⟨p, ds, vs, _, rfl, hs.sq, rv, g⟩
  | lst ds =>
    obtain ⟨p, vs, rfl, hs, _, rv⟩ := hx
    exact ⟨p, ds, vs, _, rfl, SqL.of hs, rv, g⟩
  | lck ds =>
    obtain ⟨p, vs, rfl, hs, _, rv⟩ := hx
    exact ⟨p, ds, vs, _, rfl, SqL.of hs, rv, g⟩
  | _ => exact absurd g hG
theorem bls_of {K : PySem.W.Frag} {H : Hp} : ∀ {ds : List D} {vs : List V} {F : Fp} {ys : List Bool}, Rps K H ds vs F → blsD ds = some ys → vs = ys.map V.bl
  | [], vs, F, ys, h, e => by
    cases e
    exact h
  | d :: ds, vs, F, ys, h, e => by
    obtain ⟨v, ws, G1, G2, rfl, h1, h2, _⟩ := h
    cases d with
    | bl x =>
      rw [blsD] at e
      cases q : blsD ds with
      | none => rw [q] at e; cases e
      | some zs =>
        rw [q] at e
        cases e
        rw [show v = .bl x from h1, bls_of h2 q]
        rfl
    | _ => cases e
theorem ints_of {K : PySem.W.Frag} {H : Hp} : ∀ {ds : List D} {vs : List V} {F : Fp} {ys : List Int}, Rps K H ds vs F → intsD ds = some ys → vs = ys.map V.int
  | [], vs, F, ys, h, e => by
    cases e
    exact h
  | d :: ds, vs, F, ys, h, e => by
    obtain ⟨v, ws, G1, G2, rfl, h1, h2, _⟩ := h
    cases d with
    | int x =>
      rw [intsD] at e
      cases q : intsD ds with
      | none => rw [q] at e; cases e
      | some zs =>
        rw [q] at e
        cases e
        rw [show v = .int x from h1, ints_of h2 q]
        rfl
    | _ => cases e
theorem c_all (hG : ¬ G .stuck) (hc : X.calm = true) : CallR X (.builtin "all") (rB1 G X.K dAll) := by
  intro pins s σ H xs us Q I r h
  obtain ⟨d, x, F, k, rfl, hx, g, q⟩ := h
  obtain ⟨a, ds, vs, F', rfl, hs, hr, g⟩ := lstK_of hG hx g
  obtain ⟨bs, hb, g⟩ := oK_of hG g
  cases bls_of hr hb
  exact cr_all hc pins s σ H _ us Q I r ⟨a, bs, rfl, hs, q.here (d := .bl (bs.all id)) rfl g⟩
theorem c_any (hG : ¬ G .stuck) (hc : X.calm = true) : CallR X (.builtin "any") (rB1 G X.K dAny) := by
  intro pins s σ H xs us Q I r h
  obtain ⟨d, x, F, k, rfl, hx, g, q⟩ := h
  obtain ⟨a, ds, vs, F', rfl, hs, hr, g⟩ := lstK_of hG hx g
  obtain ⟨bs, hb, g⟩ := oK_of hG g
  cases bls_of hr hb
  exact cr_any hc pins s σ H _ us Q I r ⟨a, bs, rfl, hs, q.here (d := .bl (bs.any id)) rfl g⟩
theorem c_sum (hG : ¬ G .stuck) (hc : X.calm = true) : CallR X (.builtin "sum") (rB1 G X.K dSum) := by
  intro pins s σ H xs us Q I r h
  obtain ⟨d, x, F, k, rfl, hx, g, q⟩ := h
  obtain ⟨a, ds, vs, F', rfl, hs, hr, g⟩ := lstK_of hG hx g
  obtain ⟨bs, hb, g⟩ := oK_of hG g
  cases ints_of hr hb
  exact cr_sum hc pins s σ H _ us Q I r ⟨a, bs, rfl, hs, q.here (d := .int bs.sum) rfl g⟩
theorem maxI_ge : ∀ (l : List Int) (m : Int), m ≤ maxI m l ∧ ∀ y ∈ l, y ≤ maxI m l
  | [], m => ⟨Int.le_refl _, fun y h => by simp at h⟩
  | x :: l, m => by
    obtain ⟨h1, h2⟩ := maxI_ge l (if m < x then x else m)
    have h3 : m ≤ (if m < x then x else m) ∧ x ≤ (if m < x then x else m) := by split <;> omega
    refine ⟨Int.le_trans h3.1 h1, fun y hy => ?_⟩
    rcases List.mem_cons.mp hy with rfl | hy
    · exact Int.le_trans h3.2 h1
    · exact h2 y hy
theorem maxI_mem : ∀ (l : List Int) (m : Int), maxI m l = m ∨ maxI m l ∈ l
  | [], m => .inl rfl
  | x :: l, m => by
    rcases maxI_mem l (if m < x then x else m) with h | h
    · show maxI (if m < x then x else m) l = m ∨ maxI (if m < x then x else m) l ∈ x :: l
      rw [h]
      split
      · exact .inr List.mem_cons_self
      · exact .inl rfl
    · exact .inr (List.mem_cons_of_mem _ h)
theorem minI_le : ∀ (l : List Int) (m : Int), minI m l ≤ m ∧ ∀ y ∈ l, minI m l ≤ y
  | [], m => ⟨Int.le_refl _, fun y h => by simp at h⟩
  | x :: l, m => by
    obtain ⟨h1, h2⟩ := minI_le l (if x < m then x else m)
    have h3 : (if x < m then x else m) ≤ m ∧ (if x < m then x else m) ≤ x := by split <;> omega
    refine ⟨Int.le_trans h1 h3.1, fun y hy => ?_⟩
    rcases List.mem_cons.mp hy with rfl | hy
    · exact Int.le_trans h1 h3.2
    · exact h2 y hy
theorem minI_mem : ∀ (l : List Int) (m : Int), minI m l = m ∨ minI m l ∈ l
  | [], m => .inl rfl
  | x :: l, m => by
    rcases minI_mem l (if x < m then x else m) with h | h
    · show minI (if x < m then x else m) l = m ∨ minI (if x < m then x else m) l ∈ x :: l
      rw [h]
      split
      · exact .inr List.mem_cons_self
      · exact .inl rfl
    · exact .inr (List.mem_cons_of_mem _ h)
theorem c_max1 (hG : ¬ G .stuck) (hc : X.calm = true) : CallR X (.builtin "max") (rB1 G X.K dMax1) := by
  intro pins s σ H xs us Q I r h
  obtain ⟨d, x, F, k, rfl, hx, g, q⟩ := h
  obtain ⟨a, ds, vs, F', rfl, hs, hr, g⟩ := lstK_of hG hx g
  obtain ⟨bs, hb, g⟩ := oK_of hG g
  cases ints_of hr hb
  cases bs with
  | nil => exact absurd g hG
  | cons x l =>
    refine cr_max hc pins s σ H _ us Q I r ⟨a, x :: l, rfl, hs, by simp, fun m hm hle => ?_⟩
    have e : m = maxI x l := by
      have h1 := maxI_ge l x
      have h2 : m ≤ maxI x l := by
        rcases List.mem_cons.mp hm with rfl | hm
        · exact h1.1
        · exact h1.2 m hm
      have h3 : maxI x l ≤ m := by
        rcases maxI_mem l x with h | h
        · rw [h]; exact hle x List.mem_cons_self
        · exact hle _ (List.mem_cons_of_mem _ h)
      omega
    subst e
    exact q.here (d := .int (maxI x l)) rfl g
theorem c_min1 (hG : ¬ G .stuck) (hc : X.calm = true) : CallR X (.builtin "min") (rB1 G X.K dMin1) := by
  intro pins s σ H xs us Q I r h
  obtain ⟨d, x, F, k, rfl, hx, g, q⟩ := h
  obtain ⟨a, ds, vs, F', rfl, hs, hr, g⟩ := lstK_of hG hx g
  obtain ⟨bs, hb, g⟩ := oK_of hG g
  cases ints_of hr hb
  cases bs with
  | nil => exact absurd g hG
  | cons x l =>
    refine cr_min hc pins s σ H _ us Q I r ⟨a, x :: l, rfl, hs, by simp, fun m hm hle => ?_⟩
    have e : m = minI x l := by
      have h1 := minI_le l x
      have h2 : minI x l ≤ m := by
        rcases List.mem_cons.mp hm with rfl | hm
        · exact h1.1
        · exact h1.2 m hm
      have h3 : m ≤ minI x l := by
        rcases minI_mem l x with h | h
        · rw [h]; exact hle x List.mem_cons_self
        · exact hle _ (List.mem_cons_of_mem _ h)
      omega
    subst e
    exact q.here (d := .int (minI x l)) rfl g
theorem c_type (hG : ¬ G .stuck) : CallR X (.type "type") (rB1 G X.K dTyp) := by
  intro pins s σ H xs us Q I r h
  obtain ⟨d, x, F, k, rfl, hx, g, q⟩ := h
  have fin : ∀ {T : String} {u : Value}, us = [u] → s.TypeIs u T → (Value.type T == Value.type "builtin_function_or_method") = false → G (k (.ty T)) → wpAny (model X.prog X.w) X.A (call (.type "type") us) (EP X pins σ Q) X.xe s := fun {T u} eu t hb g => by
    subst eu
    exact PySem.call_type_of t hb ⟨.ty T, H, I, rfl, q.here (d := .ty T) rfl g⟩
  obtain ⟨u, rfl, rx⟩ := vals1 r
  cases d with
  | int i => cases (show x = .int i from hx); obtain ⟨t, rfl⟩ := rx; exact fin rfl (typeIs_int s i t) (by decide +kernel) g
  | str i => cases (show x = .str i from hx); obtain ⟨t, rfl⟩ := rx; exact fin rfl (typeIs_str s i t) (by decide +kernel) g
  | bl i => cases (show x = .bl i from hx); cases rx; exact fin rfl (PySem.typeIs_bool s i) (by decide +kernel) g
  | non => cases (show x = .non from hx); cases rx; exact fin rfl (PySem.typeIs_none s) (by decide +kernel) g
  | lst ds =>
    obtain ⟨p, vs, rfl, hs, _⟩ := hx
    cases rx
    obtain ⟨its, rv, pl, _⟩ := I.list (.inl (.inl hs))
    exact fin rfl pl.isList.typeIs (by decide +kernel) g
  | tup ds =>
    obtain ⟨p, vs, rfl, hs, _⟩ := hx
    cases rx
    obtain ⟨its, rv, pl, _⟩ := I.tuple hs
    exact fin rfl pl.typeIs (by decide +kernel) g
  | _ => exact absurd g hG
def rB2 (G : Res → Prop) (K : PySem.W.Frag) (f : D → D → (D → Res) → Res) : List V → Hp → VK → Prop := fun xs H Q => ∃ d e x y F F' k, xs = [x, y] ∧ Rp K H d x F ∧ Rp K H e y F' ∧ G (f d e k) ∧ VRes G K k H Q
theorem c_max2 (hG : ¬ G .stuck) (hc : X.calm = true) : CallR X (.builtin "max") (rB2 G X.K dMax2) := by
  intro pins s σ H xs us Q I r h
  obtain ⟨d, e, x, y, F, F', k, rfl, hx, hy, g, q⟩ := h
  cases d with
  | int i =>
    cases e with
    | int j =>
      cases (show x = .int i from hx); cases (show y = .int j from hy)
      exact call_max2 hc pins s σ H _ us Q I r ⟨i, j, rfl, q.here (d := .int _) rfl g⟩
    | _ => exact absurd g hG
  | _ => cases e <;> exact absurd g hG
theorem c_min2 (hG : ¬ G .stuck) (hc : X.calm = true) : CallR X (.builtin "min") (rB2 G X.K dMin2) := by
  intro pins s σ H xs us Q I r h
  obtain ⟨d, e, x, y, F, F', k, rfl, hx, hy, g, q⟩ := h
  cases d with
  | int i =>
    cases e with
    | int j =>
      cases (show x = .int i from hx); cases (show y = .int j from hy)
      exact call_min2 hc pins s σ H _ us Q I r ⟨i, j, rfl, q.here (d := .int _) rfl g⟩
    | _ => exact absurd g hG
  | _ => cases e <;> exact absurd g hG
theorem dvm_c {i j : Int} (h : dvmOk i j = true) : CDivP i j := by
  unfold dvmOk at h
  rw [Bool.and_eq_true, decide_eq_true_eq, decide_eq_true_eq] at h
  refine ⟨h.1, ?_⟩
  unfold Builtin.divisionGoesByPylong
  have hi : (if i == 0 then 0 else i.natAbs.log2 / 30 + 1) ≤ 300 := by
    split <;> omega
  dsimp only
  rw [Bool.and_eq_false_iff]
  by_cases hj : (if j == 0 then 0 else j.natAbs.log2 / 30 + 1) > 300
  · exact .inr (decide_eq_false (by omega))
  · exact .inl (decide_eq_false hj)
theorem c_dvm (hG : ¬ G .stuck) : CallR X (.builtin "divmod") (rB2 G X.K dDvm) := by
  intro pins s σ H xs us Q I r h
  obtain ⟨d, e, x, y, F, F', k, rfl, hx, hy, g, q⟩ := h
  cases d with
  | int i =>
    cases e with
    | int j =>
      cases (show x = .int i from hx); cases (show y = .int j from hy)
      obtain ⟨hb, g⟩ := ckK_of hG g
      exact call_divmodW pins s σ H _ us Q I r ⟨i, j, rfl, dvm_c hb, fun p hp => q.new (d := .tup [.int (i / j), .int (i % j)]) hp (Rp.tup_new hp rfl ⟨_, _, F0, F0, rfl, rfl, ⟨_, _, F0, F0, rfl, rfl, rfl, fun _ z => z, fun _ z => z, fun _ z => z.elim⟩, fun _ z => z, fun _ z => z, fun _ z => z.elim⟩) g⟩
    | _ => exact absurd g hG
  | _ => cases e <;> exact absurd g hG

/-! ### isinstance -/
theorem tyX_of {H : Hp} {d : D} {x : V} {F : Fp} {t : String} (hx : Rp X.K H d x F) (ht : tyD d = some t) : TyX X.K H x (.type t) := by
  cases d with
  | non => cases (show x = .non from hx); cases ht; exact .base .non
  | bl b => cases (show x = .bl b from hx); cases ht; exact .base (.bl b)
  | int i => cases (show x = .int i from hx); cases ht; exact .base (.int i)
  | str z => cases (show x = .str z from hx); cases ht; exact .base (.str z)
  | tup ds =>
    obtain ⟨p, vs, rfl, hs, _, rv⟩ := hx
    cases ht
    rcases hs with (hs | ⟨o, hs⟩) | ⟨o, its, n, hk, hc, _⟩
    · exact .base (.tup hs)
    · exact .fTuple hs
    · exact .kTuple hk hc
  | rol ds =>
    obtain ⟨p, vs, rfl, hs, _, rv⟩ := hx
    cases ht
    rcases hs with ⟨o, hs⟩ | ⟨o, its, n, hk, hc, _⟩
    · exact .base (.frz hs)
    · exact .kList hk hc
  | lst ds =>
    obtain ⟨p, vs, rfl, hs, _, rv⟩ := hx
    cases ht
    exact .base (.lst hs)
  | lck ds =>
    obtain ⟨p, vs, rfl, hs, _, rv⟩ := hx
    cases ht
    exact .base (.lst hs)
  | ty n => cases ht
  | fnv n => cases ht
  | dct ks n => cases ht
theorem tyD_cases {d : D} {t : String} (h : tyD d = some t) : t = "NoneType" ∨ t = "bool" ∨ t = "int" ∨ t = "str" ∨ t = "tuple" ∨ t = "list" := by
  cases d <;> first
    | (cases h; simp)
    | cases h
/-- the built-in classes that isinstance is asked of -/
theorem isiCls_of {c : Str} {n : String} (h : isiCls c = some n) : bootBuiltins c = some (.type n) ∧ (n = "int" ∨ n = "str" ∨ n = "tuple" ∨ n = "list" ∨ n = "bool") := by
  unfold isiCls at h
  by_cases e : c = "int"
  · subst e; rw [if_pos rfl] at h; cases h; exact ⟨by decide +kernel, by simp⟩
  rw [if_neg e] at h
  by_cases e : c = "str"
  · subst e; rw [if_pos rfl] at h; cases h; exact ⟨by decide +kernel, by simp⟩
  rw [if_neg e] at h
  by_cases e : c = "tuple"
  · subst e; rw [if_pos rfl] at h; cases h; exact ⟨by decide +kernel, by simp⟩
  rw [if_neg e] at h
  by_cases e : c = "list"
  · subst e; rw [if_pos rfl] at h; cases h; exact ⟨by decide +kernel, by simp⟩
  rw [if_neg e] at h
  by_cases e : c = "bool"
  · subst e; rw [if_pos rfl] at h; cases h; exact ⟨by decide +kernel, by simp⟩
  rw [if_neg e] at h
  cases h
theorem kit_all {t n : String} (ht : t = "NoneType" ∨ t = "bool" ∨ t = "int" ∨ t = "str" ∨ t = "tuple" ∨ t = "list") (hn : n = "int" ∨ n = "str" ∨ n = "tuple" ∨ n = "list" ∨ n = "bool") :
    kitB t n = some (t == n || (n == "int" && t == "bool")) := by
  rcases ht with rfl | rfl | rfl | rfl | rfl | rfl <;> rcases hn with rfl | rfl | rfl | rfl | rfl <;> decide +kernel
def rIsiD (G : Res → Prop) (K : PySem.W.Frag) (n : String) : List V → Hp → VK → Prop := fun xs H Q => ∃ d x F k, xs = [x, .ty n] ∧ Rp K H d x F ∧ G (dIsi d n k) ∧ VRes G K k H Q
theorem c_isi (hG : ¬ G .stuck) {n : String} (hn : n = "int" ∨ n = "str" ∨ n = "tuple" ∨ n = "list" ∨ n = "bool") : CallR X (.builtin "isinstance") (rIsiD G X.K n) := by
  intro pins s σ H xs us Q I r h
  obtain ⟨d, x, F, k, rfl, hx, g, q⟩ := h
  obtain ⟨t, ht, g⟩ := oK_of hG g
  exact call_isi pins s σ H _ us Q I r ⟨x, .ty n, .type t, .type n, _, rfl, .ty n, tyX_of hx ht, kit_ty (kit_all (tyD_cases ht) hn), q.here (d := .bl _) rfl g⟩

/-! ### methods of a text -/
theorem strs_of {K : PySem.W.Frag} {H : Hp} : ∀ {ds : List D} {vs : List V} {F : Fp} {ys : List Str}, Rps K H ds vs F → strsD ds = some ys → vs = ys.map V.str
  | [], vs, F, ys, h, e => by
    cases e
    exact h
  | .str x :: ds, vs, F, ys, h, e => by
    obtain ⟨v, ws, G1, G2, rfl, h1, h2, _⟩ := h
    rw [strsD] at e
    cases q : strsD ds with
    | none => rw [q] at e; cases e
    | some zs =>
      rw [q] at e
      cases e
      rw [show v = .str x from h1, strs_of h2 q]
      rfl
  | .non :: ds, vs, F, ys, h, e => by cases e
  | .bl _ :: ds, vs, F, ys, h, e => by cases e
  | .int _ :: ds, vs, F, ys, h, e => by cases e
  | .ty _ :: ds, vs, F, ys, h, e => by cases e
  | .tup _ :: ds, vs, F, ys, h, e => by cases e
  | .rol _ :: ds, vs, F, ys, h, e => by cases e
  | .lst _ :: ds, vs, F, ys, h, e => by cases e
  | .lck _ :: ds, vs, F, ys, h, e => by cases e
  | .fnv _ :: ds, vs, F, ys, h, e => by cases e
  | .dct _ _ :: ds, vs, F, ys, h, e => by cases e
/-- arguments that are read (they may be lent) -/
def RpB (K : PySem.W.Frag) (H : Hp) : List D → List V → Prop
  | [], vs => vs = []
  | d :: ds, vs => ∃ v ws F, vs = v :: ws ∧ Rp K H d v F ∧ RpB K H ds ws
theorem asS_of {ds : List D} {y : Str} (h : asS ds = some y) : ds = [.str y] := by
  unfold asS at h
  split at h
  · cases h; rfl
  · cases h
theorem asSII_of {ds : List D} {t : Str × Int × Int} (h : asSII ds = some t) : ds = [.str t.1, .int t.2.1, .int t.2.2] := by
  unfold asSII at h
  split at h
  · cases h; rfl
  · cases h
def rStrM (G : Res → Prop) (K : PySem.W.Frag) (m : Str) : V → List V → Hp → VK → Prop := fun x vs H Q => ∃ z ds k, x = .str z ∧ RpB K H ds vs ∧ G (strM m z ds k) ∧ VRes G K k H Q
theorem m_join (hG : ¬ G .stuck) : MtR X "str.join" (rStrM G X.K "join") := by
  intro pins s σ H x xs v us Q I rx rs h
  obtain ⟨z, ds, k, rfl, hd, g, q⟩ := h
  unfold strM at g
  rw [if_pos rfl] at g
  match ds, hd, g with
  | [], hd, g => exact absurd g hG
  | [d], hd, g =>
    obtain ⟨w, ws, F, rfl, hw, hn⟩ := hd
    cases (show ws = [] from hn)
    have fin : ∀ {es : List D} {p : Addr} {vs : List V} {F : Fp}, w = .ref p → (SqL X.K H p vs ∨ SqT X.K H p vs) → Rps X.K H es vs F →
        G (match strsD es with
          | some ys => ckK (decide ((ys.map (·.length)).sum + ys.length * z.length ≤ szLine)) (k (.str (Txt.join z ys)))
          | none => .stuck) → wpAny (model X.prog X.w) X.A (call (.builtin "str.join") (v :: us)) (EP X pins σ Q) X.xe s := by
      intro es p vs F ew hp rv g
      cases e : strsD es with
      | none => rw [e] at g; exact absurd g hG
      | some ys =>
        rw [e] at g
        obtain ⟨hb, g⟩ := ckK_of hG g
        have ev := strs_of rv e
        subst ev; subst ew
        exact mt_join pins s σ H _ _ v us Q I rx rs ⟨z, p, ys, rfl, rfl, hp, of_decide_eq_true hb, q.here (d := .str (Txt.join z ys)) rfl g⟩
    cases d with
    | tup es =>
      obtain ⟨p, vs, ew, hs, rv⟩ := hw
      exact fin ew (.inr hs) rv.2 g
    | rol es =>
      obtain ⟨p, vs, ew, hs, rv⟩ := hw
      exact fin ew (.inl hs.sq) rv.2 g
    | lst es =>
      obtain ⟨p, vs, ew, hs, _, rv⟩ := hw
      exact fin ew (.inl (SqL.of hs)) rv g
    | lck es =>
      obtain ⟨p, vs, ew, hs, _, rv⟩ := hw
      exact fin ew (.inl (SqL.of hs)) rv g
    | _ => exact absurd g hG
  | _ :: _ :: _, hd, g => exact absurd g hG
theorem m_find (hG : ¬ G .stuck) : MtR X "str.find" (rStrM G X.K "find") := by
  intro pins s σ H x xs v us Q I rx rs h
  obtain ⟨z, ds, k, rfl, hd, g, q⟩ := h
  unfold strM at g
  rw [if_neg (by decide +kernel), if_pos rfl] at g
  obtain ⟨t, e, g⟩ := oK_of hG g
  cases asSII_of e
  obtain ⟨w1, ws1, F1, rfl, h1, w2, ws2, F2, rfl, h2, w3, ws3, F3, rfl, h3, hn⟩ := hd
  cases (show ws3 = [] from hn); cases (show w1 = .str _ from h1); cases (show w2 = .int _ from h2); cases (show w3 = .int _ from h3)
  exact mt_find4 pins s σ H _ _ v us Q I rx rs ⟨z, t.1, t.2.1, t.2.2, rfl, rfl, q.here (d := .int (Txt.findIn z t.1 t.2.1 t.2.2)) rfl g⟩
theorem m_lstrip (hG : ¬ G .stuck) : MtR X "str.lstrip" (rStrM G X.K "lstrip") := by
  intro pins s σ H x xs v us Q I rx rs h
  obtain ⟨z, ds, k, rfl, hd, g, q⟩ := h
  unfold strM at g
  rw [if_neg (by decide +kernel), if_neg (by decide +kernel), if_pos rfl] at g
  obtain ⟨y, e, g⟩ := oK_of hG g
  cases asS_of e
  obtain ⟨w1, ws1, F1, rfl, h1, hn⟩ := hd
  cases (show ws1 = [] from hn); cases (show w1 = .str y from h1)
  obtain ⟨hb, g⟩ := ckK_of hG g
  exact mt_lstripChars pins s σ H _ _ v us Q I rx rs ⟨z, y, rfl, rfl, by rw [← szLine_eq]; exact of_decide_eq_true hb, q.here (d := .str (Txt.lstripChars z y)) rfl g⟩
end
end TI
set_option Elab.async false
set_option linter.all false
set_option maxRecDepth 100000
set_option maxHeartbeats 4000000
/-! the evaluator against the model: what is wanted of each part, and the parts of expressions -/
namespace TI
open PySem PySem.Spec PyProof.Rows L2

theorem PE.imp {X : Cx} {e : Expr} {t t' : TE} (h : PE X e t) (w : ∀ σ H Q, t' σ H Q → t σ H Q) : PE X e t' := ⟨fun pins s σ H Q I q => h.run pins s σ H Q I (w σ H Q q)⟩
theorem PT.imp {X : Cx} {e : Expr} {t t' : TT} (h : PT X e t) (w : ∀ σ H Q, t' σ H Q → t σ H Q) : PT X e t' := ⟨fun pins s σ H Q I q => h.run pins s σ H Q I (w σ H Q q)⟩
theorem PW.imp {X : Cx} {e : Expr} {t t' : TT} (h : PW X e t) (w : ∀ σ H Q, t' σ H Q → t σ H Q) : PW X e t' := ⟨fun wh pins s σ H Q I q => h.run wh pins s σ H Q I (w σ H Q q)⟩
theorem PA.imp {X : Cx} {e : List Expr} {t t' : TA} (h : PA X e t) (w : ∀ σ H Q, t' σ H Q → t σ H Q) : PA X e t' := ⟨fun pos pins s σ H Q I q => h.run pos pins s σ H Q I (w σ H Q q)⟩
theorem PS.imp {X : Cx} {e : Stmt} {t t' : TS} (h : PS X e t) (w : ∀ D σ H, t' D σ H → t D σ H) : PS X e t' := ⟨fun pins s σ H D I q => h.run pins s σ H D I (w D σ H q)⟩
theorem PSs.imp {X : Cx} {e : List Stmt} {t t' : TS} (h : PSs X e t) (w : ∀ D σ H, t' D σ H → t D σ H) : PSs X e t' := ⟨fun pins s σ H D I q => h.run pins s σ H D I (w D σ H q)⟩
theorem PG.imp {X : Cx} {e : Expr} {t t' : TG} (h : PG X e t) (w : ∀ v σ H Q, t' v σ H Q → t v σ H Q) : PG X e t' := ⟨fun pins s σ H v u Q I r q => h.run pins s σ H v u Q I r (w v σ H Q q)⟩

abbrev Er := Str → List (Str × D) → Value → Option Addr → Hp → Prop
/-- how a result of a def is right -/
def RGood (K : PySem.W.Frag) (er : Er) (F : Fp) (H : Hp) (vs : List V) (r : Res) (Q : VK) (E : XK) : Prop := match r with
  | .ret d fin => ∀ v H' Fv Ff, Keep F H H' → Fr F H Fv → Fr F H Ff → Dis Ff Fv → Rp K H' d v Fv → Ens K H' fin (vs.map some) Ff → Q v H'
  | .exc c fs => ∀ cls dx H', Keep F H H' → er c fs cls dx H' → E cls dx H'
  | .stuck => False
def SpD (K : PySem.W.Frag) (er : Er) (np : Nat) (g : List D → Res) : Sp := fun vs H Q E => vs.length = np ∧ ∃ ds F, Rps K H ds vs F ∧ RGood K er F H vs (g ds) Q E

/-- the promise of an own exception's __init__ that lays its parameters into fields -/
def spI (Ca : Addr) (ps : List Str) : Sp := fun us H Q _ => ∃ (a : Addr) (ws : List V), us = .ref a :: ws ∧ ws.length = ps.length ∧ H a = some (exo a Ca none) ∧
  ∀ (d : Addr) (fs : List (Str × V)) (H' : Hp), H d = none → d ≠ a → H' a = some (exo a Ca (some d)) → H' d = some (exd d fs) → (∀ f, fs.lookup f = (ps.zip ws).lookup f) → (∀ b, b ≠ a → b ≠ d → H' b = H b) → Q .non H'
/-- an own exception class -/
structure ExcX (X : Cx) (x : Str) (ps : List Str) (er : Er) (EX : XK) : Prop where
  ex : ∃ (Ca fI : Addr) (fd : FuncData) (k : Nat), OexC X.K Ca ∧ PySem.W.findIn X.K (.ref Ca) "__init__" = some (some (.ref fI)) ∧ PySem.W.typeIn X.K (.ref fI) = some (.type "function") ∧ FnOk X.prog X.w X.K X.mg X.base CX0 k fI fd ("self" :: ps) (spI Ca ps) ∧ Room (k + 1) X.A ∧
    Binds X.K fd ("self" :: ps) [] ∧ X.mg x = some (.ref Ca) ∧ ∀ (ds : List D) (vs : List V) (d : Addr) (fs : List (Str × V)) (H : Hp), ds.length = ps.length → D.pus ds = true → Rps X.K H ds vs F0 → H d = some (.xd fs) → (∀ f, fs.lookup f = (ps.zip vs).lookup f) → er x (ps.zip ds) (.ref Ca) (some d) H
  tk : Takes X fun cls d _ H => EX cls d H
/-- what of the context is asked -/
structure Cok (X : Cx) (C : Cd) (sc : Scope) (cx : CXT) (er : Er) (EX : XK) : Prop where
  hN : X.N = C.N
  nd : X.N.Nodup
  hsc : X.env.scope = sc
  calm : X.calm = true
  own : ∀ x, C.own x = true → locl sc x = true → X.fn x = true ∨ X.env.scope.names.lookup x = some .local
  bi : ∀ x, C.glo x = .bi → X.mg x = none
  con : ∀ x d, C.glo x = .con d → d.pu = true ∧ ∃ u v, X.mg x = some u ∧ RelV v u ∧ ∀ H, Rp X.K H d v F0
  kd : ∀ x kvs, C.glo x = .kd kvs → ∃ a es n, X.mg x = some (.ref a) ∧ KDict X.K X.w a es n ∧ ∀ z, ∃ r, PySem.W.nsIn X.K a z = some r ∧ (match kvs.lookup z with
    | none => r = none
    | some d => d.pu = true ∧ ∃ u v, r = some u ∧ RelV v u ∧ ∀ H, Rp X.K H d v F0)
  fn : ∀ x n, C.glo x = .fn n → ∃ (f : Addr) (k : Nat) (fd : FuncData) (ps : List Str), ps.length = n ∧ FnOk X.prog X.w X.K X.mg X.base cx k f fd ps (SpD X.K er n (C.call x)) ∧ Room k X.A ∧ X.mg x = some (.ref f) ∧ PySem.W.keepIn X.K (.ref f) = true ∧ Binds X.K fd ps []
  pas : PassesOwn (model X.prog X.w) X.A X.env X.xe
  thr : Passes cx X EX
  cxn : ∀ st H s e s', cx st H s (fun _ _ _ => False) e s' → False
  room : X.A.units + 65 < cLine
  lim : LimOk X.K C.lim
  cls : ∀ x ps, C.glo x = .cls ps → ExcX X x ps er EX
/-- the context with what is wanted at the end -/
structure Okx (X : Cx) (C : Cd) (sc : Scope) (cx : CXT) (er : Er) (EX : XK) (G : Res → Prop) (A0 : Fp) (H0 : Hp) : Prop extends Cok X C sc cx er EX where
  hG : ¬ G .stuck
  xco : ∀ c fs ρ, G (C.xc c fs ρ) → ∀ cls dx H', Keep A0 H0 H' → er c fs cls dx H' → EX cls dx H'

/-- nothing becomes written that was not -/
def Imp (ρ ρ' : Env) : Prop := ∀ (i : Nat) d', ρ'[i]? = some (some d') → d'.pu = false → ∃ d, ρ[i]? = some (some d) ∧ d.pu = false
theorem Imp.refl (ρ : Env) : Imp ρ ρ := fun i d h p => ⟨d, h, p⟩
theorem Imp.trans {a b c : Env} (h : Imp a b) (g : Imp b c) : Imp a c := fun i d e p => by
  obtain ⟨d1, e1, p1⟩ := g i d e p
  exact h i d1 e1 p1
/-- from (F, H, ρ) on to (F', H', ρ'), the slots' addresses being σ -/
structure Ch (K : PySem.W.Frag) (σ : L2.St) (F : Fp) (H : Hp) (ρ : Env) (F' : Fp) (H' : Hp) (ρ' : Env) : Prop where
  kp : Keep F H H'
  im : Imp ρ ρ'
  fr : Fr F H F'
  en : Ens K H' ρ' σ F'
  tr : ∀ a, F' a → H' a ≠ none
/-- a value that stands apart from the slots -/
structure OwnV (K : PySem.W.Frag) (F : Fp) (H : Hp) (Fe : Fp) (d : D) (v : V) (H' : Hp) (Fv : Fp) : Prop where
  fr : Fr F H Fv
  dj : Dis Fe Fv
  rp : Rp K H' d v Fv
  tr : ∀ a, Fv a → H' a ≠ none
section
variable {K : PySem.W.Frag} {σ : L2.St} {F F1 F2 F3 : Fp} {H H1 H2 H3 : Hp} {ρ ρ1 ρ2 : Env} {d : D} {v : V}
theorem Ch.refl (en : Ens K H ρ σ F) : Ch K σ F H ρ (fun a => F a ∧ H a ≠ none) H ρ :=
  ⟨Keep.refl _ _, Imp.refl _, fun _ h => .inl h.1, Ens.trim _ _ _ en, fun _ h => h.2⟩
theorem Ch.trans (a : Ch K σ F H ρ F1 H1 ρ1) (b : Ch K σ F1 H1 ρ1 F2 H2 ρ2) : Ch K σ F H ρ F2 H2 ρ2 :=
  ⟨a.kp.trans b.kp a.fr, a.im.trans b.im, a.fr.trans a.kp b.fr, b.en, b.tr⟩
/-- the heap grows, nothing is written -/
theorem Ch.grow (a : Ch K σ F H ρ F1 H1 ρ1) (k : Keep F0 H1 H2) : Ch K σ F H ρ F1 H2 ρ1 :=
  ⟨a.kp.trans (k.mono fun _ z => z.elim) a.fr, a.im, a.fr, Ens.stay k _ _ _ (fun _ _ z => z) a.en, fun x h e => a.tr x h (k.g x e)⟩
theorem OwnV.of (fr : Fr F H F2) (dj : Dis F1 F2) (rp : Rp K H1 d v F2) : OwnV K F H F1 d v H1 (fun a => F2 a ∧ H1 a ≠ none) :=
  ⟨fun x h => fr x h.1, fun x h g => dj x h g.1, Rp.trim _ _ _ rp, fun _ h => h.2⟩
theorem OwnV.pure {Fx : Fp} (rp : Rp K H1 d v Fx) (p : d.pu = true) : OwnV K F H F1 d v H1 F0 :=
  ⟨fun _ h => h.elim, fun _ _ h => h, Rp.pure _ _ _ p rp, fun _ h => h.elim⟩
/-- a value kept while the next part runs -/
theorem OwnV.held (o : OwnV K F H F1 d v H1 F3) (c : Ch K σ F1 H1 ρ1 F2 H2 ρ2) : OwnV K F H F2 d v H2 F3 :=
  ⟨o.fr, fun a h g => (c.fr a h).elim (fun z => o.dj a z g) fun z => o.tr a g z, Rp.stay c.kp _ _ _ (fun a h g => o.dj a g h) o.rp, fun a h e => o.tr a h (c.kp.g a e)⟩
theorem OwnV.grow (o : OwnV K F H F1 d v H1 F3) (k : Keep F0 H1 H2) : OwnV K F H F1 d v H2 F3 :=
  ⟨o.fr, o.dj, Rp.stay k _ _ _ (fun _ _ z => z) o.rp, fun a h e => o.tr a h (k.g a e)⟩
/-- a new value behind a chain -/
theorem Ch.val (a : Ch K σ F H ρ F1 H1 ρ1) (k : Keep F0 H1 H2) (fr : Fr F0 H1 F2) (rp : Rp K H2 d v F2) : OwnV K F H F1 d v H2 (fun a => F2 a ∧ H2 a ≠ none) :=
  OwnV.of (fun x h => (fr x h).elim (fun z => z.elim) fun z => .inr (a.kp.g x z)) (fun x h g => (fr x g).elim (fun z => z) fun z => a.tr x h z) rp
/-- the start, seen from afar -/
theorem Ch.keep {A0 : Fp} {H0 : Hp} (a : Ch K σ F H ρ F1 H1 ρ1) (k : Keep A0 H0 H) (f : Fr A0 H0 F) : Keep A0 H0 H1 := k.trans a.kp f
theorem Ch.from {A0 : Fp} {H0 : Hp} (a : Ch K σ F H ρ F1 H1 ρ1) (k : Keep A0 H0 H) (f : Fr A0 H0 F) : Fr A0 H0 F1 := f.trans k a.fr
end

/-- a value's two ways: it is lent by the slots, or stands apart -/
def Val2 (K : PySem.W.Frag) (pth : Bool) (F : Fp) (H : Hp) (Fe : Fp) (d : D) (v : V) (H' : Hp) : Prop := (pth = true ∧ Rp K H' d v Fe) ∨ ∃ Fv, OwnV K F H Fe d v H' Fv
theorem Val2.any {K : PySem.W.Frag} {pth : Bool} {F Fe : Fp} {H H' : Hp} {d : D} {v : V} (h : Val2 K pth F H Fe d v H') : ∃ F', Rp K H' d v F' := by
  rcases h with ⟨_, h⟩ | ⟨Fv, h⟩
  · exact ⟨_, h⟩
  · exact ⟨_, h.rp⟩
theorem Val2.own {K : PySem.W.Frag} {pth : Bool} {F Fe : Fp} {H H' : Hp} {d : D} {v : V} (h : Val2 K pth F H Fe d v H') (p : pth = true → d.pu = true) : ∃ Fv, OwnV K F H Fe d v H' Fv := by
  rcases h with ⟨e, h⟩ | h
  · exact ⟨F0, OwnV.pure h (p e)⟩
  · exact h
abbrev Ek := Env → (D → Env → Res) → Res
def RdE (K : PySem.W.Frag) (G : Res → Prop) (A0 : Fp) (H0 : Hp) (pth cal : Bool) (f : Ek) : TE := fun σ H Q => ∃ ρ k F, Keep A0 H0 H ∧ Fr A0 H0 F ∧ Ens K H ρ σ F ∧ G (f ρ k) ∧
  ∀ d ρ' v H' Fe, Ch K σ F H ρ Fe H' ρ' → Val2 K pth F H Fe d v H' → (cal = true → H' = H ∧ ρ' = ρ) → G (k d ρ') → Q v H'
def RdT (K : PySem.W.Frag) (G : Res → Prop) (A0 : Fp) (H0 : Hp) (f : Env → (Bool → Env → Res) → Res) : TT := fun σ H Q => ∃ ρ k F, Keep A0 H0 H ∧ Fr A0 H0 F ∧ Ens K H ρ σ F ∧ G (f ρ k) ∧
  ∀ b ρ' H' Fe, Ch K σ F H ρ Fe H' ρ' → G (k b ρ') → Q b H'
/-- arguments: names' slots, values that stand apart, a last one that is lent -/
def ArgR (K : PySem.W.Frag) (H : Hp) (σ : L2.St) : List Arg → List V → Fp → Prop
  | [], vs, _ => vs = []
  | .nm i :: as, vs, F => ∃ v ws, vs = v :: ws ∧ σ[i]? = some (some v) ∧ ArgR K H σ as ws F
  | .own d :: as, vs, F => ∃ v ws G1 G2, vs = v :: ws ∧ Rp K H d v G1 ∧ ArgR K H σ as ws G2 ∧ (∀ a, G1 a → F a) ∧ (∀ a, G2 a → F a) ∧ Dis G1 G2
  | .bor d :: as, vs, F => ∃ v ws F', vs = v :: ws ∧ Rp K H d v F' ∧ ArgR K H σ as ws F
def RdA (K : PySem.W.Frag) (G : Res → Prop) (A0 : Fp) (H0 : Hp) (f : Env → (List Arg → Env → Res) → Res) : TA := fun σ H Q => ∃ ρ k F, Keep A0 H0 H ∧ Fr A0 H0 F ∧ Ens K H ρ σ F ∧ G (f ρ k) ∧
  ∀ as ρ' vs H' Fe Fv, Ch K σ F H ρ Fe H' ρ' → Fr F H Fv → Dis Fe Fv → (∀ a, Fv a → H' a ≠ none) → ArgR K H' σ as vs Fv → G (k as ρ') → Q vs H'
/-- an own parameter's object is at its place -/
def Par (np : Nat) (vs : List V) (σ : L2.St) (ρ : Env) : Prop := ∀ (i : Nat) d, i < np → ρ[i]? = some (some d) → d.pu = false → ∃ v, vs[i]? = some v ∧ σ[i]? = some (some v)
theorem Par.imp {np : Nat} {vs : List V} {σ : L2.St} {ρ ρ' : Env} (h : Par np vs σ ρ) (i : Imp ρ ρ') : Par np vs σ ρ' := fun j d hj e p => by
  obtain ⟨d0, e0, p0⟩ := i j d e p
  exact h j d0 hj e0 p0
/-- stores go to the slots of own names -/
def Sl (C : Cd) (sc : Scope) (σ σ' : L2.St) : Prop := σ'.length = σ.length ∧ ∀ j, σ'[j]? ≠ σ[j]? → ∃ x, C.own x = true ∧ locl sc x = true ∧ slotOf C sc x = some j
def RdG (K : PySem.W.Frag) (G : Res → Prop) (C : Cd) (sc : Scope) (f : D → Env → (Env → Res) → Res) : TG := fun v σ H Q => ∃ ρ k F d Fv, Ens K H ρ σ F ∧ Rp K H d v Fv ∧ Dis F Fv ∧ G (f d ρ k) ∧
  ∀ ρ' σ' F', (∀ a, F' a → F a ∨ Fv a) → Ens K H ρ' σ' F' → Sl C sc σ σ' → (d.pu = true → Imp ρ ρ') → (∀ vs, Par C.np vs σ ρ → Par C.np vs σ' ρ') → G (k ρ') → Q σ' H
structure NxOk (K : PySem.W.Frag) (G : Res → Prop) (np : Nat) (vs : List V) (F : Fp) (H : Hp) (E : Nx) (D : Ends) : Prop where
  nx : ∀ ρ' σ' H' F', Keep F H H' → Fr F H F' → Ens K H' ρ' σ' F' → Par np vs σ' ρ' → G (E.nx ρ') → D.nx σ' H'
  bk : ∀ ρ' σ' H' F', Keep F H H' → Fr F H F' → Ens K H' ρ' σ' F' → Par np vs σ' ρ' → G (E.bk ρ') → D.bk σ' H'
  ct : ∀ ρ' σ' H' F', Keep F H H' → Fr F H F' → Ens K H' ρ' σ' F' → Par np vs σ' ρ' → G (E.ct ρ') → D.ct σ' H'
  rt : ∀ d ρ' σ' v H' F' Fv, Keep F H H' → Fr F H F' → Fr F H Fv → Dis F' Fv → Ens K H' ρ' σ' F' → Par np vs σ' ρ' → Rp K H' d v Fv → G (E.rt d ρ') → D.rt v H'
def RdS (K : PySem.W.Frag) (G : Res → Prop) (A0 : Fp) (H0 : Hp) (np : Nat) (vs : List V) (f : Env → Nx → Res) : TS := fun D σ H => ∃ ρ E F, Keep A0 H0 H ∧ Fr A0 H0 F ∧ Ens K H ρ σ F ∧ Par np vs σ ρ ∧ G (f ρ E) ∧ NxOk K G np vs F H E D

/-- the parts are right -/
structure Snd (R : Fns) : Prop where
  E : ∀ {X C sc cx er EX G A0 H0}, Okx X C sc cx er EX G A0 H0 → ∀ e, PE X e (RdE X.K G A0 H0 (isPath e) (isCalm e) (R.E C sc e))
  T : ∀ {X C sc cx er EX G A0 H0}, Okx X C sc cx er EX G A0 H0 → ∀ e, PT X e (RdT X.K G A0 H0 (R.T C sc e))
  W : ∀ {X C sc cx er EX G A0 H0}, Okx X C sc cx er EX G A0 H0 → ∀ op vs p, PW X (.BoolOp op vs p) (RdT X.K G A0 H0 (R.T C sc (.BoolOp op vs p)))
  A : ∀ {X C sc cx er EX G A0 H0}, Okx X C sc cx er EX G A0 H0 → ∀ es, PA X es (RdA X.K G A0 H0 (R.A C sc es))
  P : ∀ {X C sc cx er EX G A0 H0}, Okx X C sc cx er EX G A0 H0 → ∀ e, PET X e (RdE X.K G A0 H0 (isPath e) (isCalm e) (R.P C sc e))
  G : ∀ {X C sc cx er EX G A0 H0}, Okx X C sc cx er EX G A0 H0 → ∀ e, PG X e (RdG X.K G C sc (R.G C sc e))
  S : ∀ {X C sc cx er EX G A0 H0}, Okx X C sc cx er EX G A0 H0 → ∀ vs ss, PSs X ss (RdS X.K G A0 H0 C.np vs (R.S C sc ss))

/-! ### small matters -/
theorem okName_of {x : Str} (h : okName x = true) : (x == ("__debug__" : Str)) = false ∧ (x == ("__classdict__" : Str)) = false ∧ x ≠ "__name__" := by
  unfold okName at h
  rw [Bool.and_eq_true, Bool.and_eq_true, Bool.not_eq_true', Bool.not_eq_true', Bool.not_eq_true'] at h
  exact ⟨h.1.1, h.1.2, fun e => by rw [e] at h; exact absurd h.2 (by simp)⟩
theorem ixOf_get : ∀ {l : List Str} {x : Str} {i : Nat}, ixOf l x = some i → l[i]? = some x
  | [], x, i, h => by cases h
  | y :: l, x, i, h => by
    unfold ixOf at h
    by_cases e : y = x
    · rw [if_pos e] at h; cases h; rw [e]; rfl
    · rw [if_neg e] at h
      cases q : ixOf l x with
      | none => rw [q] at h; cases h
      | some j =>
        rw [q] at h; cases h
        show l[j]? = some x
        exact ixOf_get (l := l) q
theorem slotOf_of {C : Cd} {sc : Scope} {x : Str} {i : Nat} (h : slotOf C sc x = some i) : C.N[i]? = some x ∧ (sc.names.lookup x = some .local ∨ sc.names.lookup x = some .cell ∨ sc.names.lookup x = some .free) ∧ okName x = true := by
  unfold slotOf at h
  by_cases e : (vis sc x && okName x) = true
  · rw [if_pos e] at h
    rw [Bool.and_eq_true] at e
    refine ⟨ixOf_get h, ?_, e.2⟩
    have := e.1
    unfold vis at this
    split at this
    · exact .inl (by assumption)
    · exact .inr (.inl (by assumption))
    · exact .inr (.inr (by assumption))
    · cases this
  · rw [if_neg e] at h; cases h
theorem locl_of {sc : Scope} {x : Str} (h : locl sc x = true) : sc.names.lookup x = some .local ∨ sc.names.lookup x = some .cell := by
  unfold locl at h
  split at h
  · exact .inl (by assumption)
  · exact .inr (by assumption)
  · cases h
theorem globOf_of {C : Cd} {sc : Scope} {x : Str} {g : Glo} (h : globOf C sc x = g) (hg : g ≠ .no) : sc.names.lookup x = some .globalImplicit ∧ okName x = true ∧ C.glo x = g := by
  unfold globOf at h
  split at h
  · by_cases e : okName x = true
    · rw [if_pos e] at h
      exact ⟨by assumption, e, h⟩
    · rw [if_neg e] at h
      exact absurd h.symm hg
  · exact absurd h.symm hg
theorem isBi_of {C : Cd} {sc : Scope} {x : Str} (h : isBi C sc x = true) : sc.names.lookup x = some .globalImplicit ∧ okName x = true ∧ C.glo x = .bi := by
  unfold isBi at h
  split at h
  · exact globOf_of (by assumption) (fun z => nomatch z)
  · cases h
theorem isFn_of {C : Cd} {sc : Scope} {x : Str} {n : Nat} (h : isFn C sc x = some n) : sc.names.lookup x = some .globalImplicit ∧ okName x = true ∧ C.glo x = .fn n := by
  unfold isFn at h
  split at h
  · cases h
    exact globOf_of (by assumption) (fun z => nomatch z)
  · cases h
section
variable {X : Cx} {C : Cd} {sc : Scope} {cx : CXT} {er : Er} {EX : XK} {G : Res → Prop} {A0 : Fp} {H0 : Hp}
theorem Cok.visx (o : Cok X C sc cx er EX) {x : Str} {i : Nat} (h : slotOf C sc x = some i) : X.N[i]? = some x ∧ Vis X.env.scope x ∧ (x == ("__debug__" : Str)) = false ∧ (x == ("__classdict__" : Str)) = false := by
  obtain ⟨h1, h2, h3⟩ := slotOf_of h
  obtain ⟨n1, n2, _⟩ := okName_of h3
  refine ⟨by rw [o.hN]; exact h1, by rw [o.hsc]; exact h2, n1, n2⟩
theorem Cok.glx (o : Cok X C sc cx er EX) {x : Str} (h : sc.names.lookup x = some .globalImplicit) : Gl X x := by
  show X.env.scope.names.lookup x = _
  rw [o.hsc]; exact h
theorem Val2.hold {K : PySem.W.Frag} {hG : ¬ G .stuck} {σ : L2.St} {F Fe : Fp} {H H1 : Hp} {ρ1 : Env} {d : D} {v : V} {e1 e2 : Expr} {r : Res} (h : Val2 K (isPath e1) F H Fe d v H1) (g : G (holdK e1 d e2 r)) :
    G r ∧ ((∃ Fv, OwnV K F H Fe d v H1 Fv) ∨ (isCalm e2 = true ∧ ∃ F', Rp K H1 d v F')) := by
  unfold holdK at g
  by_cases e : (isPath e1 && !isCalm e2) = true
  · rw [if_pos e] at g
    obtain ⟨p, g⟩ := puK_of hG g
    exact ⟨g, .inl (h.own fun _ => p)⟩
  · rw [if_neg e] at g
    refine ⟨g, ?_⟩
    rcases h with ⟨z, h⟩ | h
    · cases hc : isCalm e2 with
      | true => exact .inr ⟨rfl, _, h⟩
      | false => rw [z, hc] at e; exact absurd rfl e
    · exact .inl h
/-- what was kept is still what it was -/
theorem kept2 {K : PySem.W.Frag} {σ : L2.St} {F Fe Fe2 : Fp} {H H1 H2 : Hp} {ρ1 ρ2 : Env} {d : D} {v : V} {cal : Bool} (h : (∃ Fv, OwnV K F H Fe d v H1 Fv) ∨ (cal = true ∧ ∃ F', Rp K H1 d v F'))
    (c : Ch K σ Fe H1 ρ1 Fe2 H2 ρ2) (hc : cal = true → H2 = H1 ∧ ρ2 = ρ1) : ∃ F', Rp K H2 d v F' := by
  rcases h with ⟨Fv, h⟩ | ⟨z, F', h⟩
  · exact ⟨_, (h.held c).rp⟩
  · rw [(hc z).1]; exact ⟨F', h⟩
/-- a value's end -/
theorem vend {K : PySem.W.Frag} {σ : L2.St} {F F2 : Fp} {H H2 : Hp} {ρ ρ2 : Env} {k : D → Env → Res} {Q : VK}
    (c : Ch K σ F H ρ F2 H2 ρ2) (q : ∀ d ρ' v H' Fe, Ch K σ F H ρ Fe H' ρ' → Val2 K false F H Fe d v H' → (false = true → H' = H ∧ ρ' = ρ) → G (k d ρ') → Q v H') : VRes G K (fun d => k d ρ2) H2 Q :=
  fun d v H3 Fv kp fr rp g => q d ρ2 v H3 F2 (c.grow kp) (.inr ⟨_, c.val kp fr rp⟩) (fun z => nomatch z) g
variable {R : Fns} (S : Snd R) (o : Okx X C sc cx er EX G A0 H0)
include S o

/-! ### names, constants -/
omit S in
theorem e_name (x : Str) (p : Pos) : PE X (.Name x p) (RdE X.K G A0 H0 true true (nameE C sc x)) := by
  cases hs : slotOf C sc x with
  | some i =>
    obtain ⟨h1, h2, h3, h4⟩ := o.toCok.visx hs
    refine PE.imp (pe_var (i := i) h1 h2 h3 h4) fun σ H Q ⟨ρ, k, F, k0, f0, en, g, q⟩ => ?_
    unfold nameE at g
    rw [hs] at g
    obtain ⟨d, hd, g⟩ := getK_of o.hG g
    have c := Ch.refl en
    obtain ⟨v, hv, r⟩ := Ens.get _ _ _ _ _ c.en hd
    exact ⟨v, hv, q d ρ v H _ c (.inl ⟨rfl, r⟩) (fun _ => ⟨rfl, rfl⟩) g⟩
  | none =>
    cases hg : globOf C sc x with
    | con d =>
      obtain ⟨g1, g2, g3⟩ := globOf_of hg (fun z => nomatch z)
      obtain ⟨n1, n2, n3⟩ := okName_of g2
      obtain ⟨pu, u, v, hm, rv, rp⟩ := o.con x d g3
      refine PE.imp (pe_glob (o.toCok.glx g1) hm rv n1) fun σ H Q ⟨ρ, k, F, k0, f0, en, g, q⟩ => ?_
      unfold nameE at g
      rw [hs, hg] at g
      exact q d ρ v H _ (Ch.refl en) (.inr ⟨_, OwnV.pure (rp H) pu⟩) (fun _ => ⟨rfl, rfl⟩) g
    | bi =>
      cases hi : isiCls x with
      | none =>
        refine ⟨fun pins s σ H Q I ⟨ρ, k, F, k0, f0, en, g, q⟩ => ?_⟩
        unfold nameE at g
        rw [hs, hg, hi] at g
        exact absurd g o.hG
      | some n =>
        obtain ⟨b1, b2⟩ := isiCls_of hi
        obtain ⟨g1, g2, g3⟩ := globOf_of hg (fun z => nomatch z)
        obtain ⟨n1, n2, n3⟩ := okName_of g2
        refine PE.imp (pe_bltn (v := .ty n) (o.toCok.glx g1) (o.bi _ g3) b1 rfl n3 n1) fun σ H Q ⟨ρ, k, F, k0, f0, en, g, q⟩ => ?_
        unfold nameE at g
        rw [hs, hg, hi] at g
        exact q (.ty n) ρ (.ty n) H _ (Ch.refl en) (.inr ⟨F0, OwnV.pure (Fx := F0) rfl rfl⟩) (fun _ => ⟨rfl, rfl⟩) g
    | _ =>
      refine ⟨fun pins s σ H Q I ⟨ρ, k, F, k0, f0, en, g, q⟩ => ?_⟩
      unfold nameE at g
      rw [hs, hg] at g
      exact absurd g o.hG
omit S in
theorem e_const (c : Const) (j : Nat) (p : Pos) : PE X (.Constant c j p) (RdE X.K G A0 H0 false true (fun ρ k => constE c fun d => k d ρ)) := by
  have fin : ∀ {σ : L2.St} {H : Hp} {Q : VK} {d : D} {v : V}, (∀ H, Rp X.K H d v F0) → RdE X.K G A0 H0 false true (fun ρ k => k d ρ) σ H Q → Q v H := fun {σ H Q d v} r ⟨ρ, k, F, k0, f0, en, g, q⟩ =>
    q d ρ v H _ (Ch.refl en) (.inr ⟨F0, fun _ h => h.elim, fun _ _ h => h, r H, fun _ h => h.elim⟩) (fun _ => ⟨rfl, rfl⟩) g
  cases c with
  | int i => exact PE.imp pe_int fun σ H Q h => fin (d := .int i) (fun _ => rfl) h
  | bool i => exact PE.imp pe_bl fun σ H Q h => fin (d := .bl i) (fun _ => rfl) h
  | none => exact PE.imp pe_non fun σ H Q h => fin (d := .non) (fun _ => rfl) h
  | str i => exact PE.imp pe_str fun σ H Q h => fin (d := .str i) (fun _ => rfl) h
  | _ => exact ⟨fun pins s σ H Q I ⟨ρ, k, F, k0, f0, en, g, q⟩ => absurd g o.hG⟩
omit S in
theorem e_stuck {e : Expr} {pth cal : Bool} : PE X e (RdE X.K G A0 H0 pth cal (fun _ _ => .stuck)) := ⟨fun pins s σ H Q I ⟨ρ, k, F, k0, f0, en, g, q⟩ => absurd g o.hG⟩

/-! ### operators -/
theorem e_binop (a b : Expr) (op : Operator) (p : Pos) :
    PE X (.BinOp a op b p) (RdE X.K G A0 H0 false false (fun ρ k => R.E C sc a ρ fun x ρ1 => holdK a x b (R.E C sc b ρ1 fun y ρ2 => binD op x y fun z => k z ρ2))) := by
  refine PE.imp (pe_op (op_binD o.hG op) (S.E o a) (S.E o b)) fun σ H Q ⟨ρ, k, F, k0, f0, en, g, q⟩ => ?_
  refine ⟨ρ, _, F, k0, f0, en, g, fun d ρ1 v H1 Fe c1 v1 _ g1 => ?_⟩
  obtain ⟨g1, hh⟩ := Val2.hold (hG := o.hG) (σ := σ) (ρ1 := ρ1) v1 g1
  refine ⟨ρ1, _, Fe, c1.keep k0 f0, c1.from k0 f0, c1.en, g1, fun d2 ρ2 v2 H2 Fe2 c2 v2' cal2 g2 => ?_⟩
  obtain ⟨Fx, hx⟩ := kept2 hh c2 cal2
  obtain ⟨Fy, hy⟩ := v2'.any
  exact ⟨d, d2, Fx, Fy, _, hx, hy, g2, vend (c1.trans c2) q⟩
theorem e_neg (a : Expr) (p : Pos) : PE X (.UnaryOp .USub a p) (RdE X.K G A0 H0 false false (fun ρ k => R.E C sc a ρ fun x ρ1 => dNeg x fun z => k z ρ1)) := by
  refine PE.imp (pe_un (un_negD o.hG) (S.E o a)) fun σ H Q ⟨ρ, k, F, k0, f0, en, g, q⟩ => ?_
  refine ⟨ρ, _, F, k0, f0, en, g, fun d ρ1 v H1 Fe c1 v1 _ g1 => ?_⟩
  obtain ⟨Fx, hx⟩ := v1.any
  exact ⟨d, Fx, _, hx, g1, vend c1 q⟩
end
end TI
set_option Elab.async false
set_option linter.all false
set_option maxRecDepth 100000
set_option maxHeartbeats 4000000
/-! arguments, displays, calls -/
namespace TI
open PySem PySem.Spec PyProof.Rows L2

theorem star_cons {e : Expr} {es : List Expr} (h : noStar (e :: es) = true) (env : PySem.Env) : starEach (e :: es) env = (false, eval e env) :: starEach es env ∧ noStar es = true := by
  cases e <;> first
    | exact ⟨rfl, h⟩
    | cases h
theorem star_any : ∀ {es : List Expr} (h : noStar es = true) (pos : Pos) (env : PySem.Env), (backTo pos (starEach es env)).any (·.1) = false
  | [], _, _, _ => rfl
  | e :: es, h, pos, env => by
    obtain ⟨h1, h2⟩ := star_cons h env
    rw [h1]
    show (false || (backTo pos (starEach es env)).any (·.1)) = false
    rw [star_any h2 pos env]
    rfl
theorem star_all : ∀ {es : List Expr} (h : noStar es = true) (pos : Pos) (env : PySem.Env), (backTo pos (starEach es env)).all (fun x => !x.1) = true
  | [], _, _, _ => rfl
  | e :: es, h, pos, env => by
    obtain ⟨h1, h2⟩ := star_cons h env
    rw [h1]
    show (true && (backTo pos (starEach es env)).all (fun x => !x.1)) = true
    rw [star_all h2 pos env]
    rfl
section
variable {K : PySem.W.Frag} {H H' : Hp} {σ : L2.St} {G : Res → Prop}
theorem ArgR.length : ∀ {as : List Arg} {vs : List V} {F : Fp}, ArgR K H σ as vs F → vs.length = as.length
  | [], vs, F, h => by rw [show vs = [] from h]; rfl
  | .nm i :: as, vs, F, h => by
    obtain ⟨v, ws, rfl, _, h⟩ := h
    rw [List.length_cons, List.length_cons, ArgR.length h]
  | .own d :: as, vs, F, h => by
    obtain ⟨v, ws, G1, G2, rfl, _, h, _⟩ := h
    rw [List.length_cons, List.length_cons, ArgR.length h]
  | .bor d :: as, vs, F, h => by
    obtain ⟨v, ws, F', rfl, _, h⟩ := h
    rw [List.length_cons, List.length_cons, ArgR.length h]
theorem ArgR.mono : ∀ {as : List Arg} {vs : List V} {F F' : Fp}, ArgR K H σ as vs F → (∀ a, F a → F' a) → ArgR K H σ as vs F'
  | [], vs, F, _, h, _ => h
  | .nm i :: as, vs, F, _, h, s => by
    obtain ⟨v, ws, e, hv, h⟩ := h
    exact ⟨v, ws, e, hv, h.mono s⟩
  | .own d :: as, vs, F, _, h, s => by
    obtain ⟨v, ws, G1, G2, e, r, h, s1, s2, dj⟩ := h
    exact ⟨v, ws, G1, G2, e, r, h, fun a q => s a (s1 a q), fun a q => s a (s2 a q), dj⟩
  | .bor d :: as, vs, F, _, h, s => by
    obtain ⟨v, ws, F', e, r, h⟩ := h
    exact ⟨v, ws, F', e, r, h.mono s⟩
/-- arguments as values to be laid into a new object -/
theorem resP_of (hG : ¬ G .stuck) : ∀ {as : List Arg} {vs : List V} {F Fe : Fp} {ρ : Env} {k : List D → Res}, ArgR K H σ as vs F → Ens K H ρ σ Fe → G (resP as ρ k) → ∃ ds, Rps K H ds vs F ∧ G (k ds)
  | [], vs, F, Fe, ρ, k, h, en, g => ⟨[], h, g⟩
  | .nm i :: as, vs, F, Fe, ρ, k, h, en, g => by
    obtain ⟨v, ws, rfl, hv, h⟩ := h
    obtain ⟨d, hd, g⟩ := getK_of hG g
    obtain ⟨p, g⟩ := puK_of hG g
    obtain ⟨v', hv', r⟩ := Ens.get _ _ _ _ _ en hd
    rw [hv] at hv'; cases hv'
    obtain ⟨ds, hds, g⟩ := resP_of hG h en g
    exact ⟨d :: ds, ⟨v, ws, F0, F, rfl, Rp.pure _ _ _ p r, hds, fun _ z => z.elim, fun _ z => z, fun _ z => z.elim⟩, g⟩
  | .own d :: as, vs, F, Fe, ρ, k, h, en, g => by
    obtain ⟨v, ws, G1, G2, rfl, r, h, s1, s2, dj⟩ := h
    obtain ⟨ds, hds, g⟩ := resP_of hG h en g
    exact ⟨d :: ds, ⟨v, ws, G1, G2, rfl, r, hds, s1, s2, dj⟩, g⟩
  | .bor d :: as, vs, F, Fe, ρ, k, h, en, g => by
    obtain ⟨v, ws, F', rfl, r, h⟩ := h
    obtain ⟨p, g⟩ := puK_of hG g
    obtain ⟨ds, hds, g⟩ := resP_of hG h en g
    exact ⟨d :: ds, ⟨v, ws, F0, F, rfl, Rp.pure _ _ _ p r, hds, fun _ z => z.elim, fun _ z => z, fun _ z => z.elim⟩, g⟩
/-- arguments that are only read -/
theorem resB_of (hG : ¬ G .stuck) : ∀ {as : List Arg} {vs : List V} {F Fe : Fp} {ρ : Env} {k : List D → Res}, ArgR K H σ as vs F → Ens K H ρ σ Fe → G (resB as ρ k) → ∃ ds, RpB K H ds vs ∧ G (k ds)
  | [], vs, F, Fe, ρ, k, h, en, g => ⟨[], h, g⟩
  | .nm i :: as, vs, F, Fe, ρ, k, h, en, g => by
    obtain ⟨v, ws, rfl, hv, h⟩ := h
    obtain ⟨d, hd, g⟩ := getK_of hG g
    obtain ⟨v', hv', r⟩ := Ens.get _ _ _ _ _ en hd
    rw [hv] at hv'; cases hv'
    obtain ⟨ds, hds, g⟩ := resB_of hG h en g
    exact ⟨d :: ds, ⟨v, ws, _, rfl, r, hds⟩, g⟩
  | .own d :: as, vs, F, Fe, ρ, k, h, en, g => by
    obtain ⟨v, ws, G1, G2, rfl, r, h, s1, s2, dj⟩ := h
    obtain ⟨ds, hds, g⟩ := resB_of hG h en g
    exact ⟨d :: ds, ⟨v, ws, _, rfl, r, hds⟩, g⟩
  | .bor d :: as, vs, F, Fe, ρ, k, h, en, g => by
    obtain ⟨v, ws, F', rfl, r, h⟩ := h
    obtain ⟨ds, hds, g⟩ := resB_of hG h en g
    exact ⟨d :: ds, ⟨v, ws, _, rfl, r, hds⟩, g⟩
/-- what a lent slot is -/
def LentOk (K : PySem.W.Frag) (H : Hp) (σ : L2.St) (ρ : Env) (vs : List V) (p : Nat) (e : Nat × Nat × D) : Prop :=
  p ≤ e.2.1 ∧ (∃ v, vs[e.2.1 - p]? = some v ∧ σ[e.1]? = some (some v) ∧ (e.2.2.pu = true → Rp K H e.2.2 v F0)) ∧ (e.2.2.pu = false → ∃ d0, ρ[e.1]? = some (some d0) ∧ d0.pu = false)
theorem lend_t {d : D} (h : d.pu = true) : lend d = some d := by unfold lend; rw [h]
theorem lend_f {d : D} (h : d.pu = false) : lend d = none := by unfold lend; rw [h]
/-- arguments lent to a call of one's own: what they stand in (F1), what is left (F2) -/
theorem takeK_of (hG : ¬ G .stuck) : ∀ {as : List Arg} {vs : List V} {F Fe : Fp} {ρ : Env} {p : Nat} {k : List D → Env → List (Nat × Nat × D) → Res}, ArgR K H σ as vs F → Ens K H ρ σ Fe → Dis Fe F → G (takeK as p ρ k) →
    ∃ ds ρ1 l F1 F2, Rps K H ds vs F1 ∧ Ens K H ρ1 σ F2 ∧ Dis F2 F1 ∧ (∀ a, F1 a → Fe a ∨ F a) ∧ (∀ a, F2 a → Fe a) ∧ Imp ρ ρ1 ∧ (∀ e ∈ l, LentOk K H σ ρ vs p e) ∧ (l.map (·.2.1)).Nodup ∧ G (k ds ρ1 l)
  | [], vs, F, Fe, ρ, p, k, h, en, dj, g => ⟨[], ρ, [], F0, Fe, h, en, fun _ _ z => z, fun _ z => z.elim, fun _ z => z, Imp.refl _, fun _ z => by simp at z, by simp, g⟩
  | .nm i :: as, vs, F, Fe, ρ, p, k, h, en, dj, g => by
    obtain ⟨v, ws, rfl, hv, h⟩ := h
    unfold takeK at g
    obtain ⟨d, hd, g⟩ := getK_of hG g
    have hlt : i < ρ.length := by
      cases q : ρ[i]? with
      | none => rw [q] at hd; cases hd
      | some z => exact (List.getElem?_eq_some_iff.mp q).1
    have im0 : Imp ρ (ρ.set i (lend d)) := fun j d' e p' => by
      by_cases hj : i = j
      · subst hj
        rw [List.getElem?_set_self hlt] at e
        cases pu : d.pu with
        | true => rw [lend_t pu] at e; cases e; rw [pu] at p'; cases p'
        | false => rw [lend_f pu] at e; cases e
      · rw [List.getElem?_set_ne hj] at e; exact ⟨d', e, p'⟩
    obtain ⟨v', G1, G2, hv', r, en', s1, s2, d12⟩ := Ens.take _ _ _ _ _ en hd
    rw [hv] at hv'; cases hv'
    have step : ∀ (Fa Fb : Fp), Ens K H (ρ.set i (lend d)) σ Fb → (∀ a, Fb a → Fe a) → Rp K H d v Fa → (∀ a, Fa a → Fe a) → Dis Fa Fb → (d.pu = true → Rp K H d v F0) → ∃ ds ρ1 l F1 F2, Rps K H ds (v :: ws) F1 ∧ Ens K H ρ1 σ F2 ∧ Dis F2 F1 ∧ (∀ a, F1 a → Fe a ∨ F a) ∧ (∀ a, F2 a → Fe a) ∧ Imp ρ ρ1 ∧ (∀ e ∈ l, LentOk K H σ ρ (v :: ws) p e) ∧ (l.map (·.2.1)).Nodup ∧ G (k ds ρ1 l) := fun Fa Fb enb sb ra sa dab rp0 => by
      obtain ⟨ds, ρ1, l, F1, F2, hds, en1, dj1, t1, t2, im, lo, nd, g⟩ := takeK_of hG h enb (fun a z q => dj a (sb a z) q) g
      refine ⟨d :: ds, ρ1, (i, p, d) :: l, fun a => Fa a ∨ F1 a, F2, ⟨v, ws, Fa, F1, rfl, ra, hds, fun _ z => .inl z, fun _ z => .inr z, fun a z q => ?_⟩, en1, fun a z q => ?_, fun a z => ?_, fun a z => sb a (t2 a z), im0.trans im, fun e he => ?_, ?_, g⟩
      · rcases t1 a q with q | q
        · exact dab a z q
        · exact dj a (sa a z) q
      · rcases q with q | q
        · exact dab a q (t2 a z)
        · exact dj1 a z q
      · rcases z with z | z
        · exact .inl (sa a z)
        · exact (t1 a z).imp (sb a) id
      · rcases List.mem_cons.mp he with rfl | he
        · exact ⟨Nat.le_refl _, ⟨v, by simp, hv, rp0⟩, fun z => ⟨d, hd, z⟩⟩
        · obtain ⟨h1, ⟨w, h2, h3⟩, h4⟩ := lo e he
          refine ⟨by omega, ⟨w, ?_, h3⟩, fun z => ?_⟩
          · have : e.2.1 - p = (e.2.1 - (p + 1)) + 1 := by omega
            rw [this, List.getElem?_cons_succ]
            exact h2
          · obtain ⟨d0, e0, p0⟩ := h4 z
            exact im0 _ d0 e0 p0
      · rw [List.map_cons, List.nodup_cons]
        refine ⟨fun hm => ?_, nd⟩
        obtain ⟨e, he, ee⟩ := List.mem_map.mp hm
        have := (lo e he).1
        have ee' : e.2.1 = p := ee
        omega
    cases pu : d.pu with
    | true =>
      have e0 : ρ.set i (lend d) = ρ := by rw [lend_t pu]; exact set_same _ _ _ hd
      exact step F0 Fe (by rw [e0]; exact en) (fun _ z => z) (Rp.pure _ _ _ pu r) (fun _ z => z.elim) (fun _ z => z.elim) fun _ => Rp.pure _ _ _ pu r
    | false =>
      exact step G1 G2 (by rw [lend_f pu]; exact en') s2 r s1 d12 fun z => by rw [pu] at z; cases z
  | .own d :: as, vs, F, Fe, ρ, p, k, h, en, dj, g => by
    obtain ⟨v, ws, G1, G2, rfl, r, h, s1, s2, d12⟩ := h
    obtain ⟨ds, ρ1, l, F1, F2, hds, en1, dj1, t1, t2, im, lo, nd, g⟩ := takeK_of hG h en (fun a z q => dj a z (s2 a q)) g
    refine ⟨d :: ds, ρ1, l, fun a => G1 a ∨ F1 a, F2, ⟨v, ws, G1, F1, rfl, r, hds, fun _ z => .inl z, fun _ z => .inr z, fun a z q => ?_⟩, en1, fun a z q => ?_, fun a z => ?_, t2, im, fun e he => ?_, nd, g⟩
    · rcases t1 a q with q | q
      · exact dj a q (s1 a z)
      · exact d12 a z q
    · rcases q with q | q
      · exact dj a (t2 a z) (s1 a q)
      · exact dj1 a z q
    · rcases z with z | z
      · exact .inr (s1 a z)
      · exact (t1 a z).imp id (s2 a)
    · obtain ⟨h1, ⟨w, h2, h3⟩, h4⟩ := lo e he
      refine ⟨by omega, ⟨w, ?_, h3⟩, h4⟩
      have : e.2.1 - p = (e.2.1 - (p + 1)) + 1 := by omega
      rw [this, List.getElem?_cons_succ]
      exact h2
  | .bor d :: as, vs, F, Fe, ρ, p, k, h, en, dj, g => by
    obtain ⟨v, ws, F', rfl, r, h⟩ := h
    unfold takeK at g
    obtain ⟨pu, g⟩ := puK_of hG g
    obtain ⟨ds, ρ1, l, F1, F2, hds, en1, dj1, t1, t2, im, lo, nd, g⟩ := takeK_of hG h en dj g
    refine ⟨d :: ds, ρ1, l, F1, F2, ⟨v, ws, F0, F1, rfl, Rp.pure _ _ _ pu r, hds, fun _ z => z.elim, fun _ z => z, fun _ z => z.elim⟩, en1, dj1, t1, t2, im, fun e he => ?_, nd, g⟩
    obtain ⟨h1, ⟨w, h2, h3⟩, h4⟩ := lo e he
    refine ⟨by omega, ⟨w, ?_, h3⟩, h4⟩
    have : e.2.1 - p = (e.2.1 - (p + 1)) + 1 := by omega
    rw [this, List.getElem?_cons_succ]
    exact h2
/-- what comes back goes to the slots that lent it -/
theorem back_of {vs : List V} {fin : Env} : ∀ {l : List (Nat × Nat × D)} {fin' ρ : Env} {F2 Ff : Fp}, (∀ e ∈ l, fin'[e.2.1]? = fin[e.2.1]?) → (l.map (·.2.1)).Nodup → Ens K H' fin' (vs.map some) Ff → Ens K H' ρ σ F2 → Dis F2 Ff →
    (∀ e ∈ l, ∃ v, vs[e.2.1]? = some v ∧ σ[e.1]? = some (some v) ∧ (e.2.2.pu = true → Rp K H' e.2.2 v F0)) →
    Ens K H' (back l fin ρ) σ (fun a => F2 a ∨ Ff a) ∧ ∀ (j : Nat) d, (back l fin ρ)[j]? = some (some d) → d.pu = false → ρ[j]? = some (some d) ∨ ∃ e ∈ l, e.1 = j ∧ e.2.2.pu = false
  | [], fin', ρ, F2, Ff, ag, nd, ef, en, dj, lo => ⟨Ens.mono _ _ _ _ (fun _ z => .inl z) en, fun j d e _ => .inl e⟩
  | (i, q, d) :: l, fin', ρ, F2, Ff, ag, nd, ef, en, dj, lo => by
    rw [List.map_cons, List.nodup_cons] at nd
    obtain ⟨v, hv, hσ, hp⟩ := lo _ List.mem_cons_self
    replace hv : vs[q]? = some v := hv
    replace hσ : σ[i]? = some (some v) := hσ
    have set_imp : ∀ {o : Option D} (j : Nat) d', (∀ d2, o = some d2 → d2.pu = false → d.pu = false) → (ρ.set i o)[j]? = some (some d') → d'.pu = false → ρ[j]? = some (some d') ∨ (i = j ∧ d.pu = false) := fun {o} j d' ho e p' => by
      by_cases hj : i = j
      · subst hj
        rw [List.getElem?_set] at e
        rw [if_pos rfl] at e
        split at e
        · exact .inr ⟨rfl, ho d' (by injection e) p'⟩
        · cases e
      · rw [List.getElem?_set_ne hj] at e; exact .inl e
    have go : ∀ (o : Option D) (fin2 : Env) (Fb Fg : Fp), unlend d fin[q]? = o → (∀ d2, o = some d2 → d2.pu = false → d.pu = false) → (∀ e ∈ l, fin2[e.2.1]? = fin[e.2.1]?) → Ens K H' fin2 (vs.map some) Fg → Ens K H' (ρ.set i o) σ Fb → Dis Fb Fg → (∀ a, Fb a ∨ Fg a → F2 a ∨ Ff a) →
        Ens K H' (back ((i, q, d) :: l) fin ρ) σ (fun a => F2 a ∨ Ff a) ∧ ∀ (j : Nat) d', (back ((i, q, d) :: l) fin ρ)[j]? = some (some d') → d'.pu = false → ρ[j]? = some (some d') ∨ ∃ e ∈ (i, q, d) :: l, e.1 = j ∧ e.2.2.pu = false := fun o fin2 Fb Fg ho hpu ag2 ef2 en2 dj2 sub => by
      obtain ⟨r1, r2⟩ := back_of (fin := fin) ag2 nd.2 ef2 en2 dj2 fun e he => lo e (List.mem_cons_of_mem _ he)
      have eq : back ((i, q, d) :: l) fin ρ = back l fin (ρ.set i o) := by rw [← ho]; rfl
      rw [eq]
      refine ⟨Ens.mono _ _ _ _ sub r1, fun j d' e p' => ?_⟩
      rcases r2 j d' e p' with z | ⟨e', he, z⟩
      · rcases set_imp j d' hpu z p' with y | ⟨y1, y2⟩
        · exact .inl y
        · exact .inr ⟨_, List.mem_cons_self, y1, y2⟩
      · exact .inr ⟨e', List.mem_cons_of_mem _ he, z⟩
    have agl : ∀ e ∈ l, fin'[e.2.1]? = fin[e.2.1]? := fun e he => ag e (List.mem_cons_of_mem _ he)
    have ag0 : fin'[q]? = fin[q]? := ag _ List.mem_cons_self
    cases pu : d.pu with
    | true =>
      refine go (some d) fin' F2 Ff (by unfold unlend; rw [pu]) (fun d2 e p => by cases e; exact p) agl ef ?_ dj fun _ z => z
      have := Ens.put _ _ _ F0 i d v en (hp pu) fun _ _ z => z
      rw [set_same σ i _ hσ] at this
      exact Ens.mono _ _ _ _ (fun a z => z.elim id fun z => z.elim) this
    | false =>
      have un : unlend d fin[q]? = (match fin[q]? with | some o' => o' | none => none) := by unfold unlend; rw [pu] <;> cases fin[q]? <;> rfl
      cases hq : fin[q]? with
      | none =>
        exact go none fin' F2 Ff (by rw [un, hq]) (fun d2 e => by cases e) agl ef (Ens.forget _ _ _ i en) dj fun _ z => z
      | some o' =>
        cases o' with
        | none => exact go none fin' F2 Ff (by rw [un, hq]) (fun d2 e => by cases e) agl ef (Ens.forget _ _ _ i en) dj fun _ z => z
        | some d' =>
          obtain ⟨v', E1, E2, hv', rr, ef2, s1, s2, d12⟩ := Ens.take _ _ _ q d' ef (by rw [ag0, hq])
          rw [List.getElem?_map, hv] at hv'
          cases hv'
          refine go (some d') (fin'.set q none) (fun a => F2 a ∨ E1 a) E2 (by rw [un, hq]) (fun _ _ _ => pu) (fun e he => ?_) ef2 (Ens.back (Ens.forget _ _ _ i en) hσ rr fun a z w => dj a z (s1 a w)) (fun a z w => ?_) fun a z => ?_
          · have : q ≠ e.2.1 := fun z => nd.1 (List.mem_map.mpr ⟨e, he, z.symm⟩)
            rw [List.getElem?_set_ne this]
            exact agl e he
          · rcases z with z | z
            · exact dj a z (s2 a w)
            · exact d12 a z w
          · rcases z with (z | z) | z
            · exact .inl z
            · exact .inr (s1 a z)
            · exact .inr (s2 a z)
end
section
variable {X : Cx} {C : Cd} {sc : Scope} {cx : CXT} {er : Er} {EX : XK} {G : Res → Prop} {A0 : Fp} {H0 : Hp} {R : Fns} (S : Snd R) (o : Okx X C sc cx er EX G A0 H0)
include S o
/-! ### displays -/
theorem e_tuple (es : List Expr) (n : Nat) (p : Pos) : PE X (.Tuple es n p) (RdE X.K G A0 H0 false false (fun ρ k => R.A C sc es ρ fun as ρ1 => ckK (decide (as.length ≤ 1000)) (resP as ρ1 fun ds => pusK ds (k (.tup ds) ρ1)))) := by
  refine PE.imp (pe_tup (S.A o es)) fun σ H Q ⟨ρ, k, F, k0, f0, en, g, q⟩ => ?_
  refine ⟨ρ, _, F, k0, f0, en, g, fun as ρ1 vs H1 Fe Fv c1 fr dj tr ar g1 => ?_⟩
  obtain ⟨hb, g1⟩ := ckK_of o.hG g1
  obtain ⟨ds, hds, g1⟩ := resP_of o.hG ar c1.en g1
  obtain ⟨pu, g1⟩ := pusK_of o.hG g1
  refine ⟨by rw [ar.length, sizeLine_eq]; have := of_decide_eq_true hb; omega, fun a ha => ?_⟩
  have kp : Keep F0 H1 (upd H1 a (.tup vs)) := Keep.new ha
  exact q (.tup ds) ρ1 (.ref a) _ Fe (c1.grow kp) (.inr ⟨Fv, fr, dj, ⟨a, vs, rfl, SqT.of upd_same, pu, Rps.stay kp _ _ _ (fun _ _ z => z) hds⟩, fun x h e => tr x h (kp.g x e)⟩) (fun z => nomatch z) g1
theorem e_list (es : List Expr) (p : Pos) : PE X (.List es p) (RdE X.K G A0 H0 false false (fun ρ k => R.A C sc es ρ fun as ρ1 => ckK (decide (as.length ≤ 1000)) (resP as ρ1 fun ds => k (.lst ds) ρ1))) := by
  refine PE.imp (pe_lst (S.A o es)) fun σ H Q ⟨ρ, k, F, k0, f0, en, g, q⟩ => ?_
  refine ⟨ρ, _, F, k0, f0, en, g, fun as ρ1 vs H1 Fe Fv c1 fr dj tr ar g1 => ?_⟩
  obtain ⟨hb, g1⟩ := ckK_of o.hG g1
  obtain ⟨ds, hds, g1⟩ := resP_of o.hG ar c1.en g1
  refine ⟨by rw [ar.length, sizeLine_eq]; have := of_decide_eq_true hb; omega, fun a ha => ?_⟩
  have kp : Keep F0 H1 (upd H1 a (.lst vs)) := Keep.new ha
  have na : ∀ x, Fv x → x ≠ a := fun x h e => tr x h (by rw [e]; exact ha)
  refine q (.lst ds) ρ1 (.ref a) _ Fe (c1.grow kp) (.inr ⟨fun x => Fv x ∨ x = a, fun x h => ?_, fun x h g => ?_, ⟨a, vs, rfl, upd_same, .inr rfl, ?_⟩, fun x h e => ?_⟩) (fun z => nomatch z) g1
  · rcases h with h | h
    · exact fr x h
    · rw [h]; exact .inr (c1.kp.g a ha)
  · rcases g with g | g
    · exact dj x h g
    · rw [g] at h; exact c1.tr a h ha
  · exact Rps.mono _ _ _ _ (fun x h => ⟨.inl h, na x h⟩) (Rps.stay kp _ _ _ (fun _ _ z => z) hds)
  · rcases h with h | h
    · exact tr x h (kp.g x e)
    · rw [h, upd_same] at e; cases e
/-! ### argument lists -/
omit S in
theorem a_stuck {es : List Expr} : PA X es (RdA X.K G A0 H0 (fun _ _ => .stuck)) := ⟨fun pos pins s σ H Q I ⟨ρ, k, F, k0, f0, en, g, q⟩ => absurd g o.hG⟩
omit o in
/-- the first argument is kept while the others come -/
theorem a_two {r : List Expr} {σ : L2.St} {H H1 : Hp} {Q : List V → Hp → Prop} {ρ ρ1 : Env} {k : List Arg → Env → Res} {F Fe : Fp} {d : D} {v : V} (k0 : Keep A0 H0 H) (f0 : Fr A0 H0 F) (c1 : Ch X.K σ F H ρ Fe H1 ρ1) (ow : ∃ Fv, OwnV X.K F H Fe d v H1 Fv)
    (q : ∀ as ρ' vs H' Fe Fv, Ch X.K σ F H ρ Fe H' ρ' → Fr F H Fv → Dis Fe Fv → (∀ a, Fv a → H' a ≠ none) → ArgR X.K H' σ as vs Fv → G (k as ρ') → Q vs H')
    (g : G (R.A C sc r ρ1 fun as ρ2 => k (.own d :: as) ρ2)) : RdA X.K G A0 H0 (R.A C sc r) σ H1 (fun xs H2 => Q (v :: xs) H2) := by
  obtain ⟨Fv, ow⟩ := ow
  refine ⟨ρ1, _, Fe, c1.keep k0 f0, c1.from k0 f0, c1.en, g, fun as ρ2 vs H2 Fe2 Fv2 c2 fr2 dj2 tr2 ar2 g2 => ?_⟩
  have ow2 := ow.held c2
  refine q (.own d :: as) ρ2 (v :: vs) H2 Fe2 (fun a => Fv a ∨ Fv2 a) (c1.trans c2) (fun x h => ?_) (fun x h g => ?_) (fun x h => ?_) ⟨v, vs, Fv, Fv2, rfl, ow2.rp, ar2, fun _ z => .inl z, fun _ z => .inr z, fun x h g => ?_⟩ g2
  · exact h.elim (ow.fr x) (c1.fr.trans c1.kp fr2 x)
  · exact g.elim (ow2.dj x h) (dj2 x h)
  · exact h.elim (ow2.tr x) (tr2 x)
  · rcases fr2 x g with z | z
    · exact ow.dj x z h
    · exact ow.tr x h z
theorem a_other (e : Expr) (r : List Expr) (hs : ∀ env, starEach (e :: r) env = (false, eval e env) :: starEach r env) : PA X (e :: r) (RdA X.K G A0 H0 (fun ρ k => R.E C sc e ρ fun d ρ1 => argRest R C sc e r k d ρ1)) := by
  by_cases hp : isPath e = true
  · cases r with
    | nil =>
      refine PA.imp (pa_cons (S.E o e) pa_nil (hs _)) fun σ H Q ⟨ρ, k, F, k0, f0, en, g, q⟩ => ?_
      refine ⟨ρ, _, F, k0, f0, en, g, fun d ρ1 v H1 Fe c1 v1 _ g1 => ?_⟩
      unfold argRest at g1
      rw [if_pos hp] at g1
      obtain ⟨F', hv⟩ := v1.any
      exact q [.bor d] ρ1 [v] H1 Fe F0 c1 (fun _ z => z.elim) (fun _ _ z => z) (fun _ z => z.elim) ⟨v, [], F', rfl, hv, rfl⟩ g1
    | cons b r' =>
      refine PA.imp (pa_cons (S.E o e) (S.A o (b :: r')) (hs _)) fun σ H Q ⟨ρ, k, F, k0, f0, en, g, q⟩ => ?_
      refine ⟨ρ, _, F, k0, f0, en, g, fun d ρ1 v H1 Fe c1 v1 _ g1 => ?_⟩
      unfold argRest at g1
      rw [if_pos hp] at g1
      obtain ⟨p, g1⟩ := puK_of o.hG g1
      exact a_two S k0 f0 c1 (v1.own fun _ => p) q g1
  · refine PA.imp (pa_cons (S.E o e) (S.A o r) (hs _)) fun σ H Q ⟨ρ, k, F, k0, f0, en, g, q⟩ => ?_
    refine ⟨ρ, _, F, k0, f0, en, g, fun d ρ1 v H1 Fe c1 v1 _ g1 => ?_⟩
    unfold argRest at g1
    rw [if_neg hp] at g1
    exact a_two S k0 f0 c1 (v1.own fun z => absurd z hp) q g1
theorem a_step (es : List Expr) : PA X es (RdA X.K G A0 H0 (stepA R C sc es)) := by
  match es with
  | [] =>
    refine PA.imp pa_nil fun σ H Q ⟨ρ, k, F, k0, f0, en, g, q⟩ => ?_
    exact q [] ρ [] H _ F0 (Ch.refl en) (fun _ z => z.elim) (fun _ _ z => z) (fun _ z => z.elim) rfl g
  | e :: r =>
    cases e with
    | Starred a b => exact a_stuck o
    | Name x p =>
      cases hs : slotOf C sc x with
      | some i =>
        obtain ⟨h1, h2, h3, h4⟩ := o.toCok.visx hs
        refine PA.imp (pa_cons (pe_var (i := i) h1 h2 h3 h4) (S.A o r) rfl) fun σ H Q ⟨ρ, k, F, k0, f0, en, g, q⟩ => ?_
        dsimp only [stepA] at g
        rw [hs] at g
        obtain ⟨d, hd, g⟩ := getK_of o.hG g
        have c := Ch.refl en
        obtain ⟨v, hv, _⟩ := Ens.get _ _ _ _ _ c.en hd
        refine ⟨v, hv, ρ, _, F, k0, f0, en, g, fun as ρ1 vs H1 Fe Fv c1 fr1 dj1 tr1 ar1 g1 => ?_⟩
        exact q (.nm i :: as) ρ1 (v :: vs) H1 Fe Fv c1 fr1 dj1 tr1 ⟨v, vs, rfl, hv, ar1⟩ g1
      | none =>
        refine PA.imp (pa_cons (S.E o (.Name x p)) (S.A o r) rfl) fun σ H Q ⟨ρ, k, F, k0, f0, en, g, q⟩ => ?_
        dsimp only [stepA] at g
        rw [hs] at g
        refine ⟨ρ, _, F, k0, f0, en, g, fun d ρ1 v H1 Fe c1 v1 _ g1 => ?_⟩
        obtain ⟨pu, g1⟩ := puK_of o.hG g1
        exact a_two S k0 f0 c1 (v1.own fun _ => pu) q g1
    | _ => exact a_other S o _ r (fun _ => rfl)

/-! ### a call of one's own -/
omit S in
theorem call_core {f : Str} {n : Nat} {σ : L2.St} {H H1 : Hp} {Q : VK} {ρ ρ1 : Env} {k : D → Env → Res} {F Fe Fv : Fp} {as : List Arg} {vs : List V} (k0 : Keep A0 H0 H) (f0 : Fr A0 H0 F) (c1 : Ch X.K σ F H ρ Fe H1 ρ1) (fr : Fr F H Fv) (dj : Dis Fe Fv)
    (ar : ArgR X.K H1 σ as vs Fv) (q : ∀ d ρ' v H' Fe, Ch X.K σ F H ρ Fe H' ρ' → Val2 X.K false F H Fe d v H' → (false = true → H' = H ∧ ρ' = ρ) → G (k d ρ') → Q v H') (g1 : G (ckK (decide (as.length = n)) (callK C f as ρ1 k))) :
    SpD X.K er n (C.call f) vs H1 Q EX := by
  obtain ⟨hb, g1⟩ := ckK_of o.hG g1
  obtain ⟨ds, ρ2, l, F1', F2, hds, en2, dj2, s1, s2, im2, lo, nd, g2⟩ := takeK_of o.hG ar c1.en dj g1
  refine ⟨by rw [ar.length]; exact of_decide_eq_true hb, ds, F1', hds, ?_⟩
  have fr1 : Fr F H F1' := fun x h => (s1 x h).elim (c1.fr x) (fr x)
  unfold RGood
  cases hc : C.call f ds with
  | ret d fin =>
    rw [hc] at g2
    intro v H' Fw Ff kp fw ff djf rp enf
    have kp' : Keep F H H' := c1.kp.trans kp fr1
    have en3 : Ens X.K H' ρ2 σ F2 := Ens.stay kp _ _ _ (fun a h g => dj2 a h g) en2
    have tr2 : ∀ a, F2 a → H1 a ≠ none := fun a h => c1.tr a (s2 a h)
    have djf2 : Dis F2 Ff := fun a h g => (ff a g).elim (fun z => dj2 a h z) fun z => tr2 a h z
    have djw2 : Dis F2 Fw := fun a h g => (fw a g).elim (fun z => dj2 a h z) fun z => tr2 a h z
    obtain ⟨en4, bk⟩ := back_of (vs := vs) (fin := fin) (l := l) (fun _ _ => rfl) nd enf en3 djf2 fun e he => by
      obtain ⟨_, ⟨w, h2, h3, h4⟩, _⟩ := lo e he
      exact ⟨w, h2, h3, fun p => Rp.stay kp _ _ _ (fun _ z => z.elim) (h4 p)⟩
    have frx : ∀ {Fz : Fp}, Fr F1' H1 Fz → Fr F H Fz := fun {Fz} h x y => (h x y).elim (fr1 x) fun z => .inr (c1.kp.g x z)
    have im3 : Imp ρ (back l fin ρ2) := fun j d' e pu => by
      rcases bk j d' e pu with z | ⟨e', he, hj, hp⟩
      · obtain ⟨d1, e1, p1⟩ := im2 j d' z pu
        exact c1.im j d1 e1 p1
      · obtain ⟨_, _, h4⟩ := lo e' he
        obtain ⟨d1, e1, p1⟩ := h4 hp
        rw [hj] at e1
        exact c1.im j d1 e1 p1
    refine q d (back l fin ρ2) v H' _ ⟨kp', im3, fun x h => ?_, Ens.trim _ _ _ en4, fun a h => h.2⟩ (.inr ⟨_, OwnV.of (frx fw) (fun x h g => ?_) rp⟩) (fun z => nomatch z) g2
    · rcases h.1 with h | h
      · exact c1.fr x (s2 x h)
      · exact frx ff x h
    · rcases h.1 with h | h
      · exact djw2 x h g
      · exact djf x h g
  | exc c fs =>
    rw [hc] at g2
    intro cls dx H' kp er'
    refine o.xco c fs ρ2 g2 cls dx H' ((c1.keep k0 f0).trans kp fun x h => ?_) er'
    rcases s1 x h with y | y
    · exact c1.from k0 f0 x y
    · exact f0.trans k0 fr x y
  | stuck => rw [hc] at g2; exact absurd g2 o.hG
theorem e_call (f : Str) (p : Pos) (n : Nat) (args : List Expr) (pos : Pos) (hf : isFn C sc f = some n) (hst : noStar args = true) :
    PE X (.Call (.Name f p) args [] pos) (RdE X.K G A0 H0 false false (callE R C sc f n args)) := by
  obtain ⟨f1, f2, f3⟩ := isFn_of hf
  obtain ⟨n1, n2, n3⟩ := okName_of f2
  obtain ⟨fa, lv, fd, ps, hl, F1, hr, hm, hk, hb⟩ := o.fn f n f3
  cases args with
  | nil =>
    refine PE.imp (pe_call0 F1 hr (o.toCok.glx f1) hm hk hb .nil o.thr n1) fun σ H Q ⟨ρ, k, F, k0, f0, en, g, q⟩ => ?_
    exact call_core o (as := []) (vs := []) (Fv := F0) k0 f0 (Ch.refl en) (fun _ z => z.elim) (fun _ _ z => z) rfl q g
  | cons e es =>
    obtain ⟨h1, h2⟩ := star_cons hst X.env
    refine PE.imp (pe_call F1 hr (o.toCok.glx f1) hm hk hb .nil o.thr (S.A o (e :: es)) n1 h1 (star_any h2 _ _)) fun σ H Q ⟨ρ, k, F, k0, f0, en, g, q⟩ => ?_
    refine ⟨ρ, _, F, k0, f0, en, g, fun as ρ1 vs H1 Fe Fv c1 fr dj tr ar g1 => ?_⟩
    show SpD X.K er n (C.call f) (vs ++ []) H1 Q EX
    rw [List.append_nil]
    exact call_core o k0 f0 c1 fr dj ar q g1
end
end TI
set_option Elab.async false
set_option linter.all false
set_option maxRecDepth 100000
set_option maxHeartbeats 4000000
/-! built-ins, methods, subscripts, tests -/
namespace TI
open PySem PySem.Spec PyProof.Rows L2

theorem base_ok {o : Expr} (h : opG o = true) (m : Str) (env : PySem.Env) (whole : Sem Value) : attributeBase o m env whole = whole := by
  cases o with
  | Call f args kw p =>
    cases f with
    | Name x q =>
      cases args with
      | nil =>
        cases kw with
        | nil => cases h
        | cons _ _ => rfl
      | cons _ _ => rfl
    | _ => rfl
  | _ => rfl
theorem pe_bad {X : Cx} {e : Expr} {t : TE} (h : ∀ σ H Q, t σ H Q → False) : PE X e t := ⟨fun pins s σ H Q I q => (h σ H Q q).elim⟩
theorem pt_bad {X : Cx} {e : Expr} {t : TT} (h : ∀ σ H Q, t σ H Q → False) : PT X e t := ⟨fun pins s σ H Q I q => (h σ H Q q).elim⟩
theorem ps_bad {X : Cx} {e : Stmt} {t : TS} (h : ∀ D σ H, t D σ H → False) : PS X e t := ⟨fun pins s σ H D I q => (h D σ H q).elim⟩
theorem pg_bad {X : Cx} {e : Expr} {t : TG} (h : ∀ v σ H Q, t v σ H Q → False) : PG X e t := ⟨fun pins s σ H v u Q I r q => (h v σ H Q q).elim⟩
theorem as1_of {ds : List D} {d : D} (h : as1 ds = some d) : ds = [d] := by
  unfold as1 at h
  split at h
  · cases h; rfl
  · cases h
section
variable {X : Cx} {C : Cd} {sc : Scope} {cx : CXT} {er : Er} {EX : XK} {G : Res → Prop} {A0 : Fp} {H0 : Hp} {R : Fns} (S : Snd R) (o : Okx X C sc cx er EX G A0 H0)
include S o

/-! ### built-ins -/
theorem e_bi1 (f : Str) (p : Pos) (args : List Expr) (pos : Pos) (fn : D → (D → Res) → Res) (v : Value) (hb : isBi C sc f = true) (hst : noStar args = true) (hv : bootBuiltins f = some v)
    (hc : CallR X v (rB1 G X.K fn)) (hv2 : (∃ id, v = .builtin id) ∨ ∃ T, v = .type T) :
    PE X (.Call (.Name f p) args [] pos) (RdE X.K G A0 H0 false false (fun ρ k => argE R C sc args ρ fun as ρ1 => resB as ρ1 fun ds => oK (as1 ds) fun d => fn d fun r => k r ρ1)) := by
  obtain ⟨f1, f2, f3⟩ := isBi_of hb
  obtain ⟨n1, n2, n3⟩ := okName_of f2
  have hm := o.bi f f3
  cases args with
  | nil => exact e_stuck o
  | cons e es =>
    obtain ⟨h1, h2⟩ := star_cons hst X.env
    have core : PE X (.Call (.Name f p) (e :: es) [] pos) (tCB (rB1 G X.K fn) (RdA X.K G A0 H0 (R.A C sc (e :: es)))) := by
      rcases hv2 with ⟨id, rfl⟩ | ⟨T, rfl⟩
      · exact pe_callB hc (o.toCok.glx f1) hm hv (S.A o (e :: es)) n3 n1 h1 (star_any h2 _ _)
      · exact pe_callTy hc (o.toCok.glx f1) hm hv (S.A o (e :: es)) n3 n1 h1 (star_any h2 _ _)
    refine PE.imp core fun σ H Q ⟨ρ, k, F, k0, f0, en, g, q⟩ => ?_
    refine ⟨ρ, _, F, k0, f0, en, g, fun as ρ1 vs H1 Fe Fv c1 fr dj tr ar g1 => ?_⟩
    obtain ⟨ds, hds, g1⟩ := resB_of o.hG ar c1.en g1
    obtain ⟨d, hd, g1⟩ := oK_of o.hG g1
    cases as1_of hd
    obtain ⟨w, ws, F', rfl, hw, hn⟩ := hds
    cases (show ws = [] from hn)
    exact ⟨d, w, F', _, rfl, hw, g1, vend c1 q⟩
theorem e_biC (f : Str) (p : Pos) (args : List Expr) (pos : Pos) (v : Value) (hb : isBi C sc f = true) (hst : noStar args = true) (hv : bootBuiltins f = some v) (hv2 : (∃ id, v = .builtin id) ∨ ∃ T, v = .type T)
    (h1 : ∀ fn, fn1 C.lim f = some fn → CallR X v (rB1 G X.K fn)) (h2 : ∀ fn, fn2 f = some fn → CallR X v (rB2 G X.K fn)) :
    PE X (.Call (.Name f p) args [] pos) (RdE X.K G A0 H0 false false (fun ρ k => argE R C sc args ρ fun as ρ1 => biE C f as ρ1 k)) := by
  obtain ⟨f1, f2, f3⟩ := isBi_of hb
  obtain ⟨n1, n2, n3⟩ := okName_of f2
  have hm := o.bi f f3
  cases args with
  | nil => exact e_stuck o
  | cons e es =>
    obtain ⟨hs1, hs2⟩ := star_cons hst X.env
    have both : CallR X v (fun xs H Q => (∃ fn, fn1 C.lim f = some fn ∧ rB1 G X.K fn xs H Q) ∨ ∃ fn, fn2 f = some fn ∧ rB2 G X.K fn xs H Q) := by
      intro pins s σ H xs us Q I r h
      rcases h with ⟨fn, hf, h⟩ | ⟨fn, hf, h⟩
      · exact h1 fn hf pins s σ H xs us Q I r h
      · exact h2 fn hf pins s σ H xs us Q I r h
    have core : PE X (.Call (.Name f p) (e :: es) [] pos) (tCB (fun xs H Q => (∃ fn, fn1 C.lim f = some fn ∧ rB1 G X.K fn xs H Q) ∨ ∃ fn, fn2 f = some fn ∧ rB2 G X.K fn xs H Q) (RdA X.K G A0 H0 (R.A C sc (e :: es)))) := by
      rcases hv2 with ⟨id, rfl⟩ | ⟨T, rfl⟩
      · exact pe_callB both (o.toCok.glx f1) hm hv (S.A o (e :: es)) n3 n1 hs1 (star_any hs2 _ _)
      · exact pe_callTy both (o.toCok.glx f1) hm hv (S.A o (e :: es)) n3 n1 hs1 (star_any hs2 _ _)
    refine PE.imp core fun σ H Q ⟨ρ, k, F, k0, f0, en, g, q⟩ => ?_
    refine ⟨ρ, _, F, k0, f0, en, g, fun as ρ1 vs H1 Fe Fv c1 fr dj tr ar g1 => ?_⟩
    obtain ⟨ds, hds, g1⟩ := resB_of o.hG ar c1.en g1
    match ds, hds, g1 with
    | [], hds, g1 => exact absurd g1 o.hG
    | [d], hds, g1 =>
      obtain ⟨fn, hf, g1⟩ := oK_of o.hG g1
      obtain ⟨w, ws, F', rfl, hw, hn⟩ := hds
      cases (show ws = [] from hn)
      exact .inl ⟨fn, hf, d, w, F', _, rfl, hw, g1, vend c1 q⟩
    | [d, e], hds, g1 =>
      obtain ⟨fn, hf, g1⟩ := oK_of o.hG g1
      obtain ⟨w, ws, F', rfl, hw, w2, ws2, F2, rfl, hw2, hn⟩ := hds
      cases (show ws2 = [] from hn)
      exact .inr ⟨fn, hf, d, e, w, w2, F', F2, _, rfl, hw, hw2, g1, vend c1 q⟩
    | _ :: _ :: _ :: _, hds, g1 => exact absurd g1 o.hG
omit S o in
theorem lk_mem {α : Type} {l : List (Str × α)} {x : Str} {k : α} (h : l.lookup x = some k) : (x, k) ∈ l := by
  induction l with
  | nil => simp at h
  | cons y l ih =>
    obtain ⟨n, k'⟩ := y
    cases e : x == n with
    | true =>
      simp only [List.lookup_cons, e] at h
      cases h
      rw [eq_of_beq e]
      exact List.mem_cons_self
    | false =>
      simp only [List.lookup_cons, e] at h
      exact List.mem_cons_of_mem _ (ih h)
omit S o in
theorem lk_none {α : Type} : ∀ {l : List (Str × α)} {x : Str}, l.lookup x = none ↔ x ∉ l.map (·.1)
  | [], x => by simp
  | (n, k) :: l, x => by
    rw [List.lookup_cons, List.map_cons, List.mem_cons]
    cases e : x == n with
    | true => simp [eq_of_beq e]
    | false =>
      have : x ≠ n := by simpa using e
      simp only
      rw [lk_none]
      simp [this]
omit S o in
theorem fn1_none {lim : Nat} {f : Str} (h : fn1 lim f = none) : fn1 0 f = none := by
  unfold fn1 at h ⊢
  rw [lk_none] at h ⊢
  exact h
omit S o in
theorem fn1_cases {lim : Nat} {f : Str} {fn : D → (D → Res) → Res} (h : fn1 lim f = some fn) : (f, fn) ∈ tab1 lim := lk_mem h
omit S o in
theorem fn2_cases {f : Str} {fn : D → D → (D → Res) → Res} (h : fn2 f = some fn) : (f = "max" ∧ fn = dMax2) ∨ (f = "min" ∧ fn = dMin2) ∨ (f = "divmod" ∧ fn = dDvm) := by
  have h2 := lk_mem h
  unfold tab2 at h2
  rcases List.mem_cons.mp h2 with h2 | h2
  · cases h2; exact .inl ⟨rfl, rfl⟩
  rcases List.mem_cons.mp h2 with h2 | h2
  · cases h2; exact .inr (.inl ⟨rfl, rfl⟩)
  rcases List.mem_cons.mp h2 with h2 | h2
  · cases h2; exact .inr (.inr ⟨rfl, rfl⟩)
  · simp at h2
theorem e_bi (f : Str) (p : Pos) (args : List Expr) (pos : Pos) (hb : isBi C sc f = true) (hst : noStar args = true) :
    PE X (.Call (.Name f p) args [] pos) (RdE X.K G A0 H0 false false (fun ρ k => ckK (isB1 f) (argE R C sc args ρ fun as ρ1 => biE C f as ρ1 k))) := by
  cases hB : isB1 f with
  | false => exact e_stuck o
  | true =>
  refine PE.imp (t := RdE X.K G A0 H0 false false (fun ρ k => argE R C sc args ρ fun as ρ1 => biE C f as ρ1 k)) ?_ fun σ H Q h => h
  have no2 : ∀ {g : Str} {v : Value}, g ≠ "max" → g ≠ "min" → g ≠ "divmod" → ∀ fn, fn2 g = some fn → CallR X v (rB2 G X.K fn) := fun {g v} a b c fn h => by
    rcases fn2_cases h with ⟨e, _⟩ | ⟨e, _⟩ | ⟨e, _⟩
    · exact absurd e a
    · exact absurd e b
    · exact absurd e c
  cases h1 : fn1 C.lim f with
  | some fn =>
    have key : ∀ (v : Value), bootBuiltins f = some v → ((∃ id, v = .builtin id) ∨ ∃ T, v = .type T) → CallR X v (rB1 G X.K fn) → (∀ fn, fn2 f = some fn → CallR X v (rB2 G X.K fn)) → PE X (.Call (.Name f p) args [] pos) (RdE X.K G A0 H0 false false (fun ρ k => argE R C sc args ρ fun as ρ1 => biE C f as ρ1 k)) := fun v hv hv2 c1 c2 =>
      e_biC S o f p args pos v hb hst hv hv2 (fun fn' h' => by rw [h1] at h'; cases h'; exact c1) c2
    have hm := fn1_cases h1
    unfold tab1 at hm
    rcases List.mem_cons.mp hm with hm | hm
    · cases hm
      exact key _ rfl (.inl ⟨_, rfl⟩) (c_len o.hG) (no2 (by decide +kernel) (by decide +kernel) (by decide +kernel))
    rcases List.mem_cons.mp hm with hm | hm
    · cases hm
      exact key _ rfl (.inr ⟨_, rfl⟩) (c_int o.hG o.lim) (no2 (by decide +kernel) (by decide +kernel) (by decide +kernel))
    rcases List.mem_cons.mp hm with hm | hm
    · cases hm
      exact key _ rfl (.inr ⟨_, rfl⟩) (c_str o.hG) (no2 (by decide +kernel) (by decide +kernel) (by decide +kernel))
    rcases List.mem_cons.mp hm with hm | hm
    · cases hm
      exact key _ rfl (.inr ⟨_, rfl⟩) (c_tuple o.hG) (no2 (by decide +kernel) (by decide +kernel) (by decide +kernel))
    rcases List.mem_cons.mp hm with hm | hm
    · cases hm
      exact key _ rfl (.inl ⟨_, rfl⟩) (c_abs o.hG) (no2 (by decide +kernel) (by decide +kernel) (by decide +kernel))
    rcases List.mem_cons.mp hm with hm | hm
    · cases hm
      exact key _ rfl (.inl ⟨_, rfl⟩) (c_ord o.hG) (no2 (by decide +kernel) (by decide +kernel) (by decide +kernel))
    rcases List.mem_cons.mp hm with hm | hm
    · cases hm
      exact key _ rfl (.inl ⟨_, rfl⟩) (c_all o.hG o.calm) (no2 (by decide +kernel) (by decide +kernel) (by decide +kernel))
    rcases List.mem_cons.mp hm with hm | hm
    · cases hm
      exact key _ rfl (.inl ⟨_, rfl⟩) (c_any o.hG o.calm) (no2 (by decide +kernel) (by decide +kernel) (by decide +kernel))
    rcases List.mem_cons.mp hm with hm | hm
    · cases hm
      exact key _ rfl (.inl ⟨_, rfl⟩) (c_sum o.hG o.calm) (no2 (by decide +kernel) (by decide +kernel) (by decide +kernel))
    rcases List.mem_cons.mp hm with hm | hm
    · cases hm
      exact key _ rfl (.inl ⟨_, rfl⟩) (c_max1 o.hG o.calm) fun fn h => by
        rcases fn2_cases h with ⟨_, rfl⟩ | ⟨e, _⟩ | ⟨e, _⟩
        · exact c_max2 o.hG o.calm
        · exact absurd e (by decide +kernel)
        · exact absurd e (by decide +kernel)
    rcases List.mem_cons.mp hm with hm | hm
    · cases hm
      exact key _ rfl (.inl ⟨_, rfl⟩) (c_min1 o.hG o.calm) fun fn h => by
        rcases fn2_cases h with ⟨e, _⟩ | ⟨_, rfl⟩ | ⟨e, _⟩
        · exact absurd e (by decide +kernel)
        · exact c_min2 o.hG o.calm
        · exact absurd e (by decide +kernel)
    rcases List.mem_cons.mp hm with hm | hm
    · cases hm
      exact key _ rfl (.inr ⟨_, rfl⟩) (c_type o.hG) (no2 (by decide +kernel) (by decide +kernel) (by decide +kernel))
    · simp at hm
  | none =>
    cases h2 : fn2 f with
    | some fn =>
      rcases fn2_cases h2 with ⟨rfl, rfl⟩ | ⟨rfl, rfl⟩ | ⟨rfl, rfl⟩
      · cases h1
      · cases h1
      · exact e_biC S o _ p args pos (.builtin "divmod") hb hst rfl (.inl ⟨_, rfl⟩) (fun fn' h' => by rw [h1] at h'; cases h') fun fn' h' => by rw [h2] at h'; cases h'; exact c_dvm o.hG
    | none =>
      unfold isB1 at hB
      rw [fn1_none h1, h2] at hB
      cases hB
theorem e_isi (p : Pos) (args : List Expr) (pos : Pos) (hb : isBi C sc "isinstance" = true) (hst : noStar args = true) :
    PE X (.Call (.Name "isinstance" p) args [] pos) (RdE X.K G A0 H0 false false (isiE R C sc args)) := by
  obtain ⟨f1, f2, f3⟩ := isBi_of hb
  obtain ⟨n1, n2, n3⟩ := okName_of f2
  have hm := o.bi _ f3
  match args, hst with
  | [], _ => exact e_stuck o
  | [a], _ => exact e_stuck o
  | a :: b :: c :: r, _ =>
    refine pe_bad fun σ H Q ⟨ρ, k, F, k0, f0, en, g, q⟩ => ?_
    cases b <;> exact absurd g o.hG
  | [a, b], hst =>
    cases b with
    | Name c pc =>
      cases hc : isBi C sc c with
      | false =>
        refine pe_bad fun σ H Q ⟨ρ, k, F, k0, f0, en, g, q⟩ => ?_
        dsimp only [isiE] at g
        rw [hc] at g
        exact absurd g o.hG
      | true =>
        cases hi : isiCls c with
        | none =>
          refine pe_bad fun σ H Q ⟨ρ, k, F, k0, f0, en, g, q⟩ => ?_
          dsimp only [isiE] at g
          rw [hc, hi] at g
          exact absurd g o.hG
        | some n =>
          obtain ⟨b1, b2⟩ := isiCls_of hi
          obtain ⟨g1, g2, g3⟩ := isBi_of hc
          obtain ⟨m1, m2, m3⟩ := okName_of g2
          obtain ⟨h1, h2⟩ := star_cons hst X.env
          refine PE.imp (pe_callB (c_isi o.hG b2) (o.toCok.glx f1) hm rfl (pa_cons (S.E o a) (pa_cons (pe_bltn (v := .ty n) (o.toCok.glx g1) (o.bi _ g3) b1 rfl m3 m1) pa_nil) h1) n3 n1 h1 (star_any h2 _ _)) fun σ H Q ⟨ρ, k, F, k0, f0, en, g, q⟩ => ?_
          dsimp only [isiE] at g
          rw [hc, hi] at g
          refine ⟨ρ, _, F, k0, f0, en, g, fun d ρ1 v H1 Fe c1 v1 _ g1 => ?_⟩
          obtain ⟨Fx, hx⟩ := v1.any
          exact ⟨d, v, Fx, _, rfl, hx, g1, vend c1 q⟩
    | _ => exact e_stuck o

/-! ### methods -/
theorem all_few {e : Expr} {es : List Expr} {pos : Pos} {env : PySem.Env} (h : noStar (e :: es) = true) (hn : (e :: es).length < 20) :
    ((backTo pos (starEach (e :: es) env)).all (fun x => !x.1) && (backToKw pos (keywordEach [] env)).all (fun x => x.1.isSome)
      && decide ((e :: es).length + ([] : List Keyword).length + (if ([] : List Keyword).isEmpty then 0 else 1) < 30)) = true := by
  rw [star_all h]
  have : decide ((e :: es).length + ([] : List Keyword).length + (if ([] : List Keyword).isEmpty then 0 else 1) < 30) = true := by
    apply decide_eq_true
    show (e :: es).length + 0 + 0 < 30
    omega
  rw [this]
  rfl
theorem e_strM1 (ob : Expr) (m : Str) (args : List Expr) (ap p : Pos) (id : String) (slot : Slot "str" m id) (hty : typeOf (.builtin id) = pure (.type "method_descriptor")) (hm : MtR X id (rStrM G X.K m))
    (hop : opG ob = true) (hl : (ap.endLine == p.line) = true) (hst : noStar args = true) (hne : args ≠ []) (hn : args.length < 20) :
    PE X (.Call (.Attribute ob m ap) args [] p) (RdE X.K G A0 H0 false false (fun ρ k => R.E C sc ob ρ fun d ρ1 => oK (asS [d]) fun x => R.A C sc args ρ1 fun as ρ2 => resB as ρ2 fun ds => strM m x ds fun z => k z ρ2)) := by
  cases args with
  | nil => exact absurd rfl hne
  | cons e es =>
    obtain ⟨h1, h2⟩ := star_cons hst X.env
    refine PE.imp (pe_bm PySem.F.plainAttrs_str slot hty hm (S.E o ob) (S.A o (e :: es)) (base_ok hop _ _ _) (all_few S o hst hn) hl h1 (star_any h2 _ _)) fun σ H Q ⟨ρ, k, F, k0, f0, en, g, q⟩ => ?_
    refine ⟨ρ, _, F, k0, f0, en, g, fun d ρ1 v H1 Fe c1 v1 _ g1 => ?_⟩
    obtain ⟨x, hx, g1⟩ := oK_of o.hG g1
    have hd := asS_of hx
    cases hd
    obtain ⟨Fx, rx⟩ := v1.any
    cases (show v = .str x from rx)
    refine ⟨rfl, ρ1, _, Fe, c1.keep k0 f0, c1.from k0 f0, c1.en, g1, fun as ρ2 vs H2 Fe2 Fv2 c2 fr2 dj2 tr2 ar2 g2 => ?_⟩
    obtain ⟨ds, hds, g2⟩ := resB_of o.hG ar2 c2.en g2
    exact ⟨x, ds, _, rfl, hds, g2, vend (c1.trans c2) q⟩
theorem e_strM (ob : Expr) (m : Str) (args : List Expr) (ap p : Pos) (hop : opG ob = true) (hl : (ap.endLine == p.line) = true) (hst : noStar args = true) (hne : args ≠ []) (hn : args.length < 20) :
    PE X (.Call (.Attribute ob m ap) args [] p) (RdE X.K G A0 H0 false false (strE R C sc ob m args)) := by
  by_cases h1 : m = "join"
  · subst h1; exact e_strM1 S o ob _ args ap p _ PySem.F.slot_str_join PySem.F.type_str_join (m_join o.hG) hop hl hst hne hn
  by_cases h2 : m = "find"
  · subst h2; exact e_strM1 S o ob _ args ap p _ PySem.F.slot_str_find PySem.F.type_str_find (m_find o.hG) hop hl hst hne hn
  by_cases h3 : m = "lstrip"
  · subst h3; exact e_strM1 S o ob _ args ap p _ PySem.F.slot_str_lstrip PySem.F.type_str_lstrip (m_lstrip o.hG) hop hl hst hne hn
  have e : isStrM m = false := by
    unfold isStrM
    rw [beq_eq_false_iff_ne.mpr h1, beq_eq_false_iff_ne.mpr h2, beq_eq_false_iff_ne.mpr h3]
    rfl
  refine pe_bad fun σ H Q ⟨ρ, k, F, k0, f0, en, g, q⟩ => ?_
  unfold strE at g
  rw [e] at g
  exact absurd g o.hG
theorem e_append (x : Str) (xp : Pos) (args : List Expr) (ap p : Pos) (i : Nat) (hs : slotOf C sc x = some i) (hl : (ap.endLine == p.line) = true) (hst : noStar args = true) (hne : args ≠ []) (hn : args.length < 20) :
    PE X (.Call (.Attribute (.Name x xp) "append" ap) args [] p) (RdE X.K G A0 H0 false false (fun ρ k => getK ρ i fun d => (match d with
        | .lst _ => appE R C sc "append" i args ρ k
        | _ => .stuck))) := by
  cases args with
  | nil => exact absurd rfl hne
  | cons e es =>
    obtain ⟨h1, h2⟩ := star_cons hst X.env
    obtain ⟨x1, x2, x3, x4⟩ := o.toCok.visx hs
    refine PE.imp (pe_bm PySem.F.plainAttrs_list PySem.F.slot_list_append PySem.F.type_list_append mt_append (pe_var (i := i) x1 x2 x3 x4) (S.A o (e :: es)) rfl (all_few S o hst hn) hl h1 (star_any h2 _ _)) fun σ H Q ⟨ρ, k, F, k0, f0, en, g, q⟩ => ?_
    obtain ⟨d0, hd0, g⟩ := getK_of o.hG g
    cases d0 with
    | lst zs0 =>
      obtain ⟨v, hv, r⟩ := Ens.get _ _ _ _ _ en hd0
      obtain ⟨a, vs0, rfl, ha, _, _⟩ := r
      refine ⟨_, hv, .inl ⟨rfl, _, .inl (.inl ha)⟩, ρ, _, F, k0, f0, en, g, fun as ρ1 vs H1 Fe Fv c1 fr dj tr ar g1 => ?_⟩
      obtain ⟨ds, hds, g1⟩ := resP_of o.hG ar c1.en g1
      obtain ⟨y, hy, g1⟩ := oK_of o.hG g1
      cases as1_of hy
      obtain ⟨w, ws, G1, G2, rfl, rw_, hn', s1, s2, _⟩ := hds
      cases (show ws = [] from hn')
      obtain ⟨d1, hd1, g1⟩ := getK_of o.hG g1
      cases d1 with
      | lst zs =>
        obtain ⟨hz, g1⟩ := ckK_of o.hG g1
        obtain ⟨v', E1, E2, hv', r', en', t1, t2, d12⟩ := Ens.take _ _ _ _ _ c1.en hd1
        rw [hv] at hv'; cases hv'
        obtain ⟨a', us, e', ha', hE, hus⟩ := r'
        cases e'
        have hlen := Rps.length _ _ _ hus
        have kp : Keep (fun z => z = a) H1 (upd H1 a (.lst (us ++ [w]))) := Keep.set ha' rfl (fun z => z)
        have naF : ¬ Fv a := fun z => dj a (t1 a hE) z
        have na2 : ¬ E2 a := fun z => d12 a hE z
        have rp1 : Rps X.K (upd H1 a (.lst (us ++ [w]))) (zs ++ [y]) (us ++ [w]) (fun b => (E1 b ∨ G1 b) ∧ b ≠ a) := by
          have q1 := Rps.stay kp _ _ _ (fun b hb e => hb.2 e) hus
          have q2 := Rp.stay kp y w G1 (fun b hb e => naF (by rw [← show b = a from e]; exact s1 b hb)) rw_
          refine Rps.mono _ _ _ _ (fun b hb => ?_) (Rps.snoc _ _ _ _ _ _ q1 q2 fun b p q => dj b (t1 b p.1) (s1 b q))
          rcases hb with hb | hb
          · exact ⟨.inl hb.1, hb.2⟩
          · exact ⟨.inr hb, fun e => naF (by rw [← e]; exact s1 b hb)⟩
        have rp : Rp X.K (upd H1 a (.lst (us ++ [w]))) (.lst (zs ++ [y])) (.ref a) (fun b => E1 b ∨ G1 b) := ⟨a, us ++ [w], rfl, upd_same, .inl hE, rp1⟩
        have en2 := Ens.stay kp _ _ _ (fun b hb (e : b = a) => na2 (e ▸ hb)) en'
        have en3 := Ens.back en2 hv rp (fun b p q => q.elim (fun z => d12 b z p) fun z => dj b (t2 b p) (s1 b z))
        refine ⟨a, us, w, rfl, rfl, ha', by rw [hlen]; rw [← szLine_eq]; exact of_decide_eq_true hz, ?_⟩
        refine q .non _ .non _ _ ⟨c1.kp.trans (kp.mono fun b e => (show b = a from e) ▸ t1 a hE) c1.fr, c1.im.trans fun j d' e p' => ?_, fun b hb => ?_, Ens.trim _ _ _ en3, fun b hb => hb.2⟩ (.inr ⟨_, OwnV.pure (Fx := F0) rfl rfl⟩) (fun z => nomatch z) g1
        · by_cases hj : i = j
          · subst hj
            exact ⟨_, hd1, rfl⟩
          · rw [List.getElem?_set_ne hj] at e; exact ⟨d', e, p'⟩
        · rcases hb.1 with hb | hb | hb
          · exact c1.fr b (t2 b hb)
          · exact c1.fr b (t1 b hb)
          · exact fr b (s1 b hb)
      | _ => exact absurd g1 o.hG
    | _ => exact absurd g o.hG
theorem e_meth (ob : Expr) (m : Str) (args : List Expr) (ap p : Pos) (hop : opG ob = true) (hl : (ap.endLine == p.line) = true) (hst : noStar args = true) (hne : args ≠ []) (hn : args.length < 20) :
    PE X (.Call (.Attribute ob m ap) args [] p) (RdE X.K G A0 H0 false false (methE R C sc ob m args)) := by
  by_cases h1 : m = "append"
  · subst h1
    cases ob with
    | Name x xp =>
      cases hs : slotOf C sc x with
      | some i =>
        refine PE.imp (e_append S o x xp args ap p i hs hl hst hne hn) fun σ H Q ⟨ρ, k, F, k0, f0, en, g, q⟩ => ?_
        unfold methE at g
        rw [if_pos rfl] at g
        dsimp only at g
        rw [hs] at g
        exact ⟨ρ, k, F, k0, f0, en, g, q⟩
      | none =>
        refine pe_bad fun σ H Q ⟨ρ, k, F, k0, f0, en, g, q⟩ => ?_
        unfold methE at g
        rw [if_pos rfl] at g
        dsimp only at g
        rw [hs] at g
        exact absurd g o.hG
    | _ => exact e_stuck o
  · refine PE.imp (e_strM S o ob m args ap p hop hl hst hne hn) fun σ H Q ⟨ρ, k, F, k0, f0, en, g, q⟩ => ?_
    unfold methE at g
    rw [if_neg h1] at g
    exact ⟨ρ, k, F, k0, f0, en, g, q⟩
end
end TI
set_option Elab.async false
set_option linter.all false
set_option maxRecDepth 100000
set_option maxHeartbeats 4000000
/-! subscripts, tests -/
namespace TI
open PySem PySem.Spec PyProof.Rows L2


section
variable {K : PySem.W.Frag} {σ : L2.St} {F F1 F2 F3 : Fp} {H H1 H2 H3 : Hp} {ρ ρ1 ρ2 : Env} {d : D} {v : V}
theorem Val2.trans {pth : Bool} (c : Ch K σ F H ρ F1 H1 ρ1) (h : Val2 K pth F1 H1 F2 d v H2) : Val2 K pth F H F2 d v H2 :=
  h.imp id fun ⟨Fv, w⟩ => ⟨Fv, c.fr.trans c.kp w.fr, w.dj, w.rp, w.tr⟩
theorem Val2.wide {pth : Bool} (h : Val2 K pth F H F2 d v H2) : Val2 K true F H F2 d v H2 := h.imp (fun z => ⟨rfl, z.2⟩) id
theorem Val2.tf {pth : Bool} (h : Val2 K pth F H F2 d v H2) (p : d.pu = true) : Val2 K false F H F2 d v H2 := .inr (h.own fun _ => p)
/-- what one was written stays -/
theorem keep_pure {Fx : Fp} (h : Rp K H1 d v Fx) (p : d.pu = true) (c : Ch K σ F1 H1 ρ1 F2 H2 ρ2) : Rp K H2 d v F0 := Rp.stay c.kp _ _ _ (fun _ z => z.elim) (Rp.pure _ _ _ p h)
end
section
variable {X : Cx} {C : Cd} {sc : Scope} {cx : CXT} {er : Er} {EX : XK} {G : Res → Prop} {A0 : Fp} {H0 : Hp} {R : Fns} (S : Snd R) (o : Okx X C sc cx er EX G A0 H0)
include S o
/-! ### subscripts -/
def notSl : Expr → Bool
  | .Slice _ _ _ _ => false
  | _ => true
omit S o in
theorem plain_ix {i : Expr} (h : notSl i = true) : PlainIx i := by
  cases i <;> first
    | exact fun _ _ => rfl
    | cases h
theorem e_ix (b i : Expr) (p : Pos) (hi : notSl i = true) : PE X (.Subscript b i p) (RdE X.K G A0 H0 true false (fun ρ k => R.E C sc b ρ fun d ρ1 => holdK b d i (R.E C sc i ρ1 fun y ρ2 => dIx d y fun z => k z ρ2))) := by
  refine PE.imp (pe_ix (ix_D o.hG) (S.E o b) (S.E o i) (plain_ix hi)) fun σ H Q ⟨ρ, k, F, k0, f0, en, g, q⟩ => ?_
  refine ⟨ρ, _, F, k0, f0, en, g, fun d ρ1 v H1 Fe c1 v1 _ g1 => ?_⟩
  cases hp : (isPath b && !isCalm i) with
  | true =>
    unfold holdK at g1
    rw [hp] at g1
    obtain ⟨p, g1⟩ := puK_of o.hG g1
    obtain ⟨Fv, ow⟩ := v1.own fun _ => p
    refine ⟨ρ1, _, Fe, c1.keep k0 f0, c1.from k0 f0, c1.en, g1, fun d2 ρ2 v2 H2 Fe2 c2 v2' cal2 g2 => ?_⟩
    obtain ⟨Fy, hy⟩ := v2'.any
    exact ⟨d, d2, F0, Fy, _, keep_pure ow.rp p c2, hy, g2, fun r u ru g3 => q r ρ2 u H2 Fe2 (c1.trans c2) (.inl ⟨rfl, Rp.mono _ _ _ _ (fun _ z => z.elim) ru⟩) (fun z => nomatch z) g3⟩
  | false =>
    unfold holdK at g1
    rw [hp] at g1
    refine ⟨ρ1, _, Fe, c1.keep k0 f0, c1.from k0 f0, c1.en, g1, fun d2 ρ2 v2 H2 Fe2 c2 v2' cal2 g2 => ?_⟩
    obtain ⟨Fy, hy⟩ := v2'.any
    rcases v1 with ⟨hb, v1⟩ | ⟨Fv, v1⟩
    · have hc : isCalm i = true := by
        cases e : isCalm i with
        | true => rfl
        | false => rw [hb, e] at hp; cases hp
      obtain ⟨e1, e2⟩ := cal2 hc
      subst e1; subst e2
      refine ⟨d, d2, Fe, Fy, _, v1, hy, g2, fun r u ru g3 => q r ρ2 u H2 Fe c1 (.inl ⟨rfl, ru⟩) (fun z => nomatch z) g3⟩
    · have w := v1.held c2
      exact ⟨d, d2, Fv, Fy, _, w.rp, hy, g2, fun r u ru g3 => q r ρ2 u H2 Fe2 (c1.trans c2) (.inr ⟨Fv, w.fr, w.dj, ru, w.tr⟩) (fun z => nomatch z) g3⟩
theorem e_ixN (x : Str) (xp : Pos) (i : Expr) (p : Pos) (hi : notSl i = true) : PE X (.Subscript (.Name x xp) i p) (RdE X.K G A0 H0 true false (ixN1 R C sc x i)) := by
  cases hs : slotOf C sc x with
  | some j =>
    obtain ⟨x1, x2, x3, x4⟩ := o.toCok.visx hs
    refine PE.imp (pe_ix (ix_D o.hG) (pe_var (i := j) x1 x2 x3 x4) (S.E o i) (plain_ix hi)) fun σ H Q ⟨ρ, k, F, k0, f0, en, g, q⟩ => ?_
    unfold ixN1 at g
    rw [hs] at g
    obtain ⟨d0, hd0, g⟩ := getK_of o.hG g
    obtain ⟨v, hv, r⟩ := Ens.get _ _ _ _ _ en hd0
    refine ⟨v, hv, ρ, _, F, k0, f0, en, g, fun d2 ρ2 v2 H2 Fe2 c2 v2' cal2 g2 => ?_⟩
    obtain ⟨Fy, hy⟩ := v2'.any
    obtain ⟨d1, hd1, g2⟩ := getK_of o.hG g2
    obtain ⟨v', hv', r'⟩ := Ens.get _ _ _ _ _ c2.en hd1
    rw [hv] at hv'; cases hv'
    exact ⟨d1, d2, Fe2, Fy, _, r', hy, g2, fun r u ru g3 => q r ρ2 u H2 Fe2 c2 (.inl ⟨rfl, ru⟩) (fun z => nomatch z) g3⟩
  | none =>
    cases hg : globOf C sc x with
    | kd kvs =>
      obtain ⟨g1, g2, g3⟩ := globOf_of hg (fun z => nomatch z)
      obtain ⟨n1, n2, n3⟩ := okName_of g2
      obtain ⟨a, es, n, hm, D, ks⟩ := o.kd x kvs g3
      refine PE.imp (pe_ix ix_kdict (pe_glob (v := .ref a) (o.toCok.glx g1) hm rfl n1) (S.E o i) (plain_ix hi)) fun σ H Q ⟨ρ, k, F, k0, f0, en, g, q⟩ => ?_
      unfold ixN1 at g
      rw [hs, hg] at g
      refine ⟨ρ, _, F, k0, f0, en, g, fun d2 ρ2 v2 H2 Fe2 c2 v2' cal2 g2 => ?_⟩
      obtain ⟨Fy, hy⟩ := v2'.any
      obtain ⟨z, hz, g2⟩ := oK_of o.hG g2
      have hz' := asS_of hz
      cases hz'
      cases (show v2 = .str z from hy)
      obtain ⟨d, hd, g2⟩ := oK_of (α := TI.D) (o := kdGet kvs z) (k := fun d => k d ρ2) o.hG g2
      obtain ⟨r, hr, hw⟩ := ks z
      rw [show kvs.lookup z = some d from hd] at hw
      obtain ⟨pu, u, v, rfl, ru, rp⟩ := hw
      exact ⟨a, z, v, rfl, rfl, ⟨es, n, u, D.at_, D.lit, hr, ru⟩, q d ρ2 v H2 Fe2 c2 (.inr ⟨_, OwnV.pure (rp H2) pu⟩) (fun z => nomatch z) g2⟩
    | con d =>
      obtain ⟨g1, g2, g3⟩ := globOf_of hg (fun z => nomatch z)
      obtain ⟨n1, n2, n3⟩ := okName_of g2
      obtain ⟨pu, u, v, hm, rv, rp⟩ := o.con x d g3
      refine PE.imp (pe_ix (ix_D o.hG) (pe_glob (o.toCok.glx g1) hm rv n1) (S.E o i) (plain_ix hi)) fun σ H Q ⟨ρ, k, F, k0, f0, en, g, q⟩ => ?_
      unfold ixN1 at g
      rw [hs, hg] at g
      refine ⟨ρ, _, F, k0, f0, en, g, fun d2 ρ2 v2 H2 Fe2 c2 v2' cal2 g2 => ?_⟩
      obtain ⟨Fy, hy⟩ := v2'.any
      exact ⟨d, d2, F0, Fy, _, rp H2, hy, g2, fun r u ru g3 => q r ρ2 u H2 Fe2 c2 (.inl ⟨rfl, Rp.mono _ _ _ _ (fun _ z => z.elim) ru⟩) (fun z => nomatch z) g3⟩
    | _ =>
      refine pe_bad fun σ H Q ⟨ρ, k, F, k0, f0, en, g, q⟩ => ?_
      unfold ixN1 at g
      rw [hs, hg] at g
      exact absurd g o.hG
theorem e_addN (x : Str) (q : Pos) (op : Operator) (b : Expr) (p : Pos) : PE X (.BinOp (.Name x q) op b p) (RdE X.K G A0 H0 false false (addN R C sc x q op b)) := by
  cases hc : isCalm b with
  | true =>
    have e : addN R C sc x q op b = fun ρ k => R.E C sc (.Name x q) ρ fun d ρ1 => holdK (.Name x q) d b (R.E C sc b ρ1 fun y ρ2 => binD op d y fun z => k z ρ2) := by
      funext ρ k
      unfold addN
      rw [hc]
    rw [e]
    exact e_binop S o _ b op p
  | false =>
    cases hs : slotOf C sc x with
    | none =>
      have e : addN R C sc x q op b = fun ρ k => R.E C sc (.Name x q) ρ fun d ρ1 => holdK (.Name x q) d b (R.E C sc b ρ1 fun y ρ2 => binD op d y fun z => k z ρ2) := by
        funext ρ k
        unfold addN
        rw [hc, hs]
      rw [e]
      exact e_binop S o _ b op p
    | some j =>
      obtain ⟨x1, x2, x3, x4⟩ := o.toCok.visx hs
      refine PE.imp (pe_op (op_binD o.hG op) (pe_var (i := j) x1 x2 x3 x4) (S.E o b)) fun σ H Q ⟨ρ, k, F, k0, f0, en, g, q⟩ => ?_
      unfold addN at g
      rw [hc, hs] at g
      obtain ⟨d0, hd0, g⟩ := getK_of o.hG g
      obtain ⟨v, hv, r⟩ := Ens.get _ _ _ _ _ en hd0
      refine ⟨v, hv, ρ, _, F, k0, f0, en, g, fun d2 ρ2 v2 H2 Fe2 c2 v2' cal2 g2 => ?_⟩
      obtain ⟨Fy, hy⟩ := v2'.any
      obtain ⟨d1, hd1, g2⟩ := getK_of o.hG g2
      obtain ⟨v', hv', r'⟩ := Ens.get _ _ _ _ _ c2.en hd1
      rw [hv] at hv'; cases hv'
      exact ⟨d1, d2, Fe2, Fy, _, r', hy, g2, vend c2 q⟩
def RdO (K : PySem.W.Frag) (G : Res → Prop) (A0 : Fp) (H0 : Hp) (f : Env → (Option Int → Env → Res) → Res) : TO := fun σ H Q => ∃ ρ k F, Keep A0 H0 H ∧ Fr A0 H0 F ∧ Ens K H ρ σ F ∧ G (f ρ k) ∧
  ∀ b ρ' H' Fe, Ch K σ F H ρ Fe H' ρ' → G (k b ρ') → Q b H'
theorem o_opt (e : Option Expr) : PO X e (RdO X.K G A0 H0 (optE R C sc e)) := by
  cases e with
  | none => exact ⟨fun pins s σ H Q I ⟨ρ, k, F, k0, f0, en, g, q⟩ => po_none.run pins s σ H Q I (q none ρ H _ (Ch.refl en) g)⟩
  | some e =>
    refine ⟨fun pins s σ H Q I ⟨ρ, k, F, k0, f0, en, g, q⟩ => (po_some (S.E o e)).run pins s σ H Q I ⟨ρ, _, F, k0, f0, en, g, fun d2 ρ2 v2 H2 Fe2 c2 v2' cal2 g2 => ?_⟩⟩
    cases d2 with
    | int i =>
      obtain ⟨Fy, hy⟩ := v2'.any
      cases (show v2 = .int i from hy)
      exact ⟨i, rfl, q (some i) ρ2 H2 Fe2 c2 g2⟩
    | _ => exact absurd g2 o.hG
theorem e_slice (b : Expr) (lo hi : Option Expr) (p p2 : Pos) : PE X (.Subscript b (.Slice lo hi none p2) p) (RdE X.K G A0 H0 false false
    (fun ρ k => R.E C sc b ρ fun d ρ1 => puK d (optE R C sc lo ρ1 fun l ρ2 => optE R C sc hi ρ2 fun h ρ3 => dSl d l h fun z => k z ρ3))) := by
  refine PE.imp (pe_slice (sl_D o.hG) (S.E o b) (o_opt S o lo) (o_opt S o hi)) fun σ H Q ⟨ρ, k, F, k0, f0, en, g, q⟩ => ?_
  refine ⟨ρ, _, F, k0, f0, en, g, fun d ρ1 v H1 Fe c1 v1 _ g1 => ?_⟩
  obtain ⟨p, g1⟩ := puK_of o.hG g1
  obtain ⟨Fv, hv⟩ := v1.any
  refine ⟨ρ1, _, Fe, c1.keep k0 f0, c1.from k0 f0, c1.en, g1, fun l ρ2 H2 Fe2 c2 g2 => ?_⟩
  have c12 := c1.trans c2
  refine ⟨ρ2, _, Fe2, c12.keep k0 f0, c12.from k0 f0, c12.en, g2, fun h ρ3 H3 Fe3 c3 g3 => ?_⟩
  exact ⟨d, F0, _, keep_pure hv p (c2.trans c3), g3, vend (c12.trans c3) q⟩
/-! ### comparisons -/
def RdC (K : PySem.W.Frag) (G : Res → Prop) (A0 : Fp) (H0 : Hp) (f : Env → (Bool → Env → Res) → Res) : TE := fun σ H Q => ∃ ρ k F, Keep A0 H0 H ∧ Fr A0 H0 F ∧ Ens K H ρ σ F ∧ G (f ρ k) ∧
  ∀ b ρ' H' Fe, Ch K σ F H ρ Fe H' ρ' → G (k b ρ') → Q (.bl b) H'
omit S o in
theorem nIn_of {op : CmpOp} (h : nIn op = true) (b : Expr) : behindInMarks op b = false := nobehind b (by rintro rfl; cases h) (by rintro rfl; cases h)
/-- both ways: value, test -/
theorem cmp_rel (a : Expr) (op : CmpOp) (b : Expr) (p : Pos) : (∀ t : TE, (∀ σ H Q, t σ H Q → RdC X.K G A0 H0 (cmpE R C sc a op b) σ H Q) → PE X (.Compare a [op] [b] p) t ∧ PT X (.Compare a [op] [b] p) (tTest t)) := by
  intro t ht
  have gen : (∀ ρ k, cmpE R C sc a op b ρ k = ckK (!behindInMarks op b) (R.E C sc a ρ fun x ρ1 => holdK a x b (R.E C sc b ρ1 fun y ρ2 => cmpD op x y fun c => k c ρ2))) → PE X (.Compare a [op] [b] p) t ∧ PT X (.Compare a [op] [b] p) (tTest t) := fun e => by
    cases hm : behindInMarks op b with
    | true =>
      have bad : ∀ σ H Q, t σ H Q → False := fun σ H Q h => by
        obtain ⟨ρ, k, F, k0, f0, en, g, q⟩ := ht σ H Q h
        rw [e, hm] at g
        exact absurd g o.hG
      exact ⟨pe_bad bad, pt_bad fun σ H Q h => bad σ H _ h⟩
    | false =>
      have core : ∀ σ H Q, t σ H Q → tOp (rCmpD G X.K op) (RdE X.K G A0 H0 (isPath a) (isCalm a) (R.E C sc a)) (RdE X.K G A0 H0 (isPath b) (isCalm b) (R.E C sc b)) σ H Q := fun σ H Q h => by
        obtain ⟨ρ, k, F, k0, f0, en, g, q⟩ := ht σ H Q h
        rw [e, hm] at g
        refine ⟨ρ, _, F, k0, f0, en, g, fun d ρ1 v H1 Fe c1 v1 _ g1 => ?_⟩
        obtain ⟨g1, hh⟩ := Val2.hold (hG := o.hG) (σ := σ) (ρ1 := ρ1) v1 g1
        refine ⟨ρ1, _, Fe, c1.keep k0 f0, c1.from k0 f0, c1.en, g1, fun d2 ρ2 v2 H2 Fe2 c2 v2' cal2 g2 => ?_⟩
        obtain ⟨Fx, hx⟩ := kept2 hh c2 cal2
        obtain ⟨Fy, hy⟩ := v2'.any
        exact ⟨d, d2, Fx, Fy, _, hx, hy, g2, fun b g3 => q b ρ2 H2 Fe2 (c1.trans c2) g3⟩
      exact ⟨PE.imp (pe_cmpR (op_cmpD o.hG o.room op) (S.E o a) (S.E o b) hm) core, PT.imp (pt_cmpR (op_cmpD o.hG o.room op) (S.E o a) (S.E o b) hm) fun σ H Q h => core σ H _ h⟩
  cases hk : kdOf C sc b with
  | none =>
    refine gen fun ρ k => ?_
    unfold cmpE
    rw [hk]
    cases op <;> rfl
  | some kvs =>
    obtain ⟨y, yp, rfl, hs, hg⟩ : ∃ y yp, b = .Name y yp ∧ slotOf C sc y = none ∧ globOf C sc y = .kd kvs := by
      unfold kdOf at hk
      split at hk
      · split at hk
        · split at hk
          · cases hk; exact ⟨_, _, rfl, by assumption, by assumption⟩
          · cases hk
        · cases hk
      · cases hk
    obtain ⟨g1, g2, g3⟩ := globOf_of hg (fun z => nomatch z)
    obtain ⟨n1, n2, n3⟩ := okName_of g2
    obtain ⟨a', es, n, hm, D, ks⟩ := o.kd y kvs g3
    have pb := pe_glob (X := X) (v := .ref a') (pos := yp) (o.toCok.glx g1) hm rfl n1
    have look : ∀ z, ∃ r : Option Value, PySem.W.nsIn X.K a' z = some r ∧ r.isSome = (kdGet kvs z).isSome := fun z => by
      obtain ⟨r, hr, hw⟩ := ks z
      refine ⟨r, hr, ?_⟩
      unfold kdGet
      cases hl : kvs.lookup z with
      | none => rw [hl] at hw; rw [show r = none from hw]; rfl
      | some d =>
        rw [hl] at hw
        obtain ⟨_, u, _, hu, _⟩ := hw
        rw [hu]; rfl
    by_cases h1 : op = .In
    · subst h1
      have core : ∀ σ H Q, t σ H Q → tOp (fun x y H Q => ∃ (z : Str) (r : Option Value), x = .str z ∧ y = .ref a' ∧ PySem.W.nsIn X.K a' z = some r ∧ Q (.bl r.isSome) H) (RdE X.K G A0 H0 (isPath a) (isCalm a) (R.E C sc a)) (tC (.ref a')) σ H Q := fun σ H Q h => by
        obtain ⟨ρ, k, F, k0, f0, en, g, q⟩ := ht σ H Q h
        dsimp only [cmpE] at g
        rw [hk] at g
        dsimp only at g
        refine ⟨ρ, _, F, k0, f0, en, g, fun d2 ρ2 v2 H2 Fe2 c2 v2' cal2 g4 => ?_⟩
        obtain ⟨Fy, hy⟩ := v2'.any
        obtain ⟨z, hz, g4⟩ := oK_of o.hG g4
        have hz' := asS_of hz
        cases hz'
        cases (show v2 = .str z from hy)
        obtain ⟨r, hr, he⟩ := look z
        exact ⟨z, r, rfl, rfl, hr, by rw [he]; exact q _ ρ2 H2 Fe2 c2 g4⟩
      exact ⟨PE.imp (pe_cmpR (op_in_kd D) (S.E o a) pb rfl) core, PT.imp (pt_cmpR (op_in_kd D) (S.E o a) pb rfl) fun σ H Q h => core σ H _ h⟩
    by_cases h2 : op = .NotIn
    · subst h2
      have core : ∀ σ H Q, t σ H Q → tOp (fun x y H Q => ∃ (z : Str) (r : Option Value), x = .str z ∧ y = .ref a' ∧ PySem.W.nsIn X.K a' z = some r ∧ Q (.bl (!r.isSome)) H) (RdE X.K G A0 H0 (isPath a) (isCalm a) (R.E C sc a)) (tC (.ref a')) σ H Q := fun σ H Q h => by
        obtain ⟨ρ, k, F, k0, f0, en, g, q⟩ := ht σ H Q h
        dsimp only [cmpE] at g
        rw [hk] at g
        dsimp only at g
        refine ⟨ρ, _, F, k0, f0, en, g, fun d2 ρ2 v2 H2 Fe2 c2 v2' cal2 g4 => ?_⟩
        obtain ⟨Fy, hy⟩ := v2'.any
        obtain ⟨z, hz, g4⟩ := oK_of o.hG g4
        have hz' := asS_of hz
        cases hz'
        cases (show v2 = .str z from hy)
        obtain ⟨r, hr, he⟩ := look z
        exact ⟨z, r, rfl, rfl, hr, by rw [he]; exact q _ ρ2 H2 Fe2 c2 g4⟩
      exact ⟨PE.imp (pe_cmpR (op_notIn_kd D) (S.E o a) pb rfl) core, PT.imp (pt_cmpR (op_notIn_kd D) (S.E o a) pb rfl) fun σ H Q h => core σ H _ h⟩
    refine gen fun ρ k => ?_
    unfold cmpE
    rw [hk]
    cases op <;> first
      | rfl
      | exact absurd rfl h1
      | exact absurd rfl h2
theorem e_cmp (a : Expr) (op : CmpOp) (b : Expr) (p : Pos) : PE X (.Compare a [op] [b] p) (RdE X.K G A0 H0 false false (fun ρ k => cmpE R C sc a op b ρ fun c ρ1 => k (.bl c) ρ1)) :=
  (cmp_rel S o a op b p _ fun σ H Q ⟨ρ, k, F, k0, f0, en, g, q⟩ => ⟨ρ, _, F, k0, f0, en, g, fun b ρ' H' Fe c g1 => q (.bl b) ρ' (.bl b) H' Fe c (.inr ⟨_, OwnV.pure (Fx := F0) rfl rfl⟩) (fun z => nomatch z) g1⟩).1
theorem t_cmp (a : Expr) (op : CmpOp) (b : Expr) (p : Pos) : PT X (.Compare a [op] [b] p) (RdT X.K G A0 H0 (cmpE R C sc a op b)) :=
  PT.imp (cmp_rel S o a op b p _ fun _ _ _ h => h).2 fun σ H Q ⟨ρ, k, F, k0, f0, en, g, q⟩ => ⟨ρ, k, F, k0, f0, en, g, fun b ρ' H' Fe c g1 => ⟨b, rfl, q b ρ' H' Fe c g1⟩⟩
end
end TI
set_option Elab.async false
set_option linter.all false
set_option maxRecDepth 100000
set_option maxHeartbeats 4000000
/-! and, or, not; texts behind a written one -/
namespace TI
open PySem PySem.Spec PyProof.Rows L2



section
variable {X : Cx} {C : Cd} {sc : Scope} {cx : CXT} {er : Er} {EX : XK} {G : Res → Prop} {A0 : Fp} {H0 : Hp} {R : Fns} (S : Snd R) (o : Okx X C sc cx er EX G A0 H0)
include S o
theorem e_not (a : Expr) (p : Pos) : PE X (.UnaryOp .Not a p) (RdE X.K G A0 H0 false false (fun ρ k => R.E C sc a ρ fun x ρ1 => dTru x fun c => k (.bl (!c)) ρ1)) := by
  refine PE.imp (pe_notT (S.E o a)) fun σ H Q ⟨ρ, k, F, k0, f0, en, g, q⟩ => ?_
  refine ⟨ρ, _, F, k0, f0, en, g, fun d ρ1 v H1 Fe c1 v1 _ g1 => ?_⟩
  obtain ⟨Fv, hv⟩ := v1.any
  obtain ⟨b, tb, g1⟩ := tru_D o.hG hv g1
  exact ⟨b, tb, q _ ρ1 _ H1 Fe c1 (.inr ⟨_, OwnV.pure (d := .bl _) (Fx := F0) rfl rfl⟩) (fun z => nomatch z) g1⟩
omit S o in
theorem path0 {a : Expr} (h : isPath a = true) : isPath0 a = true := by
  cases a <;> first
    | exact h
    | rfl
omit S o in
theorem Val2.up {K : PySem.W.Frag} {p p' : Bool} {F Fe : Fp} {H H' : Hp} {d : D} {v : V} (h : Val2 K p F H Fe d v H') (w : p = true → p' = true) : Val2 K p' F H Fe d v H' := h.imp (fun z => ⟨w z.1, z.2⟩) id
theorem e_if (t a b : Expr) (p : Pos) : PE X (.IfExp t a b p) (RdE X.K G A0 H0 (isPath0 a || isPath0 b) false (fun ρ k => R.T C sc t ρ fun c ρ1 => match c with
    | true => R.E C sc a ρ1 k
    | false => R.E C sc b ρ1 k)) := by
  refine PE.imp (pe_ifExp (S.T o t) (S.E o a) (S.E o b)) fun σ H Q ⟨ρ, k, F, k0, f0, en, g, q⟩ => ?_
  refine ⟨ρ, _, F, k0, f0, en, g, fun c ρ1 H1 Fe c1 g1 => ?_⟩
  dsimp only
  have br : ∀ e : Expr, (isPath e = true → (isPath0 a || isPath0 b) = true) → G (R.E C sc e ρ1 k) → RdE X.K G A0 H0 (isPath e) (isCalm e) (R.E C sc e) σ H1 Q := fun e he g1 =>
    ⟨ρ1, _, Fe, c1.keep k0 f0, c1.from k0 f0, c1.en, g1, fun d ρ2 v H2 Fe2 c2 v2 _ g2 => q d ρ2 v H2 Fe2 (c1.trans c2) ((Val2.trans c1 v2).up he) (fun z => nomatch z) g2⟩
  cases c with
  | true => rw [if_pos rfl]; exact br a (fun z => by rw [path0 z]; rfl) g1
  | false => rw [if_neg (by decide)]; exact br b (fun z => by rw [path0 z, Bool.or_true]) g1
theorem e_and (a b : Expr) (r : List Expr) (p : Pos) : PE X (.BoolOp .And (a :: b :: r) p) (RdE X.K G A0 H0 true false (fun ρ k => R.E C sc a ρ fun x ρ1 => dTru x fun c => match c with
    | true => R.E C sc (.BoolOp .And (b :: r) p) ρ1 k
    | false => k x ρ1)) := by
  refine PE.imp (pe_andT (S.E o a) (S.E o (.BoolOp .And (b :: r) p))) fun σ H Q ⟨ρ, k, F, k0, f0, en, g, q⟩ => ?_
  refine ⟨ρ, _, F, k0, f0, en, g, fun d ρ1 v H1 Fe c1 v1 _ g1 => ?_⟩
  obtain ⟨Fv, hv⟩ := v1.any
  obtain ⟨c, tb, g1⟩ := tru_D o.hG hv g1
  refine ⟨c, tb, ?_⟩
  cases c with
  | true =>
    rw [if_pos rfl]
    exact ⟨ρ1, _, Fe, c1.keep k0 f0, c1.from k0 f0, c1.en, g1, fun d ρ2 v H2 Fe2 c2 v2 _ g2 => q d ρ2 v H2 Fe2 (c1.trans c2) (Val2.trans c1 v2).wide (fun z => nomatch z) g2⟩
  | false =>
    rw [if_neg (by decide)]
    exact q d ρ1 v H1 Fe c1 v1.wide (fun z => nomatch z) g1
theorem e_or (a b : Expr) (r : List Expr) (p : Pos) : PE X (.BoolOp .Or (a :: b :: r) p) (RdE X.K G A0 H0 true false (fun ρ k => R.E C sc a ρ fun x ρ1 => dTru x fun c => match c with
    | true => k x ρ1
    | false => R.E C sc (.BoolOp .Or (b :: r) p) ρ1 k)) := by
  refine PE.imp (pe_orT (S.E o a) (S.E o (.BoolOp .Or (b :: r) p))) fun σ H Q ⟨ρ, k, F, k0, f0, en, g, q⟩ => ?_
  refine ⟨ρ, _, F, k0, f0, en, g, fun d ρ1 v H1 Fe c1 v1 _ g1 => ?_⟩
  obtain ⟨Fv, hv⟩ := v1.any
  obtain ⟨c, tb, g1⟩ := tru_D o.hG hv g1
  refine ⟨c, tb, ?_⟩
  cases c with
  | false =>
    rw [if_neg (by decide)]
    exact ⟨ρ1, _, Fe, c1.keep k0 f0, c1.from k0 f0, c1.en, g1, fun d ρ2 v H2 Fe2 c2 v2 _ g2 => q d ρ2 v H2 Fe2 (c1.trans c2) (Val2.trans c1 v2).wide (fun z => nomatch z) g2⟩
  | true =>
    rw [if_pos rfl]
    exact q d ρ1 v H1 Fe c1 v1.wide (fun z => nomatch z) g1
theorem e_chain (a : Expr) (op op' : CmpOp) (b c : Expr) (p : Pos) : PE X (.Compare a [op, op'] [b, c] p) (RdE X.K G A0 H0 false false (stepE R C sc (.Compare a [op, op'] [b, c] p))) := by
  cases hop : nIn op' && nIn op with
  | false =>
    refine pe_bad fun σ H Q ⟨ρ, k, F, k0, f0, en, g, q⟩ => ?_
    dsimp only [stepE] at g
    rw [hop] at g
    exact absurd g o.hG
  | true =>
    have hop' := hop
    rw [Bool.and_eq_true] at hop'
    refine PE.imp (pe_chain (op_cmpD o.hG o.room op) (op_cmpD o.hG o.room op') (S.E o a) (S.E o b) (S.E o c) (nIn_of hop'.1 c)) fun σ H Q ⟨ρ, k, F, k0, f0, en, g, q⟩ => ?_
    dsimp only [stepE] at g
    rw [hop] at g
    replace g : G (R.E C sc a ρ _) := g
    refine ⟨ρ, _, F, k0, f0, en, g, fun d ρ1 v H1 Fe c1 v1 _ g1 => ?_⟩
    obtain ⟨pd, g1⟩ := puK_of o.hG g1
    obtain ⟨Fv, hv⟩ := v1.any
    refine ⟨ρ1, _, Fe, c1.keep k0 f0, c1.from k0 f0, c1.en, g1, fun d2 ρ2 v2 H2 Fe2 c2 v2' _ g2 => ?_⟩
    obtain ⟨p2, g2⟩ := puK_of o.hG g2
    obtain ⟨Fy, hy⟩ := v2'.any
    have c12 := c1.trans c2
    have fin : ∀ (u : Bool) {ρ' : Env} {H' : Hp} {F' : Fp}, Ch X.K σ F H ρ F' H' ρ' → G (k (.bl u) ρ') → Q (.bl u) H' := fun u {ρ' H' F'} c g => q (.bl u) ρ' (.bl u) H' F' c (.inr ⟨F0, OwnV.pure (Fx := F0) rfl rfl⟩) (fun z => nomatch z) g
    refine ⟨d, d2, F0, Fy, _, keep_pure hv pd c2, hy, g2, fun t g3 => ⟨t, rfl, ?_⟩⟩
    cases t with
    | true =>
      rw [if_pos rfl]
      refine ⟨ρ2, _, Fe2, c12.keep k0 f0, c12.from k0 f0, c12.en, g3, fun d3 ρ3 v3 H3 Fe3 c3 v3' _ g4 => ?_⟩
      obtain ⟨Fz, hz⟩ := v3'.any
      exact ⟨d2, d3, F0, Fz, _, keep_pure hy p2 c3, hz, g4, fun u g5 => fin u (c12.trans c3) g5⟩
    | false =>
      rw [if_neg (by decide)]
      exact fin false c12 g3
theorem e_one (op : BoolOp) (a : Expr) (p : Pos) : PE X (.BoolOp op [a] p) (RdE X.K G A0 H0 true false (fun ρ k => R.E C sc a ρ k)) :=
  PE.imp (pe_one (S.E o a)) fun σ H Q ⟨ρ, k, F, k0, f0, en, g, q⟩ => ⟨ρ, k, F, k0, f0, en, g, fun d ρ1 v H1 Fe c1 v1 _ g1 => q d ρ1 v H1 Fe c1 v1.wide (fun z => nomatch z) g1⟩
/-! ### tests -/
omit S in
theorem t_stuck {e : Expr} : PT X e (RdT X.K G A0 H0 (fun _ _ => .stuck)) := pt_bad fun σ H Q ⟨ρ, k, F, k0, f0, en, g, q⟩ => absurd g o.hG
theorem t_not (a : Expr) (p : Pos) : PT X (.UnaryOp .Not a p) (RdT X.K G A0 H0 (fun ρ k => R.T C sc a ρ fun b ρ1 => k (!b) ρ1)) :=
  PT.imp (pt_not (S.T o a)) fun σ H Q ⟨ρ, k, F, k0, f0, en, g, q⟩ => ⟨ρ, _, F, k0, f0, en, g, fun b ρ1 H1 Fe c1 g1 => q (!b) ρ1 H1 Fe c1 g1⟩
theorem w_one (op : BoolOp) (a : Expr) (p : Pos) : PW X (.BoolOp op [a] p) (RdT X.K G A0 H0 (R.T C sc a)) := by
  cases op with
  | And => exact pw_and1 (S.T o a)
  | Or => exact pw_or1 (S.T o a)
theorem w_and (a b : Expr) (r : List Expr) (p : Pos) : PW X (.BoolOp .And (a :: b :: r) p) (RdT X.K G A0 H0 (fun ρ k => R.T C sc a ρ fun c ρ1 => match c with
    | true => R.T C sc (.BoolOp .And (b :: r) p) ρ1 k
    | false => k false ρ1)) := by
  refine PW.imp (pw_and (S.T o a) (S.W o .And (b :: r) p)) fun σ H Q ⟨ρ, k, F, k0, f0, en, g, q⟩ => ⟨ρ, _, F, k0, f0, en, g, fun c ρ1 H1 Fe c1 g1 => ?_⟩
  cases c with
  | true =>
    rw [if_pos rfl]
    exact ⟨ρ1, _, Fe, c1.keep k0 f0, c1.from k0 f0, c1.en, g1, fun d ρ2 H2 Fe2 c2 g2 => q d ρ2 H2 Fe2 (c1.trans c2) g2⟩
  | false =>
    rw [if_neg (by decide)]
    exact q false ρ1 H1 Fe c1 g1
theorem w_or (a b : Expr) (r : List Expr) (p : Pos) : PW X (.BoolOp .Or (a :: b :: r) p) (RdT X.K G A0 H0 (fun ρ k => R.T C sc a ρ fun c ρ1 => match c with
    | true => k true ρ1
    | false => R.T C sc (.BoolOp .Or (b :: r) p) ρ1 k)) := by
  refine PW.imp (pw_or (S.T o a) (S.W o .Or (b :: r) p)) fun σ H Q ⟨ρ, k, F, k0, f0, en, g, q⟩ => ⟨ρ, _, F, k0, f0, en, g, fun c ρ1 H1 Fe c1 g1 => ?_⟩
  cases c with
  | false =>
    rw [if_neg (by decide)]
    exact ⟨ρ1, _, Fe, c1.keep k0 f0, c1.from k0 f0, c1.en, g1, fun d ρ2 H2 Fe2 c2 g2 => q d ρ2 H2 Fe2 (c1.trans c2) g2⟩
  | true =>
    rw [if_pos rfl]
    exact q true ρ1 H1 Fe c1 g1
omit S in
theorem w_bad {op : BoolOp} {vs : List Expr} {p : Pos} : PW X (.BoolOp op vs p) (RdT X.K G A0 H0 (fun _ _ => .stuck)) := ⟨fun wh pins s σ H Q I ⟨ρ, k, F, k0, f0, en, g, q⟩ => absurd g o.hG⟩
theorem w_step (op : BoolOp) (vs : List Expr) (p : Pos) : PW X (.BoolOp op vs p) (RdT X.K G A0 H0 (stepT R C sc (.BoolOp op vs p))) := by
  cases op with
  | And =>
    match vs with
    | [] => exact w_bad o
    | [a] => exact w_one S o .And a p
    | a :: b :: r => exact w_and S o a b r p
  | Or =>
    match vs with
    | [] => exact w_bad o
    | [a] => exact w_one S o .Or a p
    | a :: b :: r => exact w_or S o a b r p
theorem t_chain (a : Expr) (op op' : CmpOp) (b c : Expr) (p : Pos) : PT X (.Compare a [op, op'] [b, c] p) (RdT X.K G A0 H0 (stepT R C sc (.Compare a [op, op'] [b, c] p))) := by
  cases hop : nIn op' && nIn op with
  | false =>
    refine pt_bad fun σ H Q ⟨ρ, k, F, k0, f0, en, g, q⟩ => ?_
    dsimp only [stepT] at g
    rw [hop] at g
    exact absurd g o.hG
  | true =>
    have hop' := hop
    rw [Bool.and_eq_true] at hop'
    refine PT.imp (pt_chain (op_cmpD o.hG o.room op) (op_cmpD o.hG o.room op') (S.E o a) (S.E o b) (S.E o c) (nIn_of hop'.1 c)) fun σ H Q ⟨ρ, k, F, k0, f0, en, g, q⟩ => ?_
    dsimp only [stepT] at g
    rw [hop] at g
    replace g : G (R.E C sc a ρ _) := g
    refine ⟨ρ, _, F, k0, f0, en, g, fun d ρ1 v H1 Fe c1 v1 _ g1 => ?_⟩
    obtain ⟨pd, g1⟩ := puK_of o.hG g1
    obtain ⟨Fv, hv⟩ := v1.any
    refine ⟨ρ1, _, Fe, c1.keep k0 f0, c1.from k0 f0, c1.en, g1, fun d2 ρ2 v2 H2 Fe2 c2 v2' _ g2 => ?_⟩
    obtain ⟨p2, g2⟩ := puK_of o.hG g2
    obtain ⟨Fy, hy⟩ := v2'.any
    have c12 := c1.trans c2
    refine ⟨d, d2, F0, Fy, _, keep_pure hv pd c2, hy, g2, fun t g3 => ⟨t, rfl, ?_⟩⟩
    cases t with
    | true =>
      rw [if_pos rfl]
      refine ⟨ρ2, _, Fe2, c12.keep k0 f0, c12.from k0 f0, c12.en, g3, fun d3 ρ3 v3 H3 Fe3 c3 v3' _ g4 => ?_⟩
      obtain ⟨Fz, hz⟩ := v3'.any
      exact ⟨d2, d3, F0, Fz, _, keep_pure hy p2 c3, hz, g4, fun u g5 => ⟨u, rfl, q u ρ3 H3 Fe3 (c12.trans c3) g5⟩⟩
    | false =>
      rw [if_neg (by decide)]
      exact ⟨false, rfl, q false ρ2 H2 Fe2 c12 g3⟩
theorem t_val (e : Expr) (he : ∀ whole, isTrue e X.env whole = (do let v ← whole; standAt e.pos; holding [v] (truthy v))) : PT X e (RdT X.K G A0 H0 (fun ρ k => R.E C sc e ρ fun d ρ1 => dTru d fun b => k b ρ1)) := by
  refine PT.imp (pt_truth (S.E o e) he) fun σ H Q ⟨ρ, k, F, k0, f0, en, g, q⟩ => ⟨ρ, _, F, k0, f0, en, g, fun d ρ1 v H1 Fe c1 v1 _ g1 => ?_⟩
  obtain ⟨Fv, hv⟩ := v1.any
  obtain ⟨b, tb, g1⟩ := tru_D o.hG hv g1
  exact ⟨b, tb, q b ρ1 H1 Fe c1 g1⟩
theorem t_step (e : Expr) : PT X e (RdT X.K G A0 H0 (stepT R C sc e)) := by
  cases e with
  | BoolOp op vs p => exact (w_step S o op vs p).pt
  | IfExp t a b p => exact t_stuck o
  | UnaryOp op a p =>
    cases op with
    | Not => exact t_not S o a p
    | _ => exact t_val S o _ (fun _ => rfl)
  | Compare a ops bs p =>
    match ops, bs with
    | [], _ => exact t_stuck o
    | [op], [] => exact t_stuck o
    | [op], [b] => exact t_cmp S o a op b p
    | [op], _ :: _ :: _ => exact t_stuck o
    | [op, op'], [] => exact t_stuck o
    | [op, op'], [b] => exact t_stuck o
    | [op, op'], [b, c] => exact t_chain S o a op op' b c p
    | [op, op'], _ :: _ :: _ :: _ => exact t_stuck o
    | _ :: _ :: _ :: _, _ => exact t_stuck o
  | _ => exact t_val S o _ (fun _ => rfl)
/-! ### behind a written text -/
theorem p_step (e : Expr) : PET X e (RdE X.K G A0 H0 (isPath e) (isCalm e) (stepP R C sc e)) := by
  have dflt : (∀ ρ k, stepP R C sc e ρ k = R.E C sc e ρ k) → PET X e (RdE X.K G A0 H0 (isPath e) (isCalm e) (stepP R C sc e)) := fun h =>
    CwR.PET.of (PE.imp (S.E o e) fun σ H Q ⟨ρ, k, F, k0, f0, en, g, q⟩ => ⟨ρ, k, F, k0, f0, en, by rw [← h]; exact g, q⟩)
  by_cases hh : ∃ ob m ap y j c0 z j2 c1 p, e = .Call (.Attribute ob m ap) [.Constant (.str y) j c0, .Constant (.str z) j2 c1] [] p
  · obtain ⟨ob, m, ap, y, j, c0, z, j2, c1, p, rfl⟩ := hh
    by_cases hm : m = "replace"
    · subst hm
      by_cases hg : (opG ob && (ap.endLine == p.line) && !(y == z)) = true
      · have hg' := hg
        rw [Bool.and_eq_true, Bool.and_eq_true, Bool.not_eq_true'] at hg'
        intro pins s σ H Q h0 I ⟨ρ, k, F, k0, f0, en, g, q⟩
        refine CwR.pet_replT (S.P o ob) hg'.2 rfl (base_ok hg'.1.1 _ _ _) hg'.1.2 pins s σ H Q h0 I ?_
        dsimp only [stepP] at g
        rw [if_pos rfl, hg] at g
        replace g : G (R.P C sc ob ρ _) := g
        refine ⟨ρ, _, F, k0, f0, en, g, fun d ρ1 v H1 Fe c1 v1 _ g1 => ?_⟩
        obtain ⟨Fv, hv⟩ := v1.any
        obtain ⟨x, hx, g1⟩ := oK_of o.hG g1
        have hd := asS_of hx
        cases hd
        obtain ⟨hl, g1⟩ := ckK_of o.hG g1
        exact ⟨x, hv, of_decide_eq_true hl, q _ ρ1 _ H1 Fe c1 (.inr ⟨_, OwnV.pure (d := .str _) (Fx := F0) rfl rfl⟩) (fun z => nomatch z) g1⟩
      · intro pins s σ H Q h0 I ⟨ρ, k, F, k0, f0, en, g, q⟩
        dsimp only [stepP] at g
        rw [if_pos rfl, Bool.eq_false_iff.mpr hg] at g
        exact absurd g o.hG
    · refine dflt fun ρ k => ?_
      dsimp only [stepP]
      rw [if_neg hm]
  · refine dflt fun ρ k => ?_
    unfold stepP
    split
    · exact absurd ⟨_, _, _, _, _, _, _, _, _, _, rfl⟩ hh
    · rfl
theorem e_wrt (x : Str) (j : Nat) (c0 : Pos) (b : Expr) (p : Pos) : PE X (.BinOp (.Constant (.str x) j c0) .Add b p) (RdE X.K G A0 H0 false false (fun ρ k => R.P C sc b ρ fun y ρ2 => binD .Add (.str x) y fun z => k z ρ2)) := by
  refine ⟨fun pins s σ H Q I ⟨ρ, k, F, k0, f0, en, g, q⟩ => ?_⟩
  refine wpAny_BinOp (Calls.Constant_str ?_)
  refine thn (S.P o b pins { s with toks := s.toks + 1 } σ H _ (Nat.le_add_left _ _) (I.tok _) ⟨ρ, _, F, k0, f0, en, g, fun d ρ1 v H1 Fe c1 v1 _ g1 => ?_⟩) fun u s2 ⟨y, H2, I2, r2, q2⟩ => op_binD o.hG .Add pins s2 σ H2 (.str x) y _ u Q I2 ⟨_, rfl⟩ r2 q2
  obtain ⟨Fy, hy⟩ := v1.any
  exact ⟨.str x, d, F0, Fy, _, rfl, hy, g1, vend c1 q⟩
end
end TI
set_option Elab.async false
set_option linter.all false
set_option maxRecDepth 100000
set_option maxHeartbeats 4000000
/-! written dicts, and what is read of them -/
namespace TI
open PySem PySem.Spec PyProof.Rows L2
theorem merge_fresh : ∀ (more kvs : List (Key × V)), (more.map (·.1)).Nodup → (∀ p ∈ more, p.1 ∉ kvs.map (·.1)) → mergeK kvs more = kvs ++ more
  | [], kvs, _, _ => by unfold mergeK; simp
  | p :: r, kvs, nd, hd => by
    rw [List.map_cons, List.nodup_cons] at nd
    have h0 : (kvs.any fun kv => decide (kv.1 = p.1)) = false := by
      rw [List.any_eq_false]
      intro x hx e
      exact hd p List.mem_cons_self (of_decide_eq_true e ▸ List.mem_map.mpr ⟨x, hx, rfl⟩)
    have hp : putK kvs p.1 p.2 = kvs ++ [p] := by
      unfold putK
      rw [h0, if_neg (by decide)]
    show mergeK (putK kvs p.1 p.2) r = _
    rw [hp, merge_fresh r _ nd.2 fun x hx hm => ?_, List.append_assoc]
    · rfl
    · rw [List.map_append, List.mem_append] at hm
      rcases hm with hm | hm
      · exact hd x (List.mem_cons_of_mem _ hx) hm
      · have e : x.1 = p.1 := by simpa using hm
        exact nd.1 (e ▸ List.mem_map.mpr ⟨x, hx, rfl⟩)
theorem dup_nodup : ∀ {xs : List Str}, dupS xs = false → xs.Nodup
  | [], _ => List.nodup_nil
  | x :: xs, h => by
    unfold dupS at h
    rw [Bool.or_eq_false_iff] at h
    refine List.nodup_cons.mpr ⟨fun hm => ?_, dup_nodup h.2⟩
    rw [List.contains_iff_mem.mpr hm] at h
    cases h.1
theorem nodup_inr : ∀ {xs : List Str}, xs.Nodup → (xs.map Sum.inr : List Key).Nodup
  | [], _ => List.nodup_nil
  | x :: xs, h => by
    rw [List.nodup_cons] at h
    rw [List.map_cons, List.nodup_cons]
    refine ⟨fun hm => ?_, nodup_inr h.2⟩
    obtain ⟨y, hy, e⟩ := List.mem_map.mp hm
    cases e
    exact h.1 hy
theorem keys_of : ∀ {ks : List (Option Expr)} {xs : List Str}, dcK ks = some xs → ks.all (·.isSome) = true ∧ ks.length = xs.length
  | [], xs, h => by cases h; exact ⟨rfl, rfl⟩
  | none :: r, xs, h => by cases h
  | some e :: r, xs, h => by
    unfold dcK at h
    split at h
    · rename_i heq; cases heq
    · rename_i x j c r' heq
      cases heq
      cases q : dcK r with
      | none => rw [q] at h; cases h
      | some ys =>
        rw [q] at h; cases h
        obtain ⟨h1, h2⟩ := keys_of q
        exact ⟨by rw [List.all_cons, h1]; rfl, by rw [List.length_cons, List.length_cons, h2]⟩
    · cases h
theorem vals_of {K : PySem.W.Frag} : ∀ {vs : List Expr} {ds : List D}, dcV vs = some ds → ∃ ws : List V, (∀ H, Rps K H ds ws F0) ∧ D.pus ds = true ∧ vs.length = ds.length
  | [], ds, h => by cases h; exact ⟨[], fun _ => rfl, rfl, rfl⟩
  | e :: r, ds, h => by
    have go : ∀ {d : D} {v : V}, (∀ H, Rp K H d v F0) → d.pu = true → (dcV r).map (d :: ·) = some ds → ∃ ws : List V, (∀ H, Rps K H ds ws F0) ∧ D.pus ds = true ∧ (e :: r).length = ds.length := fun {d v} hr hp h => by
      cases q : dcV r with
      | none => rw [q] at h; cases h
      | some ys =>
        rw [q] at h; cases h
        obtain ⟨ws, h1, h2, h3⟩ := vals_of (K := K) q
        exact ⟨v :: ws, fun H => ⟨v, ws, F0, F0, rfl, hr H, h1 H, fun _ z => z, fun _ z => z, fun _ z => z.elim⟩, by rw [D.pus, hp, h2]; rfl, by rw [List.length_cons, List.length_cons, h3]⟩
    unfold dcV at h
    split at h
    · rename_i heq; cases heq
    · rename_i i j c r' heq; cases heq; exact go (d := .int i) (v := .int i) (fun _ => rfl) rfl h
    · rename_i i j c r' heq; cases heq; exact go (d := .bl i) (v := .bl i) (fun _ => rfl) rfl h
    · rename_i j c r' heq; cases heq; exact go (d := .non) (v := .non) (fun _ => rfl) rfl h
    · rename_i i j c r' heq; cases heq; exact go (d := .str i) (v := .str i) (fun _ => rfl) rfl h
    · cases h
theorem disp_pairs {X : Cx} {pos : Pos} : ∀ {ks : List (Option Expr)} {vs : List Expr} {xs : List Str} {ds : List D}, dcK ks = some xs → dcV vs = some ds → xs.length = ds.length →
    ∃ ws : List V, (∀ H, Rps X.K H ds ws F0) ∧ PPs X pos ks vs ((xs.zip ws).map fun q => (tC (.str q.1), tC q.2))
  | [], [], xs, ds, h1, h2, _ => by cases h1; cases h2; exact ⟨[], fun _ => rfl, pps_nil⟩
  | none :: r, vs, xs, ds, h1, _, _ => by cases h1
  | [], v :: vs, xs, ds, h1, h2, hl => by
    cases h1
    obtain ⟨ws, _, _, h3⟩ := vals_of (K := X.K) h2
    rw [← hl] at h3; cases h3
  | some e :: r, [], xs, ds, h1, h2, hl => by
    cases h2
    obtain ⟨_, h3⟩ := keys_of h1
    rw [hl] at h3; cases h3
  | some e :: r, v :: vs, xs, ds, h1, h2, hl => by
    unfold dcK at h1
    split at h1
    · rename_i heq; cases heq
    · rename_i x j c r' heq
      cases heq
      cases q : dcK r with
      | none => rw [q] at h1; cases h1
      | some ys =>
        rw [q] at h1; cases h1
        have go : ∀ {d : D} {w : V}, PE X v (tC w) → (∀ H, Rp X.K H d w F0) → (dcV vs).map (d :: ·) = some ds → ∃ ws : List V, (∀ H, Rps X.K H ds ws F0) ∧ PPs X pos (some (.Constant (.str x) j c) :: r) (v :: vs) (((x :: ys).zip ws).map fun q => (tC (.str q.1), tC q.2)) := fun {d w} hp hr h => by
          cases q2 : dcV vs with
          | none => rw [q2] at h; cases h
          | some es =>
            rw [q2] at h; cases h
            obtain ⟨ws, r1, r2⟩ := disp_pairs (X := X) (pos := pos) q q2 (by simpa using hl)
            exact ⟨w :: ws, fun H => ⟨w, ws, F0, F0, rfl, hr H, r1 H, fun _ z => z, fun _ z => z, fun _ z => z.elim⟩, pps_cons pe_str hp r2⟩
        unfold dcV at h2
        split at h2
        · rename_i heq; cases heq
        · rename_i i j c r' heq; cases heq; exact go (d := .int i) (w := .int i) pe_int (fun _ => rfl) h2
        · rename_i i j c r' heq; cases heq; exact go (d := .bl i) (w := .bl i) pe_bl (fun _ => rfl) h2
        · rename_i j c r' heq; cases heq; exact go (d := .non) (w := .non) pe_non (fun _ => rfl) h2
        · rename_i i j c r' heq; cases heq; exact go (d := .str i) (w := .str i) pe_str (fun _ => rfl) h2
        · cases h2
    · cases h1
theorem pairs_run : ∀ (l : List (Str × V)) {σ : L2.St} {H : Hp} {Q : List (V × V) → Hp → Prop}, Q (l.map fun q => (V.str q.1, q.2)) H → tPairs (l.map fun q => (tC (.str q.1), tC q.2)) σ H Q
  | [], _, _, _, h => h
  | q :: l, σ, H, Q, h => pairs_run l (Q := fun ps H3 => Q ((V.str q.1, q.2) :: ps) H3) h
theorem dct_val {K : PySem.W.Frag} {H : Hp} {key : Key} : ∀ {ks : List Key} {ds : List D} {vs : List V} {F : Fp}, ks.length = ds.length → Rps K H ds vs F → (∀ z, dctGet ks ds key = some z → ∃ v, valV (ks.zip vs) key = some v ∧ Rp K H z v F) ∧ (dctGet ks ds key = none → valV (ks.zip vs) key = none)
  | [], ds, vs, F, hl, h => ⟨fun z e => (by cases e), fun _ => rfl⟩
  | k :: ks, [], vs, F, hl, h => by cases hl
  | k :: ks, d :: ds, vs, F, hl, h => by
    obtain ⟨v, ws, G1, G2, rfl, h1, h2, s1, s2, _⟩ := h
    obtain ⟨r1, r2⟩ := dct_val (key := key) (ks := ks) (by simpa using hl) h2
    rw [List.zip_cons_cons]
    by_cases e : k = key
    · refine ⟨fun z ez => ?_, fun en => ?_⟩
      · unfold dctGet at ez
        rw [decide_eq_true e, if_pos rfl] at ez
        cases ez
        exact ⟨v, valV_pos e, Rp.mono _ _ _ _ s1 h1⟩
      · unfold dctGet at en
        rw [decide_eq_true e, if_pos rfl] at en
        cases en
    · rw [valV_neg (p := (k, v)) e]
      refine ⟨fun z ez => ?_, fun en => ?_⟩
      · unfold dctGet at ez
        rw [decide_eq_false e, if_neg (by decide)] at ez
        obtain ⟨w, w1, w2⟩ := r1 z ez
        exact ⟨w, w1, Rp.mono _ _ _ _ s2 w2⟩
      · unfold dctGet at en
        rw [decide_eq_false e, if_neg (by decide)] at en
        exact r2 en
theorem dctGet_pu {key : Key} : ∀ {ks : List Key} {ds : List D} {z : D}, D.pus ds = true → dctGet ks ds key = some z → z.pu = true
  | [], ds, z, _, e => by cases e
  | k :: ks, [], z, _, e => by cases e
  | k :: ks, d :: ds, z, h, e => by
    rw [D.pus, Bool.and_eq_true] at h
    unfold dctGet at e
    split at e
    · cases e; exact h.1
    · exact dctGet_pu h.2 e
theorem keyD_of {K : PySem.W.Frag} {H : Hp} {y : D} {key : Key} {v : V} {F : Fp} (h : keyD y = some key) (r : Rp K H y v F) : v = kV key := by
  cases y with
  | int i => cases h; exact r
  | str i => cases h; exact r
  | _ => cases h
section
variable {X : Cx} {C : Cd} {sc : Scope} {cx : CXT} {er : Er} {EX : XK} {G : Res → Prop} {A0 : Fp} {H0 : Hp} {R : Fns} (S : Snd R) (o : Okx X C sc cx er EX G A0 H0)
include S o
omit S in
theorem e_dict (ks : List (Option Expr)) (vs : List Expr) (p : Pos) : PE X (.Dict ks vs p) (RdE X.K G A0 H0 false false (fun ρ k => dctE ks vs fun d => k d ρ)) := by
  cases hk : dcK ks with
  | none =>
    refine pe_bad fun σ H Q ⟨ρ, k, F, k0, f0, en, g, q⟩ => ?_
    unfold dctE at g
    rw [hk] at g
    exact absurd g o.hG
  | some xs =>
    cases hv : dcV vs with
    | none =>
      refine pe_bad fun σ H Q ⟨ρ, k, F, k0, f0, en, g, q⟩ => ?_
      unfold dctE at g
      rw [hk, hv] at g
      exact absurd g o.hG
    | some ds =>
      cases hc : (decide (xs.length = ds.length) && !dupS xs && decide (0 < xs.length) && decide (xs.length ≤ 15)) with
      | false =>
        refine pe_bad fun σ H Q ⟨ρ, k, F, k0, f0, en, g, q⟩ => ?_
        unfold dctE at g
        rw [hk, hv] at g
        unfold oK at g
        dsimp only at g
        rw [hc] at g
        exact absurd g o.hG
      | true =>
        have hc' := hc
        rw [Bool.and_eq_true, Bool.and_eq_true, Bool.and_eq_true, decide_eq_true_eq, Bool.not_eq_true', decide_eq_true_eq, decide_eq_true_eq] at hc'
        obtain ⟨⟨⟨hl, hdup⟩, hpos⟩, h15⟩ := hc'
        obtain ⟨ka, kl⟩ := keys_of hk
        obtain ⟨_, _, pu, vl⟩ := vals_of (K := X.K) hv
        obtain ⟨ws, r1, pp⟩ := disp_pairs (X := X) (pos := p) hk hv hl
        refine PE.imp (pe_disp pp ka (by rw [kl, vl, hl]) (fun e => by rw [e] at kl; simp at kl; omega) (by omega)) fun σ H Q ⟨ρ, k, F, k0, f0, en, g, q⟩ => ?_
        unfold dctE at g
        rw [hk, hv] at g
        unfold oK at g
        dsimp only at g
        rw [hc] at g
        replace g : G (k (.dct (xs.map .inr) ds) ρ) := g
        intro a ha
        have wl : ws.length = ds.length := Rps.length _ _ _ (r1 H)
        refine pairs_run (xs.zip ws) ⟨upd_same, (xs.map .inr).zip ws, ?_, ?_, ?_⟩
        · rw [List.zip_map_left, List.map_map]
          rfl
        · rw [List.length_zip, List.length_map]; omega
        · have nd : (((xs.map Sum.inr : List Key).zip ws).map (·.1)).Nodup := by
            rw [List.map_fst_zip (by rw [List.length_map]; omega)]
            exact nodup_inr (dup_nodup hdup)
          rw [merge_fresh _ [] nd (fun _ _ z => by simp at z), List.nil_append, upd_upd]
          have kp : Keep F H (upd H a (.dK ((xs.map Sum.inr).zip ws))) := Keep.new ha
          have kp0 : Keep F0 H (upd H a (.dK ((xs.map Sum.inr).zip ws))) := Keep.new ha
          have c := (Ch.refl en).grow kp0
          refine q (.dct (xs.map .inr) ds) ρ (.ref a) _ _ c (.inr ⟨fun b => b = a, fun b e => .inr (by rw [e]; exact ha), fun b z e => z.2 (by rw [show b = a from e]; exact ha), ⟨a, ws, rfl, upd_same, by rw [List.length_map]; exact hl, rfl, Rps.mono _ _ _ _ (fun _ z => z.elim) (r1 _)⟩, fun b e => by rw [show b = a from e, upd_same]; exact fun z => nomatch z⟩) (fun z => nomatch z) g
theorem e_dctIx (ks : List (Option Expr)) (vs : List Expr) (dp : Pos) (i : Expr) (p : Pos) (hi : notSl i = true) : PE X (.Subscript (.Dict ks vs dp) i p) (RdE X.K G A0 H0 true false (fun ρ k => R.E C sc (.Dict ks vs dp) ρ fun d ρ1 => (match d with
    | .dct ks ds => pusK ds (R.E C sc i ρ1 fun y ρ2 => oK (keyD y) fun key => oK (dctGet ks ds key) fun z => k z ρ2)
    | _ => .stuck))) := by
  have ns : NoSl i := by
    cases i <;> first
      | exact fun _ _ => rfl
      | cases hi
  refine PE.imp (pe_dget (by have := o.room; omega) (S.E o (.Dict ks vs dp)) (S.E o i) ns) fun σ H Q ⟨ρ, k, F, k0, f0, en, g, q⟩ => ?_
  refine ⟨ρ, _, F, k0, f0, en, g, fun d ρ1 v H1 Fe c1 v1 _ g1 => ?_⟩
  cases d with
  | dct ks ds =>
    obtain ⟨pu, g1⟩ := pusK_of o.hG g1
    obtain ⟨Fv, ow⟩ := v1.own fun z => nomatch z
    refine ⟨ρ1, _, Fe, c1.keep k0 f0, c1.from k0 f0, c1.en, g1, fun y ρ2 w H2 Fe2 c2 v2 _ g2 => ?_⟩
    obtain ⟨key, hk, g2⟩ := oK_of o.hG g2
    obtain ⟨z, hz, g2⟩ := oK_of o.hG g2
    obtain ⟨Fy, hy⟩ := v2.any
    have ey := keyD_of hk hy
    obtain ⟨a, us, rfl, ha, hl, hF, hus⟩ := (ow.held c2).rp
    obtain ⟨u, hu, ru⟩ := (dct_val hl hus).1 z hz
    refine ⟨a, u, rfl, .inl ⟨_, key, .inl ha, ey, hu.symm⟩, q z ρ2 u H2 Fe2 (c1.trans c2) (.inr ⟨_, OwnV.pure ru (dctGet_pu pu hz)⟩) (fun z => nomatch z) g2⟩
  | _ => exact absurd g1 o.hG
theorem e_get2 (ks : List (Option Expr)) (vs : List Expr) (dp : Pos) (a e : Expr) (ap p : Pos) (hl : (ap.endLine == p.line) = true) (hst : noStar [a, e] = true) : PE X (.Call (.Attribute (.Dict ks vs dp) "get" ap) [a, e] [] p) (RdE X.K G A0 H0 false false (get2E R C sc (.Dict ks vs dp) a e)) := by
  obtain ⟨h1, h2⟩ := star_cons hst X.env
  obtain ⟨h3, _⟩ := star_cons h2 X.env
  have m : M2 X (.Dict ks vs dp) "get" ap a e p := ⟨rfl, all_few S o hst (by show 2 < 20; decide), hl, by rw [h1, h3]; rfl⟩
  refine PE.imp (pe_dget2 (by have := o.room; omega) (S.E o (.Dict ks vs dp)) (S.E o a) (S.E o e) m) fun σ H Q ⟨ρ, k, F, k0, f0, en, g, q⟩ => ?_
  unfold get2E at g
  refine ⟨ρ, _, F, k0, f0, en, g, fun d ρ1 v H1 Fe c1 v1 _ g1 => ?_⟩
  cases d with
  | dct ks ds =>
    obtain ⟨_, g1⟩ := ckK_of o.hG g1
    obtain ⟨pu, g1⟩ := pusK_of o.hG g1
    obtain ⟨Fv, ow⟩ := v1.own fun z => nomatch z
    obtain ⟨b, us, rfl, hb, hlen, hF, hus⟩ := ow.rp
    refine ⟨b, rfl, .inl ⟨_, .inl hb⟩, ρ1, _, Fe, c1.keep k0 f0, c1.from k0 f0, c1.en, g1, fun y ρ2 w H2 Fe2 c2 v2 _ g2 => ?_⟩
    have c12 := c1.trans c2
    refine ⟨ρ2, _, Fe2, c12.keep k0 f0, c12.from k0 f0, c12.en, g2, fun z ρ3 zv H3 Fe3 c3 v3 _ g3 => ?_⟩
    obtain ⟨key, hk, g3⟩ := oK_of o.hG g3
    obtain ⟨pz, g3⟩ := puK_of o.hG g3
    obtain ⟨Fy, hy⟩ := v2.any
    have ey := keyD_of hk hy
    obtain ⟨b', us', e', hb', hl', _, hus'⟩ := ((ow.held c2).held c3).rp
    cases e'
    obtain ⟨Fz, rz⟩ := v3.any
    cases hg : dctGet ks ds key with
    | some x =>
      rw [hg] at g3
      obtain ⟨u, hu, ru⟩ := (dct_val hl' hus').1 x hg
      exact ⟨some u, .inl ⟨_, key, .inl hb', ey, hu.symm⟩, q x ρ3 u H3 Fe3 (c12.trans c3) (.inr ⟨_, OwnV.pure ru (dctGet_pu pu hg)⟩) (fun z => nomatch z) g3⟩
    | none =>
      rw [hg] at g3
      exact ⟨none, .inl ⟨_, key, .inl hb', ey, ((dct_val hl' hus').2 hg).symm⟩, q z ρ3 zv H3 Fe3 (c12.trans c3) (.inr ⟨_, OwnV.pure rz pz⟩) (fun z => nomatch z) g3⟩
  | _ => exact absurd g1 o.hG
end
end TI
set_option Elab.async false
set_option linter.all false
set_option maxRecDepth 100000
set_option maxHeartbeats 4000000
/-! what is walked; targets -/
namespace TI
open PySem PySem.Spec PyProof.Rows L2



/-- what a walk yields, as long as what B holds is kept -/
structure Src (K : PySem.W.Frag) (J : It) (ds : List D) (B : Fp) (H0 : Hp) : Prop where
  go : ∀ H, Keep (fun a => ¬ B a) H0 H → ∀ i, i < ds.length → J.go i H
  yld : ∀ H, Keep (fun a => ¬ B a) H0 H → ∀ i x H', J.yld i H x H' → i < ds.length → H' = H ∧ ∃ d, ds[i]? = some d ∧ Rp K H d x F0
  stop : ∀ H, Keep (fun a => ¬ B a) H0 H → J.stop ds.length H
def RdI (K : PySem.W.Frag) (G : Res → Prop) (A0 : Fp) (H0 : Hp) (f : Env → (List D → Env → Res) → Res) : L2.TI := fun σ H R => ∃ ρ k F, Keep A0 H0 H ∧ Fr A0 H0 F ∧ Ens K H ρ σ F ∧ G (f ρ k) ∧
  ∀ ds ρ' J H' Fe B, Ch K σ F H ρ Fe H' ρ' → Src K J ds B H' → (∀ a, B a → H' a ≠ none) → Dis Fe B → D.pus ds = true → G (k ds ρ') → R J H'
def iSeq (K : PySem.W.Frag) (tl : TE) : L2.TI := fun σ H R => tl σ H fun x H1 => ∃ a, x = .ref a ∧ (((∃ xs, SqL K H1 a xs) ∧ R (Itl K a) H1) ∨ ((∃ xs, SqT K H1 a xs) ∧ R (Itt K a) H1))
theorem pi_seq {X : Cx} {tg l : Expr} {tl : TE} (hl : PE X l tl) : PI X tg l (iSeq X.K tl) := by
  refine ⟨fun pins s σ H R I h => ?_⟩
  refine thn (hl.run pins s σ H _ I h) fun v s1 ⟨x, H1, I1, r1, q1⟩ => ?_
  obtain ⟨a, e, q⟩ := q1
  subst e
  cases r1
  rcases q with ⟨⟨xs, hq⟩, q⟩ | ⟨⟨xs, hq⟩, q⟩
  · obtain ⟨its, rv, p, hz⟩ := I1.list hq
    refine wpAny_pyIter_list p.isList ?_
    refine ⟨s1.heap.objs.size, [s1.heap.objs.size], _, _, H1, rfl, I1.kept (t' := s1.toks) fun b o e => Heap.get?_push_of_some _ e, turn_list a _, ⟨_, Heap.get?_push_size _ rfl, rfl, rfl⟩, fun b hb => ?_, q⟩
    have e : b = s1.heap.objs.size := by simpa using hb
    subst e
    exact I1.fpOk (Nat.le_refl _) (I1.hok.fresh (Nat.le_refl _))
  · obtain ⟨its, rv, p, hz⟩ := I1.tuple hq
    refine wpAny_pyIter_tuple (show s1.heap.IsTuple a its.toArray from p) ?_
    refine ⟨s1.heap.objs.size, [s1.heap.objs.size], _, _, H1, rfl, I1.kept (t' := s1.toks) fun b o e => Heap.get?_push_of_some _ e, turn_tuple a _, ⟨_, Heap.get?_push_size _ rfl, rfl, rfl⟩, fun b hb => ?_, q⟩
    have e : b = s1.heap.objs.size := by simpa using hb
    subst e
    exact I1.fpOk (Nat.le_refl _) (I1.hok.fresh (Nat.le_refl _))
theorem Rps.idx {K : PySem.W.Frag} {H : Hp} {ds : List D} {vs : List V} {F : Fp} (h : Rps K H ds vs F) {i : Nat} {x : V} (e : vs[i]? = some x) : ∃ d, ds[i]? = some d ∧ Rp K H d x F := by
  have hl := Rps.length _ _ _ h
  have hi : i < vs.length := (List.getElem?_eq_some_iff.mp e).1
  have hi2 : i < ds.length := by omega
  obtain ⟨v, hv, r⟩ := Rps.get _ _ _ i ds[i] h (List.getElem?_eq_getElem hi2)
  rw [e] at hv; cases hv
  exact ⟨_, List.getElem?_eq_getElem hi2, r⟩
theorem src_list {K : PySem.W.Frag} {ds : List D} {B : Fp} {H0 : Hp} {a : Addr} {vs : List V} (hq : ∀ H, Keep (fun a => ¬ B a) H0 H → SqL K H a vs) (hr : Rps K H0 ds vs F0) : Src K (Itl K a) ds B H0 := by
  have hl := Rps.length _ _ _ hr
  refine ⟨fun H k i hi => ?_, fun H k i x H' hy hi => ?_, fun H k => ⟨vs, hq H k, by omega⟩⟩
  · have : i < vs.length := by omega
    exact ⟨vs, vs[i], hq H k, List.getElem?_eq_getElem this⟩
  · obtain ⟨e, hx⟩ := hy
    exact ⟨e, Rps.idx (Rps.stay k _ _ _ (fun _ z => z.elim) hr) (hx vs (hq H k))⟩
theorem src_tup {K : PySem.W.Frag} {ds : List D} {B : Fp} {H0 : Hp} {a : Addr} {vs : List V} (hq : ∀ H, Keep (fun a => ¬ B a) H0 H → SqT K H a vs) (hr : Rps K H0 ds vs F0) : Src K (Itt K a) ds B H0 := by
  have hl := Rps.length _ _ _ hr
  refine ⟨fun H k i hi => ?_, fun H k i x H' hy hi => ?_, fun H k => ⟨vs, hq H k, by omega⟩⟩
  · have : i < vs.length := by omega
    exact ⟨vs, vs[i], hq H k, List.getElem?_eq_getElem this⟩
  · obtain ⟨e, hx⟩ := hy
    exact ⟨e, Rps.idx (Rps.stay k _ _ _ (fun _ z => z.elim) hr) (hx vs (hq H k))⟩
theorem rngL_length (lo : Int) (n : Nat) : (rngL lo n).length = n := by unfold rngL; simp
theorem rngL_get (lo : Int) (n i : Nat) (h : i < n) : (rngL lo n)[i]? = some (.int (lo + i)) := by unfold rngL; simp [h]
theorem rngL_pus (lo : Int) (n : Nat) : D.pus (rngL lo n) = true := by
  have : ∀ l : List Nat, D.pus (l.map fun (i : Nat) => D.int (lo + (i : Int))) = true := fun l => by
    induction l with
    | nil => rfl
    | cons a l ih => rw [List.map_cons, D.pus, ih]; rfl
  exact this _
theorem src_rng {K : PySem.W.Frag} {lo : Int} {n : Nat} {B : Fp} {H0 : Hp} : Src K (Itr lo n) (rngL lo n) B H0 := by
  refine ⟨fun H k i hi => ?_, fun H k i x H' hy hi => ?_, fun H k => ?_⟩
  · rw [rngL_length] at hi; exact hi
  · rw [rngL_length] at hi
    obtain ⟨e, hx⟩ := hy
    exact ⟨e, _, rngL_get lo n i hi, by rw [hx]; rfl⟩
  · show n ≤ _
    rw [rngL_length]; exact Nat.le_refl _
section
variable {X : Cx} {C : Cd} {sc : Scope} {cx : CXT} {er : Er} {EX : XK} {G : Res → Prop} {A0 : Fp} {H0 : Hp} {R : Fns} (S : Snd R) (o : Okx X C sc cx er EX G A0 H0)
include S o
omit S o in
theorem pi_imp {X : Cx} {tg e : Expr} {t t' : L2.TI} (h : PI X tg e t) (w : ∀ σ H R, t' σ H R → t σ H R) : PI X tg e t' := ⟨fun pins s σ H R I q => h.run pins s σ H R I (w σ H R q)⟩
omit S o in
theorem pi_bad {X : Cx} {tg e : Expr} {t : L2.TI} (h : ∀ σ H R, t σ H R → False) : PI X tg e t := ⟨fun pins s σ H R I q => (h σ H R q).elim⟩
theorem i_val (tg e : Expr) : PI X tg e (RdI X.K G A0 H0 (fun ρ k => R.E C sc e ρ fun d ρ1 => seqK e d fun ds => k ds ρ1)) := by
  refine pi_imp (pi_seq (S.E o e)) fun σ H R' ⟨ρ, k, F, k0, f0, en, g, q⟩ => ?_
  refine ⟨ρ, _, F, k0, f0, en, g, fun d ρ1 v H1 Fe c1 v1 _ g1 => ?_⟩
  cases d with
  | tup ds =>
    obtain ⟨Fv, a, vs, rfl, hq, pu, hr⟩ := v1.any
    refine ⟨a, rfl, .inr ⟨⟨vs, hq⟩, q ds ρ1 _ H1 Fe F0 c1 (src_tup (fun H k => sqt_keep k hq) (Rps.pure _ _ _ pu hr)) (fun _ z => z.elim) (fun _ _ z => z) pu g1⟩⟩
  | rol ds =>
    obtain ⟨Fv, a, vs, rfl, hq, pu, hr⟩ := v1.any
    refine ⟨a, rfl, .inl ⟨⟨vs, hq.sq⟩, q ds ρ1 _ H1 Fe F0 c1 (src_list (fun H k => (sqf_keep k hq).sq) (Rps.pure _ _ _ pu hr)) (fun _ z => z.elim) (fun _ _ z => z) pu g1⟩⟩
  | lst ds =>
    obtain ⟨hp, g1⟩ := ckK_of o.hG g1
    rw [Bool.not_eq_true'] at hp
    obtain ⟨pu, g1⟩ := pusK_of o.hG g1
    obtain ⟨Fv, ow⟩ := v1.own fun z => by rw [hp] at z; cases z
    obtain ⟨a, vs, rfl, hq, ha, hr⟩ := ow.rp
    refine ⟨a, rfl, .inl ⟨⟨vs, .inl (.inl hq)⟩, q ds ρ1 _ H1 Fe Fv c1 (src_list (fun H k => .inl (.inl (k.k _ _ hq (.inl fun z => z ha)))) (Rps.pure _ _ _ pu hr)) ow.tr ow.dj pu g1⟩⟩
  | _ => exact absurd g1 o.hG
theorem i_rng (tg : Expr) (fp p : Pos) (args : List Expr) (hb : isBi C sc "range" = true) (hst : noStar args = true) : PI X tg (.Call (.Name "range" fp) args [] p) (RdI X.K G A0 H0 (rngE R C sc args)) := by
  obtain ⟨f1, f2, f3⟩ := isBi_of hb
  match args, hst with
  | [], _ => exact pi_bad fun σ H R' ⟨ρ, k, F, k0, f0, en, g, q⟩ => absurd g o.hG
  | _ :: _ :: _ :: _, _ => exact pi_bad fun σ H R' ⟨ρ, k, F, k0, f0, en, g, q⟩ => absurd g o.hG
  | [a], hst =>
    obtain ⟨h1, h2⟩ := star_cons hst X.env
    refine pi_imp (pi_range1 (o.toCok.glx f1) (o.bi _ f3) (S.A o [a]) h1) fun σ H R' ⟨ρ, k, F, k0, f0, en, g, q⟩ => ?_
    refine ⟨ρ, _, F, k0, f0, en, g, fun as ρ1 vs H1 Fe Fv c1 fr dj tr ar g1 => ?_⟩
    obtain ⟨ds, hds, g1⟩ := resB_of o.hG ar c1.en g1
    have key : ∃ hi, ds = [.int hi] ∧ G (ckK (smallI hi) (k (rngL 0 hi.toNat) ρ1)) := by
      split at g1
      · exact ⟨_, rfl, g1⟩
      · exact absurd g1 o.hG
    obtain ⟨hi, rfl, g1⟩ := key
    obtain ⟨w, ws, F', rfl, hw, hn⟩ := hds
    cases (show ws = [] from hn)
    cases (show w = .int hi from hw)
    obtain ⟨hs, g1⟩ := ckK_of o.hG g1
    unfold smallI at hs
    rw [decide_eq_true_eq] at hs
    exact ⟨hi, rfl, by omega, by omega, q _ ρ1 _ H1 Fe F0 c1 src_rng (fun _ z => z.elim) (fun _ _ z => z) (rngL_pus _ _) g1⟩
  | [a, b], hst =>
    obtain ⟨h1, h2⟩ := star_cons hst X.env
    obtain ⟨h3, h4⟩ := star_cons h2 X.env
    refine pi_imp (pi_range2 (o.toCok.glx f1) (o.bi _ f3) (S.A o [a, b]) (by rw [h1, h3]; rfl) h3) fun σ H R' ⟨ρ, k, F, k0, f0, en, g, q⟩ => ?_
    refine ⟨ρ, _, F, k0, f0, en, g, fun as ρ1 vs H1 Fe Fv c1 fr dj tr ar g1 => ?_⟩
    obtain ⟨ds, hds, g1⟩ := resB_of o.hG ar c1.en g1
    have key : ∃ lo hi, ds = [.int lo, .int hi] ∧ G (ckK (smallI lo && smallI hi) (k (rngL lo (hi - lo).toNat) ρ1)) := by
      split at g1
      · exact ⟨_, _, rfl, g1⟩
      · exact absurd g1 o.hG
    obtain ⟨lo, hi, rfl, g1⟩ := key
    obtain ⟨w, ws, F', rfl, hw, hn⟩ := hds
    obtain ⟨w2, ws2, F2, rfl, hw2, hn2⟩ := hn
    cases (show ws2 = [] from hn2)
    cases (show w = .int lo from hw)
    cases (show w2 = .int hi from hw2)
    obtain ⟨hs, g1⟩ := ckK_of o.hG g1
    unfold smallI at hs
    rw [Bool.and_eq_true, decide_eq_true_eq, decide_eq_true_eq] at hs
    exact ⟨lo, hi, rfl, ⟨by omega, by omega, by omega, by omega⟩, q _ ρ1 _ H1 Fe F0 c1 src_rng (fun _ z => z.elim) (fun _ _ z => z) (rngL_pus _ _) g1⟩
theorem i_iter (tg e : Expr) : PI X tg e (RdI X.K G A0 H0 (iterE R C sc e)) := by
  cases hs : isSet e with
  | true =>
    refine pi_bad fun σ H R' ⟨ρ, k, F, k0, f0, en, g, q⟩ => ?_
    unfold iterE at g
    rw [hs] at g
    exact absurd g o.hG
  | false =>
    have dflt : (∀ ρ k, iterE R C sc e ρ k = R.E C sc e ρ fun d ρ1 => seqK e d fun ds => k ds ρ1) → PI X tg e (RdI X.K G A0 H0 (iterE R C sc e)) := fun h =>
      pi_imp (i_val S o tg e) fun σ H R' ⟨ρ, k, F, k0, f0, en, g, q⟩ => ⟨ρ, k, F, k0, f0, en, by have g' := g; rw [h] at g'; exact g', q⟩
    cases hf : rngF e with
    | none =>
      refine dflt fun ρ k => ?_
      unfold iterE
      rw [hs, hf]; rfl
    | some fa =>
      obtain ⟨f, args⟩ := fa
      by_cases hr : f = "range"
      · subst hr
        obtain ⟨fp, p, rfl⟩ : ∃ fp p, e = .Call (.Name "range" fp) args [] p := by
          unfold rngF at hf
          split at hf
          · cases hf; exact ⟨_, _, rfl⟩
          · cases hf
        cases hb : isBi C sc "range" && noStar args with
        | false =>
          refine pi_bad fun σ H R' ⟨ρ, k, F, k0, f0, en, g, q⟩ => ?_
          unfold iterE at g
          rw [hs, hf] at g
          dsimp only at g
          rw [if_pos rfl, hb] at g
          exact absurd g o.hG
        | true =>
          rw [Bool.and_eq_true] at hb
          refine pi_imp (i_rng S o tg fp p args hb.1 hb.2) fun σ H R' ⟨ρ, k, F, k0, f0, en, g, q⟩ => ⟨ρ, k, F, k0, f0, en, ?_, q⟩
          unfold iterE at g
          rw [hs, hf] at g
          dsimp only at g
          rw [if_pos rfl, hb.1, hb.2] at g
          exact g
      · refine dflt fun ρ k => ?_
        unfold iterE
        rw [hs, hf]
        dsimp only
        rw [if_neg hr]
        rfl
/-! ### targets -/
def RdGs (K : PySem.W.Frag) (G : Res → Prop) (C : Cd) (sc : Scope) (f : List D → Env → (Env → Res) → Res) : TGs := fun vs σ H Q => ∃ ρ k F ds, Ens K H ρ σ F ∧ Rps K H ds vs F0 ∧ D.pus ds = true ∧ G (f ds ρ k) ∧
  ∀ ρ' σ' F', (∀ a, F' a → F a) → Ens K H ρ' σ' F' → Sl C sc σ σ' → Imp ρ ρ' → (∀ vs, Par C.np vs σ ρ → Par C.np vs σ' ρ') → G (k ρ') → Q σ' H
omit S o in
theorem asg_cons {e : Expr} {es : List Expr} (h : noStar (e :: es) = true) (env : PySem.Env) : assignEach (e :: es) env = (false, assign e env) :: assignEach es env := by
  cases e <;> first
    | rfl
    | cases h
omit S o in
theorem asg_len : ∀ {es : List Expr} (h : noStar es = true) (env : PySem.Env), (assignEach es env).length = es.length ∧ (assignEach es env).findIdx? (·.1) = none
  | [], _, _ => ⟨rfl, rfl⟩
  | e :: es, h, env => by
    obtain ⟨h1, h2⟩ := asg_len (star_cons h env).2 env
    rw [asg_cons h]
    refine ⟨by rw [List.length_cons, List.length_cons, h1], ?_⟩
    rw [List.findIdx?_cons]
    simp [h2]
omit S o in
theorem Sl.refl (σ : L2.St) : Sl C sc σ σ := ⟨rfl, fun j h => absurd rfl h⟩
omit S o in
theorem Sl.trans {a b c : L2.St} (h : Sl C sc a b) (g : Sl C sc b c) : Sl C sc a c := ⟨g.1.trans h.1, fun j n => by
  by_cases e : c[j]? = b[j]?
  · exact h.2 j (by rw [← e]; exact n)
  · exact g.2 j e⟩
theorem g_list : ∀ (es : List Expr), noStar es = true → PGs X es (RdGs X.K G C sc (tgsE R C sc es))
  | [], _ => by
    refine ⟨fun pins s σ H vs us Q I r ⟨ρ, k, F, ds, en, hr, pu, g, q⟩ => pgs_nil.run pins s σ H vs us Q I r ?_⟩
    cases ds with
    | nil => exact ⟨hr, q ρ σ F (fun _ z => z) en (Sl.refl σ) (Imp.refl _) (fun _ z => z) g⟩
    | cons d ds => exact absurd g o.hG
  | e :: es, h => by
    obtain ⟨_, h2⟩ := star_cons h X.env
    refine ⟨fun pins s σ H vs us Q I r ⟨ρ, k, F, ds, en, hr, pu, g, q⟩ => (pgs_cons (S.G o e) (g_list es h2) (by rw [asg_cons h]; rfl)).run pins s σ H vs us Q I r ?_⟩
    cases ds with
    | nil => exact absurd g o.hG
    | cons d ds =>
      obtain ⟨v, ws, G1, G2, rfl, h1, hr, s1, s2, _⟩ := hr
      rw [D.pus, Bool.and_eq_true] at pu
      refine ⟨v, ws, rfl, ρ, _, F, d, F0, en, Rp.mono _ _ _ _ s1 h1, fun _ _ z => z, g, fun ρ1 σ1 F1 f1 en1 sl1 im1 pa1 g1 => ?_⟩
      refine ⟨ρ1, _, F1, ds, en1, Rps.mono _ _ _ _ s2 hr, pu.2, g1, fun ρ2 σ2 F2 f2 en2 sl2 im2 pa2 g2 => ?_⟩
      exact q ρ2 σ2 F2 (fun a z => (f1 a (f2 a z)).elim id fun z => z.elim) en2 (sl1.trans sl2) ((im1 pu.1).trans im2) (fun vs z => pa2 vs (pa1 vs z)) g2
theorem g_step (e : Expr) : PG X e (RdG X.K G C sc (stepG R C sc e)) := by
  cases e with
  | Name x p =>
    cases hs : slotOf C sc x with
    | none =>
      refine pg_bad fun v σ H Q ⟨ρ, k, F, d, Fv, en, rp, dj, g, q⟩ => ?_
      dsimp only [stepG] at g
      rw [hs] at g
      exact absurd g o.hG
    | some i =>
      cases hc : C.own x && locl sc x with
      | false =>
        refine pg_bad fun v σ H Q ⟨ρ, k, F, d, Fv, en, rp, dj, g, q⟩ => ?_
        dsimp only [stepG] at g
        rw [hs] at g
        dsimp only at g
        rw [hc] at g
        exact absurd g o.hG
      | true =>
        rw [Bool.and_eq_true] at hc
        obtain ⟨x1, x2, x3, x4⟩ := o.toCok.visx hs
        have hl : Loc X.env.scope x := by rw [o.hsc]; exact locl_of hc.2
        refine ⟨fun pins s σ H v u Q I r ⟨ρ, k, F, d, Fv, en, rp, dj, g, q⟩ => (pg_name (pos := p) o.nd x1 hl (o.own x hc.1 hc.2)).run pins s σ H v u Q I r ?_⟩
        show Q (σ.set i (some v)) H
        dsimp only [stepG] at g
        rw [hs] at g
        dsimp only at g
        rw [hc.1, hc.2] at g
        replace g : G (setK C i d ρ k) := g
        have sl : Sl C sc σ (σ.set i (some v)) := ⟨List.length_set, fun j hj => by
          by_cases e : i = j
          · subst e; exact ⟨x, hc.1, hc.2, hs⟩
          · rw [List.getElem?_set_ne e] at hj; exact absurd rfl hj⟩
        have im : d.pu = true → Imp ρ (ρ.set i (some d)) := fun pu j d' e p' => by
          by_cases hj : i = j
          · subst hj
            rw [List.getElem?_set] at e
            rw [if_pos rfl] at e
            split at e
            · cases e; rw [pu] at p'; cases p'
            · cases e
          · rw [List.getElem?_set_ne hj] at e; exact ⟨d', e, p'⟩
        have pa : (i < C.np → d.pu = true) → ∀ vs, Par C.np vs σ ρ → Par C.np vs (σ.set i (some v)) (ρ.set i (some d)) := fun hd vs hp j d' hj e p' => by
          by_cases hij : i = j
          · subst hij
            rw [List.getElem?_set] at e
            rw [if_pos rfl] at e
            split at e
            · cases e; rw [hd hj] at p'; cases p'
            · cases e
          · rw [List.getElem?_set_ne hij] at e
            rw [List.getElem?_set_ne hij]
            exact hp j d' hj e p'
        unfold setK at g
        by_cases hnp : i < C.np
        · rw [if_pos hnp] at g
          obtain ⟨pu, g⟩ := puK_of o.hG g
          split at g
          · obtain ⟨_, g⟩ := puK_of o.hG g
            exact q _ _ _ (fun a z => z) (Ens.put _ _ _ _ i d v en rp dj) sl im (pa fun _ => pu) g
          · exact absurd g o.hG
        · rw [if_neg hnp] at g
          exact q _ _ _ (fun a z => z) (Ens.put _ _ _ _ i d v en rp dj) sl im (pa fun z => absurd z hnp) g
  | Tuple es n p =>
    cases hst : noStar es with
    | false =>
      refine pg_bad fun v σ H Q ⟨ρ, k, F, d, Fv, en, rp, dj, g, q⟩ => ?_
      dsimp only [stepG] at g
      rw [hst] at g
      exact absurd g o.hG
    | true =>
      obtain ⟨l1, l2⟩ := asg_len hst X.env
      refine ⟨fun pins s σ H v u Q I r ⟨ρ, k, F, d, Fv, en, rp, dj, g, q⟩ => ?_⟩
      dsimp only [stepG] at g
      rw [hst] at g
      cases d with
      | tup ds =>
        replace g : G (ckK (decide (ds.length = es.length)) (tgsE R C sc es ds ρ k)) := g
        obtain ⟨hl, g⟩ := ckK_of o.hG g
        obtain ⟨a, vs, rfl, hq, pu, hr⟩ := rp
        refine (pg_tup (k := n) (pos := p) o.calm (g_list S o es hst) l1 l2).run pins s σ H _ u Q I r ?_
        refine ⟨a, vs, rfl, hq, by rw [Rps.length _ _ _ hr]; exact of_decide_eq_true hl, ρ, k, F, ds, en, Rps.pure _ _ _ pu hr, pu, g, fun ρ' σ' F' f' en' sl im pa g' => ?_⟩
        exact q ρ' σ' F' (fun a z => .inl (f' a z)) en' sl (fun _ => im) pa g'
      | lst ds =>
        replace g : G (ckK (decide (ds.length = es.length)) (pusK ds (tgsE R C sc es ds ρ k))) := g
        obtain ⟨hl, g⟩ := ckK_of o.hG g
        obtain ⟨pu, g⟩ := pusK_of o.hG g
        obtain ⟨a, vs, rfl, hq, _, hr⟩ := rp
        refine (pg_lst (k := n) (pos := p) o.calm (g_list S o es hst) l1 l2).run pins s σ H _ u Q I r ?_
        refine ⟨a, vs, rfl, .inl (.inl hq), by rw [Rps.length _ _ _ hr]; exact of_decide_eq_true hl, ρ, k, F, ds, en, Rps.pure _ _ _ pu hr, pu, g, fun ρ' σ' F' f' en' sl im pa g' => ?_⟩
        exact q ρ' σ' F' (fun a z => .inl (f' a z)) en' sl (fun _ => im) pa g'
      | _ => exact absurd g o.hG
  | _ => exact pg_bad fun v σ H Q ⟨ρ, k, F, d, Fv, en, rp, dj, g, q⟩ => absurd g o.hG
end
end TI
set_option Elab.async false
set_option linter.all false
set_option maxRecDepth 100000
set_option maxHeartbeats 4000000
/-! list comprehensions -/
namespace TI
open PySem PySem.Spec PyProof.Rows L2



section
variable {K : PySem.W.Frag} {H H' : Hp}
theorem ens_wipe {ρ : Env} {σ : L2.St} {F : Fp} (h : Ens K H ρ σ F) : ∀ vs : List Nat, Ens K H (wipeE ρ vs) σ F
  | [] => h
  | v :: vs => Ens.forget _ _ _ v (ens_wipe h vs)
/-- a slot of which nothing is known -/
theorem ens_any {ρ : Env} {σ : L2.St} {F : Fp} (h : Ens K H ρ σ F) (v : Nat) (x : Option V) : Ens K H (ρ.set v none) (σ.set v x) F := by
  have h1 := Ens.forget _ _ _ v h
  have hl := Ens.length _ _ _ h
  by_cases hv : v < ρ.length
  · exact Ens.other _ _ _ v x h1 (by rw [List.getElem?_set_self hv]; exact fun z => nomatch z) (by rw [List.getElem?_set_self hv]; exact fun d z => nomatch z)
  · rw [List.set_eq_of_length_le (by omega)] at h1
    rw [List.set_eq_of_length_le (by omega), List.set_eq_of_length_le (by omega)]
    exact h1
theorem ens_wipe2 {ρ : Env} {σ : L2.St} {F : Fp} (h : Ens K H ρ σ F) : ∀ vs : List Nat, Ens K H (wipeE ρ vs) (L2.wipe σ vs) F
  | [] => h
  | v :: vs => ens_any (ens_wipe2 h vs) v none
theorem ens_back {ρ0 : Env} {σ : L2.St} (hl : σ.length = ρ0.length) : ∀ (vs : List Nat) (ρ : Env) (τ : L2.St) (F : Fp), hidOk ρ0 vs = true → (∀ v d, v ∈ vs → ρ0[v]? = some (some d) → ∃ x, σ[v]? = some (some x) ∧ Rp K H d x F0) → τ.length = σ.length → (∀ j : Nat, j ∉ vs → τ[j]? = σ[j]?) →
    Ens K H ρ τ F → Ens K H (wipeB ρ ρ0 vs) σ F
  | [], ρ, τ, F, _, _, _, ag, h => by
    have : τ = σ := List.ext_getElem? fun j => ag j (by simp)
    rw [← this]; exact h
  | v :: vs, ρ, τ, F, hid, hv, le, ag, h => by
    unfold hidOk at hid
    rw [Bool.and_eq_true] at hid
    unfold wipeB
    have hlt : v < σ.length := by
      rw [hl]
      cases e : ρ0[v]? with
      | none => rw [e] at hid; cases hid.1
      | some o => exact (List.getElem?_eq_some_iff.mp e).1
    have ag' : ∀ x : Option V, σ[v]? = some x → ∀ j : Nat, j ∉ vs → (τ.set v x)[j]? = σ[j]? := fun x hx j hj => by
      by_cases e : v = j
      · subst e
        rw [List.getElem?_set_self (by omega), hx]
      · rw [List.getElem?_set_ne e]
        exact ag j (by simp; exact ⟨fun z => e z.symm, hj⟩)
    cases e : ρ0[v]? with
    | none => rw [e] at hid; cases hid.1
    | some o =>
      rw [e] at hid
      cases o with
      | none =>
        refine ens_back hl vs _ (τ.set v (σ[v])) F hid.2 (fun u d hu => hv u d (List.mem_cons_of_mem _ hu)) (by rw [List.length_set, le]) (ag' _ (List.getElem?_eq_getElem hlt)) ?_
        exact ens_any h v _
      | some d =>
        obtain ⟨x, hx, r⟩ := hv v d List.mem_cons_self e
        refine ens_back hl vs _ (τ.set v (some x)) F hid.2 (fun u d hu => hv u d (List.mem_cons_of_mem _ hu)) (by rw [List.length_set, le]) (ag' _ hx) ?_
        exact Ens.mono _ _ _ _ (fun a z => z.elim id fun z => z.elim) (Ens.put _ _ _ F0 v d x h r fun _ _ z => z)
theorem wipeE_get {ρ : Env} : ∀ {vs : List Nat} {i : Nat} {d : D}, (wipeE ρ vs)[i]? = some (some d) → ρ[i]? = some (some d)
  | [], i, d, h => h
  | v :: vs, i, d, h => by
    unfold wipeE at h
    by_cases e : v = i
    · subst e
      rw [List.getElem?_set] at h
      rw [if_pos rfl] at h
      split at h <;> cases h
    · rw [List.getElem?_set_ne e] at h
      exact wipeE_get h
theorem wipeE_imp (ρ : Env) (vs : List Nat) : Imp ρ (wipeE ρ vs) := fun i d h p => ⟨d, wipeE_get h, p⟩
theorem hidOk_of {ρ0 : Env} : ∀ {vs : List Nat} {v : Nat} {d : D}, hidOk ρ0 vs = true → v ∈ vs → ρ0[v]? = some (some d) → d.pu = true
  | w :: vs, v, d, h, hm, e => by
    unfold hidOk at h
    rw [Bool.and_eq_true] at h
    rcases List.mem_cons.mp hm with rfl | hm
    · rw [e] at h; exact h.1
    · exact hidOk_of h.2 hm e
theorem wipeB_imp {ρ0 : Env} : ∀ (vs : List Nat) (ρ : Env), hidOk ρ0 vs = true → Imp ρ (wipeB ρ ρ0 vs)
  | [], ρ, _ => Imp.refl _
  | v :: vs, ρ, h => by
    have h' := h
    unfold hidOk at h
    rw [Bool.and_eq_true] at h
    unfold wipeB
    refine Imp.trans (fun i d e p => ?_) (wipeB_imp vs _ h.2)
    by_cases hv : v = i
    · subst hv
      rw [List.getElem?_set] at e
      rw [if_pos rfl] at e
      split at e
      · cases q : ρ0[v]? with
        | none => rw [q] at e; cases e
        | some oo =>
          rw [q] at e
          cases oo with
          | none => cases e
          | some d' =>
            cases e
            rw [hidOk_of h' List.mem_cons_self q] at p; cases p
      · cases e
    · rw [List.getElem?_set_ne hv] at e
      exact ⟨d, e, p⟩
theorem keep_laid {F : Fp} {H0 H : Hp} {a : Addr} {o : HO} (k : Keep F H0 H) (hn : H0 a = none) (ha : H a ≠ none) : Keep F H0 (upd H a o) :=
  ⟨fun x u e hn' => by
    rw [upd_ne (fun z => by subst z; rw [hn] at e; cases e)]
    exact k.k x u e hn', fun x e => by
    by_cases q : x = a
    · subst q; exact hn
    · rw [upd_ne q] at e; exact k.g x e⟩
theorem keep_one {H : Hp} {a : Addr} {vs : List V} {o : HO} (h : H a = some (.lst vs)) : Keep (fun x => x = a) H (upd H a o) := Keep.set h rfl (fun z => z)
end
theorem wipe_agree {σ τ : L2.St} (hl : τ.length = σ.length) : ∀ (vs : List Nat), (∀ j : Nat, τ[j]? ≠ σ[j]? → j ∈ vs) → L2.wipe τ vs = L2.wipe σ vs := fun vs h => by
  apply List.ext_getElem?
  intro j
  by_cases hj : j ∈ vs
  · have key : ∀ (ρ : L2.St) (ws : List Nat), j ∈ ws → (L2.wipe ρ ws)[j]? = if j < ρ.length then some none else none := fun ρ ws => by
      induction ws with
      | nil => intro z; simp at z
      | cons w ws ih =>
        intro z
        unfold L2.wipe
        by_cases e : w = j
        · subst e
          rw [List.getElem?_set, if_pos rfl, L2.wipe_length]
        · rw [List.getElem?_set_ne e]
          rcases List.mem_cons.mp z with z | z
          · exact absurd z.symm e
          · exact ih z
    rw [key τ vs hj, key σ vs hj, hl]
  · rw [L2.wipe_out hj, L2.wipe_out hj]
    by_cases e : τ[j]? = σ[j]?
    · exact e
    · exact absurd (h j e) hj
theorem mem_of_lookup' {l : List (Str × NameKind)} {x : Str} {k : NameKind} (h : l.lookup x = some k) : (x, k) ∈ l := by
  induction l with
  | nil => simp at h
  | cons y l ih =>
    obtain ⟨n, k'⟩ := y
    cases e : x == n with
    | true =>
      simp only [List.lookup_cons, e] at h
      cases h
      rw [eq_of_beq e]
      exact List.mem_cons_self
    | false =>
      simp only [List.lookup_cons, e] at h
      exact List.mem_cons_of_mem _ (ih h)
theorem ownOf_mem {N : List Str} {scope : Scope} {x : Str} {j : Nat} (h : locl scope x = true) (hj : ixOf N x = some j) : j ∈ (ownOf N scope).map (·.2) := by
  have : (x, j) ∈ ownOf N scope := by
    unfold ownOf
    rw [List.mem_filterMap]
    rcases locl_of h with q | q
    · exact ⟨(x, .local), mem_of_lookup' q, by show (ixOf N x).map _ = _; rw [hj]; rfl⟩
    · exact ⟨(x, .cell), mem_of_lookup' q, by show (ixOf N x).map _ = _; rw [hj]; rfl⟩
  exact List.mem_map.mpr ⟨_, this, rfl⟩
section
variable {X : Cx} {C : Cd} {sc : Scope} {cx : CXT} {er : Er} {EX : XK} {G : Res → Prop} {A0 : Fp} {H0 : Hp} {R : Fns} (S : Snd R) (o : Okx X C sc cx er EX G A0 H0)
include S o
omit S o in
theorem noCls_con {g : Glo} {d : D} (h : noCls g = .con d) : g = .con d := by cases g <;> first | exact h | cases h
omit S o in
theorem noCls_kd {g : Glo} {d : List (Str × D)} (h : noCls g = .kd d) : g = .kd d := by cases g <;> first | exact h | cases h
omit S o in
theorem noCls_bi {g : Glo} (h : noCls g = .bi) : g = .bi := by cases g <;> first | exact h | cases h
omit S o in
theorem noCls_fn {g : Glo} {n : Nat} (h : noCls g = .fn n) : g = .fn n := by cases g <;> first | exact h | cases h
omit S o in
theorem noCls_cls {g : Glo} {n : List Str} (h : noCls g = .cls n) : False := by cases g <;> cases h
omit S in
theorem okx_blk (scope : Scope) (s : Shared) (H : Hp) (Ce : Addr) (cl : List (Str × Addr)) (fp : List Addr) : Okx (X.blk s H scope (compEnvC scope cl Ce X.env) fp) (lcCd C scope) (relS scope sc) cx er (fun _ _ _ => False) G A0 H0 where
  hN := o.hN
  nd := o.nd
  hsc := by rw [← o.hsc]; rfl
  calm := o.calm
  own := fun x h1 h2 => by
    rcases locl_of h1 with q | q
    · refine .inr ?_
      show (relS scope X.env.scope).names.lookup x = _
      exact lookup_relS_keep (fun z => nomatch z) q
    · refine .inl ?_
      show (scope.names.lookup x == some .cell) = true
      rw [q]; rfl
  bi := fun x h => o.bi x (noCls_bi h)
  con := fun x d h => o.con x d (noCls_con h)
  kd := fun x d h => o.kd x d (noCls_kd h)
  fn := fun x n h => o.fn x n (noCls_fn h)
  pas := PassesOwn.never
  thr := fun pins σ H s e s' I h => o.cxn _ _ _ _ _ h
  cxn := o.cxn
  room := o.room
  lim := o.lim
  cls := fun x ps h => (noCls_cls h).elim
  hG := o.hG
  xco := fun c fs ρ h => absurd h o.hG
omit S in
theorem lc_sl {scope : Scope} {σ τ : L2.St} (h : Sl (lcCd C scope) (relS scope sc) σ τ) : L2.wipe τ ((ownOf C.N scope).map (·.2)) = L2.wipe σ ((ownOf C.N scope).map (·.2)) := by
  refine wipe_agree h.1 _ fun j hj => ?_
  obtain ⟨x, h1, h2, h3⟩ := h.2 j hj
  refine ownOf_mem (x := x) h1 ?_
  unfold slotOf at h3
  split at h3
  · exact h3
  · cases h3
theorem ifs_ok {ifs : List Expr} (hf : few ifs = true) : PTs X ifs (RdT X.K G A0 H0 (ifsE R C sc ifs)) := by
  match ifs, hf with
  | [], _ => exact ⟨fun pins s σ H Q I ⟨ρ, k, F, k0, f0, en, g, q⟩ => pts_nil.run pins s σ H Q I (q true ρ H _ (Ch.refl en) g)⟩
  | [c], _ => exact pts_one (S.T o c)
abbrev ownI (C : Cd) (scope : Scope) : List Nat := (ownOf C.N scope).map (·.2)
def lcW (K : PySem.W.Frag) (G : Res → Prop) (step : D → Env → (Option D → Env → Res) → Res) (own : List Nat) (σ : L2.St) (ρ1 : Env) (Fe : Fp) (H1 : Hp) (D0 : Addr) (ds : List D) (k : List D → Env → Res) (i m : Nat) (H : Hp) : Prop :=
  i ≤ ds.length ∧ m = ds.length - i ∧ ∃ acc vs ρa τ Fa Fv, H D0 = some (.lst vs) ∧ Keep Fe H1 H ∧ (L2.wipe τ own = L2.wipe σ own ∧ τ.length = σ.length ∧ Ens K H ρa τ Fa) ∧ Fr Fe H1 Fa ∧ (∀ a, Fa a → a ≠ D0 ∧ H a ≠ none) ∧ Imp ρ1 ρa ∧ Rps K H acc vs Fv ∧ (∀ a, Fv a → (Fe a ∨ H1 a = none) ∧ a ≠ D0 ∧ H a ≠ none) ∧ Dis Fa Fv ∧ G (lcC step (ds.drop i) acc ρa k)
theorem lc_core (elt tg it : Expr) (ifs : List Expr) (scope : Scope) (hf : few ifs = true) {σ : L2.St} {H : Hp} {Q : VK} (h : RdE X.K G A0 H0 false false (fun ρ k => iterE R C sc it ρ fun ds ρ1 =>
    ckK (hidOk ρ1 (ownI C scope)) <|
    lcC (lcStep R C sc elt tg ifs scope) ds [] (wipeE ρ1 (ownI C scope)) fun acc ρ6 => k (.lst acc) (wipeB ρ6 ρ1 (ownI C scope))) σ H Q) :
    tLc (RdI X.K G A0 H0 (iterE R C sc it)) (RdG X.K G (lcCd C scope) (relS scope sc) (R.G (lcCd C scope) (relS scope sc) tg)) (RdT X.K G A0 H0 (ifsE R (lcCd C scope) (relS scope sc) ifs))
      (RdE X.K G A0 H0 (isPath elt) (isCalm elt) (R.E (lcCd C scope) (relS scope sc) elt)) (ownI C scope) σ H Q := by
  obtain ⟨ρ, k, F, k0, f0, en, g, q⟩ := h
  refine ⟨ρ, _, F, k0, f0, en, g, fun ds ρ1 J H1 Fe B c1 src trB djB pds g1 => ?_⟩
  obtain ⟨hid, g1⟩ := ckK_of o.hG g1
  intro D0 hD
  have kp0 : Keep F0 H1 (upd H1 D0 (.lst [])) := Keep.new hD
  refine ⟨lcW X.K G (lcStep R C sc elt tg ifs scope) (ownI C scope) σ ρ1 Fe H1 D0 ds (fun acc ρ6 => k (.lst acc) (wipeB ρ6 ρ1 (ownI C scope))), ⟨ds.length, Nat.zero_le _, rfl, [], [], _, σ, Fe, F0, upd_same, kp0.mono (fun _ z => z.elim), ⟨rfl, rfl, Ens.stay kp0 _ _ _ (fun _ _ z => z) (ens_wipe c1.en _)⟩, fun _ z => .inl z, fun a z => ⟨fun e => c1.tr a z (by rw [e]; exact hD), fun e => c1.tr a z (kp0.g a e)⟩,
    wipeE_imp _ _, rfl, fun _ z => z.elim, fun _ _ z => z, g1⟩, fun i m H2 hw => ?_⟩
  obtain ⟨hi, rfl, acc, vs, ρa, τ, Fa, Fv, hD2, kp, ⟨wt, lt, ena⟩, fra, tra, ima, racc, trv, djv, ga⟩ := hw
  have kpB : Keep (fun a => ¬ B a) H1 H2 := kp.mono fun a z w => djB a z w
  have kA : Keep A0 H0 H2 := (c1.keep k0 f0).trans kp (c1.from k0 f0)
  have fAa : Fr A0 H0 Fa := (c1.from k0 f0).trans (c1.keep k0 f0) fra
  by_cases hlt : i < ds.length
  · refine .inr ⟨src.go H2 kpB i hlt, fun H' => lcW X.K G (lcStep R C sc elt tg ifs scope) (ownI C scope) σ ρ1 Fe H1 D0 ds (fun acc ρ6 => k (.lst acc) (wipeB ρ6 ρ1 (ownI C scope))) (i + 1) (ds.length - (i + 1)) H', fun H' h' => ⟨ds.length - (i + 1), by omega, h'⟩, fun x H' hy => ?_⟩
    obtain ⟨rfl, d, hd, rd⟩ := src.yld H2 kpB i x H' hy hlt
    have hdrop : ds.drop i = d :: ds.drop (i + 1) := by
      rw [List.drop_eq_getElem_cons hlt]
      rw [List.getElem?_eq_getElem hlt] at hd
      cases hd; rfl
    rw [hdrop] at ga
    have ena' := ens_wipe2 ena (ownI C scope)
    rw [wt] at ena'
    refine ⟨_, _, Fa, d, F0, ena', rd, fun _ _ z => z, ga, fun ρ3 σ3 F3 f3 en3 sl3 im3 _ g3 => ?_⟩
    have hF3 : ∀ a, F3 a → Fa a := fun a z => (f3 a z).elim id fun z => z.elim
    have pud : d.pu = true := pus_get pds hd
    have im13 : Imp ρ1 ρ3 := ima.trans ((wipeE_imp ρa _).trans (im3 pud))
    have w3 : L2.wipe σ3 (ownI C scope) = L2.wipe σ (ownI C scope) := by
      rw [lc_sl o sl3]; exact wipe_agree (L2.wipe_length _ _) _ fun j hj => Classical.byContradiction fun hn => hj (L2.wipe_out hn)
    have l3 : σ3.length = σ.length := by rw [sl3.1, L2.wipe_length]
    refine ⟨w3, ?_⟩
    have fA : Fr A0 H0 F3 := fAa.sub hF3
    refine ⟨ρ3, _, F3, kA, fA, en3, g3, fun b ρ4 H4 F4 c4 g4 => ?_⟩
    have kp4 : Keep Fe H1 H4 := kp.trans c4.kp (fra.sub hF3)
    have fr4 : Fr Fe H1 F4 := (fra.sub hF3).trans kp c4.fr
    have nD4 : ∀ a, F4 a → a ≠ D0 := fun a z e => (c4.fr a z).elim (fun w => (tra a (hF3 a w)).1 e) fun w => by rw [e, hD2] at w; cases w
    have hD4 : H4 D0 = some (.lst vs) := c4.kp.k _ _ hD2 (.inl fun z => (tra _ (hF3 _ z)).1 rfl)
    have racc4 : Rps X.K H4 acc vs Fv := Rps.stay c4.kp _ _ _ (fun a z w => djv a (hF3 a w) z) racc
    have trv4 : ∀ a, Fv a → (Fe a ∨ H1 a = none) ∧ a ≠ D0 ∧ H4 a ≠ none := fun a z => ⟨(trv a z).1, (trv a z).2.1, fun e => (trv a z).2.2 (c4.kp.g a e)⟩
    have dj4 : Dis F4 Fv := fun a z w => (c4.fr a z).elim (fun y => djv a (hF3 a y) w) fun y => (trv a w).2.2 y
    dsimp only
    cases b with
    | false =>
      rw [if_neg (by decide)]
      exact ⟨hlt, rfl, acc, vs, ρ4, σ3, F4, Fv, hD4, kp4, ⟨w3, l3, c4.en⟩, fr4, fun a z => ⟨nD4 a z, c4.tr a z⟩, im13.trans c4.im, racc4, trv4, dj4, g4⟩
    | true =>
      rw [if_pos rfl]
      refine ⟨ρ4, _, F4, kA.trans c4.kp fA, fA.trans kA c4.fr, c4.en, g4, fun dy ρ5 vy H5 F5 c5 v5 _ g5 => ?_⟩
      have g5' : G (match (some dy : Option D) with
        | some y => ckK (decide (acc.length < szLine)) (lcC (lcStep R C sc elt tg ifs scope) (ds.drop (i + 1)) (acc ++ [y]) ρ5 (fun acc ρ6 => k (.lst acc) (wipeB ρ6 ρ1 (ownI C scope))))
        | none => lcC (lcStep R C sc elt tg ifs scope) (ds.drop (i + 1)) acc ρ5 (fun acc ρ6 => k (.lst acc) (wipeB ρ6 ρ1 (ownI C scope)))) ∧ (isPath elt = true → dy.pu = true) := by
        unfold storK at g5
        by_cases hp : isPath elt = true
        · rw [if_pos hp] at g5
          obtain ⟨pu, g5⟩ := puK_of o.hG g5
          exact ⟨g5, fun _ => pu⟩
        · rw [if_neg hp] at g5
          exact ⟨g5, fun z => absurd z hp⟩
      obtain ⟨g6, hpu⟩ := g5'
      obtain ⟨hsz, g6⟩ := ckK_of o.hG g6
      obtain ⟨Fy, oy⟩ := v5.own hpu
      have hD5 : H5 D0 = some (.lst vs) := c5.kp.k _ _ hD4 (.inl fun z => nD4 _ z rfl)
      have kp5 : Keep Fe H1 H5 := kp4.trans c5.kp fr4
      have fr5 : Fr Fe H1 F5 := fr4.trans kp4 c5.fr
      have racc5 : Rps X.K H5 acc vs Fv := Rps.stay c5.kp _ _ _ (fun a z w => dj4 a w z) racc4
      have hlen := Rps.length _ _ _ racc5
      refine ⟨vs, hD5, by rw [hlen, ← szLine_eq]; exact of_decide_eq_true hsz, ?_⟩
      have one : Keep (fun x => x = D0) H5 (upd H5 D0 (.lst (vs ++ [vy]))) := keep_one hD5
      have nD5 : ∀ a, F5 a → a ≠ D0 := fun a z e => (c5.fr a z).elim (fun w => nD4 a w e) fun w => by rw [e, hD4] at w; cases w
      have nDv : ∀ a, Fv a → a ≠ D0 := fun a z => (trv a z).2.1
      have nDy : ∀ a, Fy a → a ≠ D0 := fun a z e => (oy.fr a z).elim (fun w => nD4 a w e) fun w => by rw [e, hD4] at w; cases w
      have djvy : Dis Fv Fy := fun a z w => (oy.fr a w).elim (fun y => dj4 a y z) fun y => (trv4 a z).2.2 y
      have frD : ∀ a, H5 a ≠ none → (upd H5 D0 (.lst (vs ++ [vy]))) a ≠ none := fun a z e => z (one.g a e)
      refine ⟨hlt, rfl, acc ++ [dy], vs ++ [vy], ρ5, σ3, F5, fun a => (Fv a ∨ Fy a), upd_same, keep_laid kp5 hD (by rw [hD5]; exact fun z => nomatch z), ⟨w3, l3, Ens.stay one _ _ _ (fun a z e => nD5 a z e) c5.en⟩, fr5, fun a z => ⟨nD5 a z, frD a (c5.tr a z)⟩, (im13.trans c4.im).trans c5.im,
        Rps.snoc _ _ _ _ _ _ (Rps.stay one _ _ _ (fun a z e => nDv a z e) racc5) (Rp.stay one _ _ _ (fun a z e => nDy a z e) oy.rp) djvy, fun a z => ?_, fun a z w => ?_, g6⟩
      · rcases z with z | z
        · exact ⟨(trv4 a z).1, nDv a z, frD a fun e => (trv4 a z).2.2 (c5.kp.g a e)⟩
        · exact ⟨(fr4.trans kp4 oy.fr) a z, nDy a z, frD a (oy.tr a z)⟩
      · rcases w with w | w
        · exact (c5.fr a z).elim (fun y => dj4 a y w) fun y => (trv4 a w).2.2 y
        · exact oy.dj a z w
  · have : i = ds.length := by omega
    subst this
    rw [List.drop_length] at ga
    refine .inl ⟨src.stop H2 kpB, ?_⟩
    have key := ens_back (K := X.K) (H := H2) (ρ0 := ρ1) (σ := σ) (Ens.length _ _ _ c1.en) (ownI C scope) ρa τ Fa hid (fun v d hv he => ?_) lt (fun j hj => ?_) ena
    · refine q (.lst acc) _ (.ref D0) H2 Fa ⟨c1.kp.trans kp c1.fr, c1.im.trans (ima.trans (wipeB_imp _ _ hid)), c1.fr.trans c1.kp fra, key, fun a z => (tra a z).2⟩ (.inr ⟨fun a => Fv a ∨ a = D0, fun a z => ?_, fun a z w => ?_, ⟨D0, vs, rfl, hD2, .inr rfl, Rps.mono _ _ _ _ (fun a z => ⟨.inl z, (trv a z).2.1⟩) racc⟩, fun a z => ?_⟩) (fun z => nomatch z) ga
      · rcases z with z | z
        · exact (trv a z).1.elim (fun y => c1.fr a y) fun y => .inr (c1.kp.g a y)
        · rw [z]; exact .inr (c1.kp.g _ hD)
      · rcases w with w | w
        · exact djv a z w
        · exact (tra a z).1 w
      · rcases z with z | z
        · exact (trv a z).2.2
        · rw [z, hD2]; exact fun z => nomatch z
    · have pu := hidOk_of hid hv he
      obtain ⟨x, hx, r⟩ := Ens.get _ _ _ _ _ c1.en he
      exact ⟨x, hx, Rp.stay kp _ _ _ (fun _ z => z.elim) (Rp.pure _ _ _ pu r)⟩
    · have := congrArg (fun l => l[j]?) wt
      simp only [L2.wipe_out hj] at this
      exact this
end
end TI
set_option Elab.async false
set_option linter.all false
set_option maxRecDepth 100000
set_option maxHeartbeats 4000000
/-! expressions; statements -/
namespace TI
open PySem PySem.Spec PyProof.Rows L2



section
variable {X : Cx} {C : Cd} {sc : Scope} {cx : CXT} {er : Er} {EX : XK} {G : Res → Prop} {A0 : Fp} {H0 : Hp} {R : Fns} (S : Snd R) (o : Okx X C sc cx er EX G A0 H0)
include S o
omit S o in
theorem fold_ok {it : Expr} (h : isSet it = false) (env : PySem.Env) : ∀ x, foldedSetIterable it env x = pure x := by
  intro x
  cases it <;> first
    | rfl
    | cases h
theorem e_lc (elt tg it : Expr) (ifs : List Expr) (scope : Scope) (p : Pos) : PE X (.ListComp elt [⟨tg, it, ifs, 0⟩] scope p) (RdE X.K G A0 H0 false false (lcE R C sc elt tg it ifs scope)) := by
  cases hb : blkC C.N sc scope (ownOf C.N scope) && few ifs && !isSet it with
  | false =>
    refine pe_bad fun σ H Q ⟨ρ, k, F, k0, f0, en, g, q⟩ => ?_
    unfold lcE at g
    rw [hb] at g
    exact absurd g o.hG
  | true =>
    have hb' := hb
    rw [Bool.and_eq_true, Bool.and_eq_true, Bool.not_eq_true'] at hb'
    refine PE.imp (pe_lc o.calm o.nd (i_iter S o tg it) (by rw [o.hN, o.hsc]; exact blkOk_by hb'.1.1) (fun s H Ce cl fp => S.G (okx_blk o scope s H Ce cl fp) tg) (fun s H Ce cl fp => ifs_ok S (okx_blk o scope s H Ce cl fp) hb'.1.2)
      (fun s H Ce cl fp => S.E (okx_blk o scope s H Ce cl fp) elt) (fold_ok hb'.2 _)) fun σ H Q ⟨ρ, k, F, k0, f0, en, g, q⟩ => lc_core S o elt tg it ifs scope hb'.1.2 ⟨ρ, k, F, k0, f0, en, ?_, q⟩
    unfold lcE at g
    rw [hb] at g
    exact g
theorem e_step (e : Expr) : PE X e (RdE X.K G A0 H0 (isPath e) (isCalm e) (stepE R C sc e)) := by
  cases e with
  | Name x p => exact e_name o x p
  | Constant c j p => exact e_const o c j p
  | Tuple es n p => exact e_tuple S o es n p
  | List es p => exact e_list S o es p
  | IfExp t a b p => exact e_if S o t a b p
  | Dict ks vs p => exact e_dict o ks vs p
  | BinOp a op b p =>
    cases a with
    | Constant c j q =>
      cases c with
      | str x =>
        cases op with
        | Add => exact e_wrt S o x j q b p
        | _ => exact e_binop S o _ b _ p
      | _ => exact e_binop S o _ b op p
    | Name x q => exact e_addN S o x q op b p
    | _ => exact e_binop S o _ b op p
  | UnaryOp op a p =>
    cases op with
    | Not => exact e_not S o a p
    | USub => exact e_neg S o a p
    | _ => exact e_stuck o
  | Compare a ops bs p =>
    match ops, bs with
    | [], _ => exact e_stuck o
    | [op], [] => exact e_stuck o
    | [op], [b] => exact e_cmp S o a op b p
    | [op], _ :: _ :: _ => exact e_stuck o
    | [op, op'], [] => exact e_stuck o
    | [op, op'], [b] => exact e_stuck o
    | [op, op'], [b, c] => exact e_chain S o a op op' b c p
    | [op, op'], _ :: _ :: _ :: _ => exact e_stuck o
    | _ :: _ :: _ :: _, _ => exact e_stuck o
  | BoolOp op vs p =>
    cases op with
    | And =>
      match vs with
      | [] => exact e_stuck o
      | [a] => exact e_one S o .And a p
      | a :: b :: r => exact e_and S o a b r p
    | Or =>
      match vs with
      | [] => exact e_stuck o
      | [a] => exact e_one S o .Or a p
      | a :: b :: r => exact e_or S o a b r p
  | Subscript b i p =>
    cases hi : notSl i with
    | false =>
      cases i with
      | Slice lo hh st p2 =>
        cases st with
        | none => exact e_slice S o b lo hh p p2
        | some st => exact PE.imp (e_stuck o) fun _ _ _ h => h
      | _ => cases hi
    | true =>
      have fl : isPath (.Subscript b i p) = true := by cases i <;> first
        | rfl
        | cases hi
      rw [fl]
      cases b with
      | Name x xp =>
        refine PE.imp (e_ixN S o x xp i p hi) fun σ H Q h => ?_
        have e : stepE R C sc (.Subscript (.Name x xp) i p) = ixN1 R C sc x i := by
          cases i <;> first
            | rfl
            | cases hi
        rw [e] at h; exact h
      | Dict ks vs dp =>
        refine PE.imp (e_dctIx S o ks vs dp i p hi) fun σ H Q h => ?_
        have e : stepE R C sc (.Subscript (.Dict ks vs dp) i p) = (fun ρ k => R.E C sc (.Dict ks vs dp) ρ fun d ρ1 => (match d with
            | .dct ks ds => pusK ds (R.E C sc i ρ1 fun y ρ2 => oK (keyD y) fun key => oK (dctGet ks ds key) fun z => k z ρ2)
            | _ => .stuck)) := by
          cases i <;> first
            | rfl
            | cases hi
        rw [e] at h; exact h
      | _ =>
        refine PE.imp (e_ix S o _ i p hi) fun σ H Q h => ?_
        cases i <;> first
          | exact h
          | cases hi
  | Call f args kw p =>
    cases kw with
    | cons _ _ =>
      cases f <;> exact e_stuck o
    | nil =>
      cases f with
      | Name f fp =>
        cases hst : noStar args with
        | false =>
          refine pe_bad fun σ H Q ⟨ρ, k, F, k0, f0, en, g, q⟩ => ?_
          dsimp only [stepE] at g
          rw [hst] at g
          exact absurd g o.hG
        | true =>
          cases hf : isFn C sc f with
          | some n =>
            refine PE.imp (e_call S o f fp n args p hf hst) fun σ H Q ⟨ρ, k, F, k0, f0, en, g, q⟩ => ⟨ρ, k, F, k0, f0, en, ?_, q⟩
            dsimp only [stepE] at g
            rw [hst, hf] at g
            exact g
          | none =>
            cases hb : isBi C sc f with
            | false =>
              refine pe_bad fun σ H Q ⟨ρ, k, F, k0, f0, en, g, q⟩ => ?_
              dsimp only [stepE] at g
              rw [hst, hf] at g
              dsimp only at g
              rw [hb] at g
              exact absurd g o.hG
            | true =>
              by_cases hi : f = "isinstance"
              · subst hi
                refine PE.imp (e_isi S o fp args p hb hst) fun σ H Q ⟨ρ, k, F, k0, f0, en, g, q⟩ => ⟨ρ, k, F, k0, f0, en, ?_, q⟩
                dsimp only [stepE] at g
                rw [hst, hf] at g
                dsimp only at g
                rw [hb, if_pos rfl] at g
                exact g
              · refine PE.imp (e_bi S o f fp args p hb hst) fun σ H Q ⟨ρ, k, F, k0, f0, en, g, q⟩ => ⟨ρ, k, F, k0, f0, en, ?_, q⟩
                dsimp only [stepE] at g
                rw [hst, hf] at g
                dsimp only at g
                rw [hb, if_neg hi] at g
                exact g
      | Attribute ob m ap =>
        cases hd : getArgs ob m args with
        | some ae =>
          obtain ⟨ks, vs, dp, rfl, rfl, rfl⟩ : ∃ ks vs dp, ob = .Dict ks vs dp ∧ m = "get" ∧ args = [ae.1, ae.2] := by
            unfold getArgs at hd
            split at hd
            · split at hd
              · rename_i hm
                cases hd
                exact ⟨_, _, _, rfl, hm, rfl⟩
              · cases hd
            · cases hd
          have eq1 : ∀ ρ k, stepE R C sc (.Call (.Attribute (.Dict ks vs dp) "get" ap) [ae.1, ae.2] [] p) ρ k = ckK ((ap.endLine == p.line) && noStar [ae.1, ae.2]) (get2E R C sc (.Dict ks vs dp) ae.1 ae.2 ρ k) := fun ρ k => rfl
          cases hg : ((ap.endLine == p.line) && noStar [ae.1, ae.2]) with
          | false =>
            refine pe_bad fun σ H Q ⟨ρ, k, F, k0, f0, en, g, q⟩ => ?_
            rw [eq1, hg] at g
            exact absurd g o.hG
          | true =>
            have hg' := hg
            rw [Bool.and_eq_true] at hg'
            refine PE.imp (e_get2 S o ks vs dp ae.1 ae.2 ap p hg'.1 hg'.2) fun σ H Q ⟨ρ, k, F, k0, f0, en, g, q⟩ => ⟨ρ, k, F, k0, f0, en, ?_, q⟩
            rw [eq1, hg] at g
            exact g
        | none =>
          have eq0 : ∀ ρ k, stepE R C sc (.Call (.Attribute ob m ap) args [] p) ρ k = ckK (opG ob && (ap.endLine == p.line) && noStar args && !args.isEmpty && decide (args.length < 20)) (methE R C sc ob m args ρ k) := fun ρ k => by
            dsimp only [stepE]
            rw [hd]
          cases hg : opG ob && (ap.endLine == p.line) && noStar args && !args.isEmpty && decide (args.length < 20) with
          | false =>
            refine pe_bad fun σ H Q ⟨ρ, k, F, k0, f0, en, g, q⟩ => ?_
            rw [eq0] at g
            rw [hg] at g
            exact absurd g o.hG
          | true =>
            have hg' := hg
            rw [Bool.and_eq_true, Bool.and_eq_true, Bool.and_eq_true, Bool.and_eq_true, Bool.not_eq_true', decide_eq_true_eq] at hg'
            refine PE.imp (e_meth S o ob m args ap p hg'.1.1.1.1 hg'.1.1.1.2 hg'.1.1.2 (fun e => by rw [e] at hg'; cases hg'.1.2) hg'.2) fun σ H Q ⟨ρ, k, F, k0, f0, en, g, q⟩ => ⟨ρ, k, F, k0, f0, en, ?_, q⟩
            rw [eq0] at g
            rw [hg] at g
            exact g
      | _ => exact e_stuck o
  | ListComp elt gs scope p =>
    match gs with
    | [] => exact e_stuck o
    | [⟨tg, it, ifs, .ofNat 0⟩] => exact e_lc S o elt tg it ifs scope p
    | [⟨tg, it, ifs, .ofNat (n + 1)⟩] => exact e_stuck o
    | [⟨tg, it, ifs, .negSucc n⟩] => exact e_stuck o
    | ⟨tg, it, ifs, .ofNat 0⟩ :: _ :: _ => exact e_stuck o
    | ⟨tg, it, ifs, .ofNat (n + 1)⟩ :: _ :: _ => exact e_stuck o
    | ⟨tg, it, ifs, .negSucc n⟩ :: _ :: _ => exact e_stuck o
  | _ => exact e_stuck o
end
end TI
set_option Elab.async false
set_option linter.all false
set_option maxRecDepth 100000
set_option maxHeartbeats 4000000
/-! statements -/
namespace TI
open PySem PySem.Spec PyProof.Rows L2



section
variable {K : PySem.W.Frag} {G : Res → Prop} {np : Nat} {vs : List V} {F F' : Fp} {H H' : Hp} {E : Nx} {D : Ends}
theorem NxOk.shift (n : NxOk K G np vs F H E D) (k : Keep F H H') (f : Fr F H F') : NxOk K G np vs F' H' E D where
  nx := fun ρ' σ' H2 F2 k2 f2 => n.nx ρ' σ' H2 F2 (k.trans k2 f) (f.trans k f2)
  bk := fun ρ' σ' H2 F2 k2 f2 => n.bk ρ' σ' H2 F2 (k.trans k2 f) (f.trans k f2)
  ct := fun ρ' σ' H2 F2 k2 f2 => n.ct ρ' σ' H2 F2 (k.trans k2 f) (f.trans k f2)
  rt := fun d ρ' σ' v H2 F2 Fv k2 f2 fv => n.rt d ρ' σ' v H2 F2 Fv (k.trans k2 f) (f.trans k f2) (f.trans k fv)
end
section
variable {X : Cx} {C : Cd} {sc : Scope} {cx : CXT} {er : Er} {EX : XK} {G : Res → Prop} {A0 : Fp} {H0 : Hp} {R : Fns} (S : Snd R) (o : Okx X C sc cx er EX G A0 H0) (vs : List V)
include S o
omit S in
theorem s_stuck {st : Stmt} : PS X st (RdS X.K G A0 H0 C.np vs (fun _ _ => .stuck)) := ps_bad fun D σ H ⟨ρ, E, F, k0, f0, en, pa, g, n⟩ => absurd g o.hG
theorem s_pass (p : Pos) : PS X (.Pass p) (RdS X.K G A0 H0 C.np vs (fun ρ E => E.nx ρ)) :=
  PS.imp ps_pass fun D σ H ⟨ρ, E, F, k0, f0, en, pa, g, n⟩ => n.nx ρ σ H F (Keep.refl _ _) (Fr.refl _ _) en pa g
theorem s_break (p : Pos) : PS X (.Break p) (RdS X.K G A0 H0 C.np vs (fun ρ E => E.bk ρ)) :=
  PS.imp ps_break fun D σ H ⟨ρ, E, F, k0, f0, en, pa, g, n⟩ => n.bk ρ σ H F (Keep.refl _ _) (Fr.refl _ _) en pa g
theorem s_cont (p : Pos) : PS X (.Continue p) (RdS X.K G A0 H0 C.np vs (fun ρ E => E.ct ρ)) :=
  PS.imp ps_continue fun D σ H ⟨ρ, E, F, k0, f0, en, pa, g, n⟩ => n.ct ρ σ H F (Keep.refl _ _) (Fr.refl _ _) en pa g
omit S o in
theorem swaps_no {e : Expr} (h : isLc e = false) (t : Option Expr) (l : Nat) (env : PySem.Env) : swapsWith e t l env = pure false := by
  cases e <;> first
    | rfl
    | cases h
theorem s_expr (e : Expr) (p : Pos) : PS X (.Expr e p) (RdS X.K G A0 H0 C.np vs (fun ρ E => ckK (!isLc e) (R.E C sc e ρ fun _ ρ1 => E.nx ρ1))) := by
  cases hl : isLc e with
  | true => exact s_stuck o vs
  | false =>
    refine PS.imp (ps_expr (S.E o e) (swaps_no hl _ _ _)) fun D σ H ⟨ρ, E, F, k0, f0, en, pa, g, n⟩ => ?_
    exact ⟨ρ, _, F, k0, f0, en, g, fun d ρ1 v H1 Fe c1 v1 _ g1 => n.nx ρ1 σ H1 Fe c1.kp c1.fr c1.en (pa.imp c1.im) g1⟩
theorem s_retN (p : Pos) : PS X (.Return none p) (RdS X.K G A0 H0 C.np vs (fun ρ E => E.rt .non ρ)) :=
  PS.imp ps_retN fun D σ H ⟨ρ, E, F, k0, f0, en, pa, g, n⟩ => n.rt .non ρ σ .non H F F0 (Keep.refl _ _) (Fr.refl _ _) (fun _ z => z.elim) (fun _ _ z => z) en pa rfl g
theorem storK_of {e : Expr} {d : D} {r : Res} (g : G (storK e d r)) : G r ∧ (isPath e = true → d.pu = true) := by
  unfold storK at g
  by_cases hp : isPath e = true
  · rw [if_pos hp] at g
    obtain ⟨pu, g⟩ := puK_of o.hG g
    exact ⟨g, fun _ => pu⟩
  · rw [if_neg hp] at g
    exact ⟨g, fun z => absurd z hp⟩
theorem s_ret (e : Expr) (p : Pos) : PS X (.Return (some e) p) (RdS X.K G A0 H0 C.np vs (fun ρ E => R.E C sc e ρ fun d ρ1 => storK e d (E.rt d ρ1))) := by
  refine PS.imp (ps_ret (S.E o e)) fun D σ H ⟨ρ, E, F, k0, f0, en, pa, g, n⟩ => ?_
  refine ⟨ρ, _, F, k0, f0, en, g, fun d ρ1 v H1 Fe c1 v1 _ g1 => ?_⟩
  obtain ⟨g1, hp⟩ := storK_of S o g1
  obtain ⟨Fv, ow⟩ := v1.own hp
  exact n.rt d ρ1 σ v H1 Fe Fv c1.kp c1.fr ow.fr ow.dj c1.en (pa.imp c1.im) ow.rp g1
theorem s_retV (x : Str) (xp p : Pos) : PS X (.Return (some (.Name x xp)) p) (RdS X.K G A0 H0 C.np vs (stepS1 R C sc (.Return (some (.Name x xp)) p))) := by
  cases hs : slotOf C sc x with
  | none =>
    refine PS.imp (ps_ret (S.E o (.Name x xp))) fun D σ H ⟨ρ, E, F, k0, f0, en, pa, g, n⟩ => ?_
    dsimp only [stepS1] at g
    rw [hs] at g
    refine ⟨ρ, _, F, k0, f0, en, g, fun d ρ1 v H1 Fe c1 v1 _ g1 => ?_⟩
    obtain ⟨pu, g1⟩ := puK_of o.hG g1
    obtain ⟨Fv, ow⟩ := v1.own fun _ => pu
    exact n.rt d ρ1 σ v H1 Fe Fv c1.kp c1.fr ow.fr ow.dj c1.en (pa.imp c1.im) ow.rp g1
  | some i =>
    obtain ⟨x1, x2, x3, x4⟩ := o.toCok.visx hs
    refine PS.imp (ps_ret (pe_var (i := i) x1 x2 x3 x4)) fun D σ H ⟨ρ, E, F, k0, f0, en, pa, g, n⟩ => ?_
    dsimp only [stepS1] at g
    rw [hs] at g
    obtain ⟨d, hd, g⟩ := getK_of o.hG g
    cases pu : d.pu with
    | true =>
      rw [pu] at g
      obtain ⟨v, hv, r⟩ := Ens.get _ _ _ _ _ en hd
      exact ⟨v, hv, n.rt d ρ σ v H F F0 (Keep.refl _ _) (Fr.refl _ _) (fun _ z => z.elim) (fun _ _ z => z) en pa (Rp.pure _ _ _ pu r) g⟩
    | false =>
      rw [pu] at g
      obtain ⟨hi, g⟩ := ckK_of o.hG g
      obtain ⟨v, G1, G2, hv, r, en2, s1, s2, dj⟩ := Ens.take _ _ _ _ _ en hd
      refine ⟨v, hv, n.rt d (ρ.set i none) σ v H G2 G1 (Keep.refl _ _) (fun a z => .inl (s2 a z)) (fun a z => .inl (s1 a z)) (fun a z w => dj a w z) en2 (fun j d' hj e p' => ?_) r g⟩
      have : i ≠ j := fun e' => by have := of_decide_eq_true hi; omega
      rw [List.getElem?_set_ne this] at e
      exact pa j d' hj e p'
/-- a slot takes a value -/
theorem set_ok {i : Nat} {d : D} {v : V} {σ : L2.St} {H : Hp} {ρ : Env} {F Fv : Fp} {k : Env → Res} (en : Ens X.K H ρ σ F) (rp : Rp X.K H d v Fv) (dj : Dis F Fv) (pa : Par C.np vs σ ρ) (g : G (setK C i d ρ k)) :
    Ens X.K H (ρ.set i (some d)) (σ.set i (some v)) (fun a => F a ∨ Fv a) ∧ Par C.np vs (σ.set i (some v)) (ρ.set i (some d)) ∧ G (k (ρ.set i (some d))) := by
  have par : (i < C.np → d.pu = true) → Par C.np vs (σ.set i (some v)) (ρ.set i (some d)) := fun hd j d' hj e p' => by
    by_cases hij : i = j
    · subst hij
      rw [List.getElem?_set] at e
      rw [if_pos rfl] at e
      split at e
      · cases e; rw [hd hj] at p'; cases p'
      · cases e
    · rw [List.getElem?_set_ne hij] at e
      rw [List.getElem?_set_ne hij]
      exact pa j d' hj e p'
  unfold setK at g
  by_cases hnp : i < C.np
  · rw [if_pos hnp] at g
    obtain ⟨pu, g⟩ := puK_of o.hG g
    split at g
    · obtain ⟨_, g⟩ := puK_of o.hG g
      exact ⟨Ens.put _ _ _ _ i d v en rp dj, par fun _ => pu, g⟩
    · exact absurd g o.hG
  · rw [if_neg hnp] at g
    exact ⟨Ens.put _ _ _ _ i d v en rp dj, par fun z => absurd z hnp, g⟩
theorem s_setN (x : Str) (xp p : Pos) (e : Expr) : PS X (.Assign [.Name x xp] e p) (RdS X.K G A0 H0 C.np vs (stepS1 R C sc (.Assign [.Name x xp] e p))) := by
  cases hs : slotOf C sc x with
  | none =>
    refine ps_bad fun D σ H ⟨ρ, E, F, k0, f0, en, pa, g, n⟩ => ?_
    dsimp only [stepS1] at g
    rw [hs] at g
    exact absurd g o.hG
  | some i =>
    cases hc : C.own x && locl sc x with
    | false =>
      refine ps_bad fun D σ H ⟨ρ, E, F, k0, f0, en, pa, g, n⟩ => ?_
      dsimp only [stepS1] at g
      rw [hs] at g
      dsimp only at g
      rw [hc] at g
      exact absurd g o.hG
    | true =>
      rw [Bool.and_eq_true] at hc
      obtain ⟨x1, x2, x3, x4⟩ := o.toCok.visx hs
      have hl : Loc X.env.scope x := by rw [o.hsc]; exact locl_of hc.2
      cases hlc : isLc e with
      | false =>
        refine PS.imp (ps_set o.nd x1 hl (S.E o e) (swaps_no hlc _ _ _) (o.own x hc.1 hc.2)) fun D σ H ⟨ρ, E, F, k0, f0, en, pa, g, n⟩ => ?_
        dsimp only [stepS1] at g
        rw [hs] at g
        dsimp only at g
        rw [hc.1, hc.2, hlc] at g
        replace g : G (R.E C sc e ρ _) := g
        refine ⟨ρ, _, F, k0, f0, en, g, fun d ρ1 v H1 Fe c1 v1 _ g1 => ?_⟩
        obtain ⟨g1, hp⟩ := storK_of S o g1
        obtain ⟨Fv, ow⟩ := v1.own hp
        obtain ⟨en2, pa2, g2⟩ := set_ok S o vs c1.en ow.rp ow.dj (pa.imp c1.im) g1
        exact n.nx _ _ H1 _ c1.kp (fun a z => z.elim (c1.fr a) (ow.fr a)) en2 pa2 g2
      | true =>
        cases ho : lcOf e with
        | none =>
          refine ps_bad fun D σ H ⟨ρ, E, F, k0, f0, en, pa, g, n⟩ => ?_
          dsimp only [stepS1] at g
          rw [hs] at g
          dsimp only at g
          rw [hc.1, hc.2, hlc, ho] at g
          exact absurd g o.hG
        | some q =>
          obtain ⟨elt, tg', it, ifs, scope⟩ := q
          obtain ⟨ep, rfl⟩ : ∃ ep, e = .ListComp elt [⟨tg', it, ifs, 0⟩] scope ep := by
            unfold lcOf at ho
            split at ho
            · cases ho; exact ⟨_, rfl⟩
            · cases ho
          have red : ∀ {ρ : Env} {E : Nx}, G (stepS1 R C sc (.Assign [.Name x xp] (.ListComp elt [⟨tg', it, ifs, 0⟩] scope ep) p) ρ E) → G (lcE R C sc elt tg' it ifs scope ρ fun d ρ1 => setK C i d ρ1 E.nx) := fun {ρ E} g => by
            dsimp only [stepS1] at g
            rw [hs] at g
            dsimp only at g
            rw [hc.1, hc.2] at g
            exact g
          by_cases hsw : swapsWith (.ListComp elt [⟨tg', it, ifs, 0⟩] scope ep) (some (.Name x xp)) p.line X.env = pure true ∧ X.env.scope.names.lookup x = some .local
          · cases hb : blkC C.N sc scope (ownOf C.N scope) && few ifs && !isSet it with
            | false =>
              refine ps_bad fun D σ H ⟨ρ, E, F, k0, f0, en, pa, g, n⟩ => ?_
              replace g := red g
              unfold lcE at g
              rw [hb] at g
              exact absurd g o.hG
            | true =>
              have hb' := hb
              rw [Bool.and_eq_true, Bool.and_eq_true, Bool.not_eq_true'] at hb'
              refine PS.imp (ps_setLc (tt := RdT X.K G A0 H0 (ifsE R (lcCd C scope) (relS scope sc) ifs)) (g := RdG X.K G (lcCd C scope) (relS scope sc) (R.G (lcCd C scope) (relS scope sc) tg')) (te := RdE X.K G A0 H0 (isPath elt) (isCalm elt) (R.E (lcCd C scope) (relS scope sc) elt)) o.calm o.nd x1 hsw.2 hsw.1 (i_iter S o tg' it) (by rw [o.hN, o.hsc]; exact blkOk_by hb'.1.1) (fun s H Ce cl fp => S.G (okx_blk o scope s H Ce cl fp) tg') (fun s H Ce cl fp => ifs_ok S (okx_blk o scope s H Ce cl fp) hb'.1.2)
                (fun s H Ce cl fp => S.E (okx_blk o scope s H Ce cl fp) elt) (fold_ok hb'.2 _)) fun D σ H ⟨ρ, E, F, k0, f0, en, pa, g, n⟩ => ?_
              replace g := red g
              unfold lcE at g
              rw [hb] at g
              refine lc_core S o elt tg' it ifs scope hb'.1.2 ⟨ρ, fun d ρ1 => setK C i d ρ1 E.nx, F, k0, f0, en, g, fun d ρ1 v H1 Fe c1 v1 _ g1 => ?_⟩
              obtain ⟨Fv, ow⟩ := v1.own fun z => nomatch z
              obtain ⟨en2, pa2, g2⟩ := set_ok S o vs c1.en ow.rp ow.dj (pa.imp c1.im) g1
              exact n.nx _ _ H1 _ c1.kp (fun a z => z.elim (c1.fr a) (ow.fr a)) en2 pa2 g2
          · have hsf : swapsWith (.ListComp elt [⟨tg', it, ifs, 0⟩] scope ep) (some (.Name x xp)) p.line X.env = pure false := by
              obtain ⟨b, hb, hbl⟩ : ∃ b, swapsWith (.ListComp elt [⟨tg', it, ifs, 0⟩] scope ep) (some (.Name x xp)) p.line X.env = pure b ∧ (b = true → X.env.scope.names.lookup x = some .local) := ⟨_, rfl, fun h => by
                rw [Bool.and_eq_true, Bool.and_eq_true, Bool.and_eq_true] at h
                exact eq_of_beq h.1.1.2⟩
              cases b with
              | false => exact hb
              | true => exact absurd ⟨hb, hbl rfl⟩ hsw
            refine PS.imp (ps_set o.nd x1 hl (e_lc S o elt tg' it ifs scope ep) hsf (o.own x hc.1 hc.2)) fun D σ H ⟨ρ, E, F, k0, f0, en, pa, g, n⟩ => ?_
            replace g := red g
            refine ⟨ρ, _, F, k0, f0, en, g, fun d ρ1 v H1 Fe c1 v1 _ g1 => ?_⟩
            obtain ⟨Fv, ow⟩ := v1.own fun z => nomatch z
            obtain ⟨en2, pa2, g2⟩ := set_ok S o vs c1.en ow.rp ow.dj (pa.imp c1.im) g1
            exact n.nx _ _ H1 _ c1.kp (fun a z => z.elim (c1.fr a) (ow.fr a)) en2 pa2 g2
theorem s_setT (es : List Expr) (m : Nat) (tp p : Pos) (e : Expr) : PS X (.Assign [.Tuple es m tp] e p) (RdS X.K G A0 H0 C.np vs (stepS1 R C sc (.Assign [.Tuple es m tp] e p))) := by
  cases hl : !isLc e && !isTup e with
  | false =>
    refine ps_bad fun D σ H ⟨ρ, E, F, k0, f0, en, pa, g, n⟩ => ?_
    dsimp only [stepS1] at g
    rw [hl] at g
    exact absurd g o.hG
  | true =>
    have hl' := hl
    rw [Bool.and_eq_true, Bool.not_eq_true', Bool.not_eq_true'] at hl'
    refine PS.imp (ps_asg (S.E o e) (S.G o (.Tuple es m tp)) (swaps_no hl'.1 (some (.Tuple es m tp)) p.line X.env) (by
      cases e <;> first
        | rfl
        | cases hl'.2) rfl) fun D σ H ⟨ρ, E, F, k0, f0, en, pa, g, n⟩ => ?_
    dsimp only [stepS1] at g
    rw [hl] at g
    replace g : G (R.E C sc e ρ _) := g
    refine ⟨ρ, _, F, k0, f0, en, g, fun d ρ1 v H1 Fe c1 v1 _ g1 => ?_⟩
    obtain ⟨hp, g1⟩ := ckK_of o.hG g1
    obtain ⟨Fv, ow⟩ := v1.own fun z => by rw [z] at hp; exact hp
    exact ⟨ρ1, _, Fe, d, Fv, c1.en, ow.rp, ow.dj, g1, fun ρ' σ' F' f' en' sl _ pa' g' => n.nx ρ' σ' H1 F' c1.kp (fun a z => (f' a z).elim (c1.fr a) (ow.fr a)) en' (pa' vs (pa.imp c1.im)) g'⟩
theorem s_setI (x : Str) (xp tp p : Pos) (i e : Expr) : PS X (.Assign [.Subscript (.Name x xp) i tp] e p) (RdS X.K G A0 H0 C.np vs (stepS1 R C sc (.Assign [.Subscript (.Name x xp) i tp] e p))) := by
  cases hl : !isLc e && !isSl i with
  | false =>
    refine ps_bad fun D σ H ⟨ρ, E, F, k0, f0, en, pa, g, n⟩ => ?_
    dsimp only [stepS1] at g
    rw [hl] at g
    exact absurd g o.hG
  | true =>
    have hl' := hl
    rw [Bool.and_eq_true, Bool.not_eq_true', Bool.not_eq_true'] at hl'
    cases hs : slotOf C sc x with
    | none =>
      refine ps_bad fun D σ H ⟨ρ, E, F, k0, f0, en, pa, g, n⟩ => ?_
      dsimp only [stepS1] at g
      rw [hl, hs] at g
      exact absurd g o.hG
    | some j =>
      obtain ⟨x1, x2, x3, x4⟩ := o.toCok.visx hs
      refine PS.imp (ps_asg (S.E o e) (pg_sub (pe_var (i := j) x1 x2 x3 x4) (S.E o i) set_list (by
        intro v
        cases i <;> first
          | rfl
          | cases hl'.2)) (swaps_no hl'.1 (some (.Subscript (.Name x xp) i tp)) p.line X.env) (by cases e <;> rfl) rfl) fun D σ H ⟨ρ, E, F, k0, f0, en, pa, g, n⟩ => ?_
      dsimp only [stepS1] at g
      rw [hl, hs] at g
      replace g : G (R.E C sc e ρ _) := g
      refine ⟨ρ, _, F, k0, f0, en, g, fun d ρ1 v H1 Fe c1 v1 _ g1 => ?_⟩
      obtain ⟨pu, g1⟩ := puK_of o.hG g1
      obtain ⟨Fd, rd⟩ := v1.any
      obtain ⟨c0, hc0, g1⟩ := getK_of o.hG g1
      obtain ⟨lv, hlv, _⟩ := Ens.get _ _ _ _ _ c1.en hc0
      refine ⟨lv, hlv, ρ1, _, Fe, c1.keep k0 f0, c1.from k0 f0, c1.en, g1, fun y ρ2 iv H2 Fe2 c2 v2 _ g2 => ?_⟩
      obtain ⟨m, hm, g2⟩ := oK_of o.hG g2
      obtain ⟨Fy, ry⟩ := v2.any
      cases y with
      | int m' =>
        have hmm' : m' = m := by cases hm; rfl
        subst hmm'
        cases (show iv = .int m' from ry)
        obtain ⟨c, hc, g2⟩ := getK_of o.hG g2
        cases c with
        | lst ds =>
          obtain ⟨mm, hmm, g2⟩ := oK_of o.hG g2
          obtain ⟨lv', E1, E2, hv', r', en', t1, t2, d12⟩ := Ens.take _ _ _ _ _ c2.en hc
          obtain ⟨a, us, rfl, ha, hE, hus⟩ := r'
          rw [hlv] at hv'; cases hv'
          have hlen := Rps.length _ _ _ hus
          have rd2 : Rp X.K H2 d v F0 := keep_pure rd pu c2
          have one : Keep (fun z => z = a) H2 (upd H2 a (.lst (us.set mm v))) := keep_one ha
          refine ⟨a, us, m', mm, rfl, rfl, ha, by rw [hlen]; exact hmm, ?_⟩
          have na2 : ¬ E2 a := fun z => d12 a hE z
          have rp1 : Rps X.K (upd H2 a (.lst (us.set mm v))) (ds.set mm d) (us.set mm v) (fun b => E1 b ∧ b ≠ a) :=
            Rps.mono _ _ _ _ (fun b hb => hb.elim id fun z => z.elim) (Rps.set _ _ _ F0 mm d v (Rps.stay one _ _ _ (fun b hb e => hb.2 e) hus) (Rp.stay one _ _ _ (fun _ z => z.elim) rd2) fun _ _ z => z)
          have rp : Rp X.K (upd H2 a (.lst (us.set mm v))) (.lst (ds.set mm d)) (.ref a) E1 := ⟨a, us.set mm v, rfl, upd_same, hE, rp1⟩
          have en3 := Ens.back (Ens.stay one _ _ _ (fun b hb (e : b = a) => na2 (e ▸ hb)) en') hlv rp (fun b p q => d12 b q p)
          have c12 := c1.trans c2
          refine n.nx _ σ _ _ (c12.kp.trans (one.mono fun b e => (show b = a from e) ▸ t1 a hE) c12.fr) (fun b z => z.elim (fun w => c12.fr b (t2 b w)) fun w => c12.fr b (t1 b w)) en3 ((pa.imp c12.im).imp fun q d' e p' => ?_) g2
          by_cases hj : j = q
          · subst hj; exact ⟨_, hc, rfl⟩
          · rw [List.getElem?_set_ne hj] at e; exact ⟨d', e, p'⟩
        | _ => exact absurd g2 o.hG
      | _ => cases hm
theorem s_aug (x : Str) (xp p : Pos) (op : Operator) (e : Expr) : PS X (.AugAssign (.Name x xp) op e p) (RdS X.K G A0 H0 C.np vs (stepS1 R C sc (.AugAssign (.Name x xp) op e p))) := by
  cases hs : slotOf C sc x with
  | none =>
    refine ps_bad fun D σ H ⟨ρ, E, F, k0, f0, en, pa, g, n⟩ => ?_
    dsimp only [stepS1] at g
    rw [hs] at g
    exact absurd g o.hG
  | some i =>
    cases hc : C.own x && locl sc x && isAS op with
    | false =>
      refine ps_bad fun D σ H ⟨ρ, E, F, k0, f0, en, pa, g, n⟩ => ?_
      dsimp only [stepS1] at g
      rw [hs] at g
      dsimp only at g
      rw [hc] at g
      exact absurd g o.hG
    | true =>
      have hc' := hc
      rw [Bool.and_eq_true, Bool.and_eq_true] at hc'
      obtain ⟨x1, x2, x3, x4⟩ := o.toCok.visx hs
      have hl : Loc X.env.scope x := by rw [o.hsc]; exact locl_of hc'.1.2
      have hop : PIp X op (fun x y H Q => ∃ dx dy Fx Fy k, Rp X.K H dx x Fx ∧ Rp X.K H dy y Fy ∧ G (augD op dx dy k) ∧ VRes G X.K k H Q) := by
        intro pins s σ H x y v u Q I r1 r2 h
        obtain ⟨dx, dy, Fx, Fy, k, hx, hy, g, q⟩ := h
        unfold augD at g
        split at g
        · cases (show x = .int _ from hx)
          cases (show y = .int _ from hy)
          exact ip_add pins s σ H _ _ v u Q I r1 r2 ⟨_, _, rfl, rfl, q.here (d := .int _) rfl g⟩
        · cases (show x = .str _ from hx)
          cases (show y = .str _ from hy)
          obtain ⟨hz, g⟩ := ckK_of o.hG g
          exact iop_add_str pins s σ H _ _ v u Q I r1 r2 ⟨_, _, rfl, rfl, by rw [← szLine_eq]; exact of_decide_eq_true hz, q.here (d := .str _) rfl g⟩
        · cases (show x = .int _ from hx)
          cases (show y = .int _ from hy)
          exact ip_sub pins s σ H _ _ v u Q I r1 r2 ⟨_, _, rfl, rfl, q.here (d := .int _) rfl g⟩
        · exact absurd g o.hG
      refine PS.imp (ps_aug o.nd x1 hl (S.E o e) hop (o.own x hc'.1.1 hc'.1.2)) fun D σ H ⟨ρ, E, F, k0, f0, en, pa, g, n⟩ => ?_
      dsimp only [stepS1] at g
      rw [hs] at g
      dsimp only at g
      rw [hc] at g
      obtain ⟨d, hd, g⟩ := getK_of o.hG (show G (getK ρ i _) from g)
      obtain ⟨pu, g⟩ := puK_of o.hG g
      obtain ⟨v, hv, r⟩ := Ens.get _ _ _ _ _ en hd
      refine ⟨v, hv, ρ, _, F, k0, f0, en, g, fun y ρ1 w H1 Fe c1 v1 _ g1 => ?_⟩
      obtain ⟨Fy, hy⟩ := v1.any
      refine ⟨d, y, F0, Fy, _, Rp.stay c1.kp _ _ _ (fun _ z => z.elim) (Rp.pure _ _ _ pu r), hy, g1, fun z zv H2 Fz kp fr rp g2 => ?_⟩
      have c1' := c1.grow kp
      have ow := c1.val kp fr rp
      obtain ⟨en2, pa2, g3⟩ := set_ok S o vs c1'.en ow.rp ow.dj (pa.imp c1.im) g2
      exact n.nx _ _ H2 _ c1'.kp (fun a z => z.elim (c1'.fr a) (ow.fr a)) en2 pa2 g3
theorem s_if (c : Expr) (a b : List Stmt) (p : Pos) : PS X (.If c a b p) (RdS X.K G A0 H0 C.np vs (stepS1 R C sc (.If c a b p))) := by
  refine PS.imp (ps_if (S.T o c) (S.S o vs a) (S.S o vs b)) fun D σ H ⟨ρ, E, F, k0, f0, en, pa, g, n⟩ => ?_
  refine ⟨ρ, _, F, k0, f0, en, g, fun t ρ1 H1 Fe c1 g1 => ?_⟩
  dsimp only
  cases t with
  | true =>
    rw [if_pos rfl]
    exact ⟨ρ1, E, Fe, c1.keep k0 f0, c1.from k0 f0, c1.en, pa.imp c1.im, g1, n.shift c1.kp c1.fr⟩
  | false =>
    rw [if_neg (by decide)]
    exact ⟨ρ1, E, Fe, c1.keep k0 f0, c1.from k0 f0, c1.en, pa.imp c1.im, g1, n.shift c1.kp c1.fr⟩
theorem s_while (c : Expr) (body : List Stmt) (p : Pos) : PS X (.While c body [] p) (RdS X.K G A0 H0 C.np vs (stepS1 R C sc (.While c body [] p))) := by
  refine PS.imp (ps_while o.pas (S.T o c) (S.S o vs body)) fun D σ H ⟨ρ, E, F, k0, f0, en, pa, g, n⟩ => ?_
  refine ⟨fun m σ' H' => ∃ ρa Fa, Keep F H H' ∧ Fr F H Fa ∧ Ens X.K H' ρa σ' Fa ∧ Par C.np vs σ' ρa ∧ G (whileC (fun ρ1 k => R.T C sc c ρ1 k) (fun ρ1 E2 => R.S C sc body ρ1 E2) m ρa E), ⟨C.wf, ρ, F, Keep.refl _ _, Fr.refl _ _, en, pa, g⟩, fun m σ1 H1 hw => ?_⟩
  obtain ⟨ρa, Fa, kp, fr, ena, paa, ga⟩ := hw
  cases m with
  | zero => exact absurd ga o.hG
  | succ m =>
    have kA := k0.trans kp f0
    have fA := f0.trans k0 fr
    refine ⟨ρa, _, Fa, kA, fA, ena, ga, fun t ρ1 H2 Fe c1 g1 => ?_⟩
    have kp2 := kp.trans c1.kp fr
    have fr2 := fr.trans kp c1.fr
    dsimp only
    cases t with
    | false =>
      rw [if_neg (by decide)]
      exact n.nx ρ1 σ1 H2 Fe kp2 fr2 c1.en (paa.imp c1.im) g1
    | true =>
      rw [if_pos rfl]
      have nn : ∀ ρ' σ' H' F', Keep Fe H2 H' → Fr Fe H2 F' → Ens X.K H' ρ' σ' F' → Par C.np vs σ' ρ' → G (whileC (fun ρ1 k => R.T C sc c ρ1 k) (fun ρ1 E2 => R.S C sc body ρ1 E2) m ρ' E) → (∃ ρa Fa, Keep F H H' ∧ Fr F H Fa ∧ Ens X.K H' ρa σ' Fa ∧ Par C.np vs σ' ρa ∧ G (whileC (fun ρ1 k => R.T C sc c ρ1 k) (fun ρ1 E2 => R.S C sc body ρ1 E2) m ρa E)) :=
        fun ρ' σ' H' F' k f e pp gg => ⟨ρ', F', kp2.trans k fr2, fr2.trans kp2 f, e, pp, gg⟩
      have n2 := n.shift kp2 fr2
      exact ⟨fun σ' H' => ∃ ρa Fa, Keep F H H' ∧ Fr F H Fa ∧ Ens X.K H' ρa σ' Fa ∧ Par C.np vs σ' ρa ∧ G (whileC (fun ρ1 k => R.T C sc c ρ1 k) (fun ρ1 E2 => R.S C sc body ρ1 E2) m ρa E), fun σ' H' h' => ⟨m, Nat.lt_succ_self m, h'⟩,
        ρ1, _, Fe, kA.trans c1.kp fA, fA.trans kA c1.fr, c1.en, paa.imp c1.im, g1, ⟨nn, n2.nx, nn, n2.rt⟩⟩
theorem s_for (tg it : Expr) (body : List Stmt) (p : Pos) : PS X (.For tg it body [] p) (RdS X.K G A0 H0 C.np vs (stepS1 R C sc (.For tg it body [] p))) := by
  cases hi : isSet it with
  | true =>
    refine ps_bad fun D σ H ⟨ρ, E, F, k0, f0, en, pa, g, n⟩ => ?_
    dsimp only [stepS1] at g
    rw [hi] at g
    exact absurd g o.hG
  | false =>
    refine PS.imp (ps_for o.pas o.calm (i_iter S o tg it) (S.G o tg) (S.S o vs body) (fold_ok hi _)) fun D σ H ⟨ρ, E, F, k0, f0, en, pa, g, n⟩ => ?_
    dsimp only [stepS1] at g
    rw [hi] at g
    replace g : G (iterE R C sc it ρ _) := g
    refine ⟨ρ, _, F, k0, f0, en, g, fun ds ρ1 J H1 Fe B c1 src trB djB pds g1 => ?_⟩
    have n1 := n.shift c1.kp c1.fr
    have kA1 := c1.keep k0 f0
    have fA1 := c1.from k0 f0
    let W : Nat → Nat → L2.St → Hp → Prop := fun i m σ' H' => i ≤ ds.length ∧ m = ds.length - i ∧ ∃ ρa Fa, Keep Fe H1 H' ∧ Fr Fe H1 Fa ∧ Dis Fa B ∧ Ens X.K H' ρa σ' Fa ∧ Par C.np vs σ' ρa ∧ G (forC (fun d ρ2 E2 => R.G C sc tg d ρ2 fun ρ3 => R.S C sc body ρ3 E2) (ds.drop i) ρa E)
    refine ⟨W, ⟨ds.length, Nat.zero_le _, rfl, ρ1, Fe, Keep.refl _ _, Fr.refl _ _, djB, c1.en, pa.imp c1.im, g1⟩, fun i m σ2 H2 hw => ?_⟩
    obtain ⟨hle, rfl, ρa, Fa, kp, fr, djA, ena, paa, ga⟩ := hw
    have kpB : Keep (fun a => ¬ B a) H1 H2 := kp.mono fun a z w => djB a z w
    have kA := kA1.trans kp fA1
    have fA := fA1.trans kA1 fr
    have n2 := n1.shift kp fr
    by_cases hlt : i < ds.length
    · refine .inr ⟨src.go H2 kpB i hlt, fun σ' H' => W (i + 1) (ds.length - (i + 1)) σ' H', fun σ' H' h' => ⟨ds.length - (i + 1), by omega, h'⟩, fun x H' hy => ?_⟩
      obtain ⟨rfl, d, hd, rd⟩ := src.yld H2 kpB i x H' hy hlt
      have hdrop : ds.drop i = d :: ds.drop (i + 1) := by
        rw [List.drop_eq_getElem_cons hlt]
        rw [List.getElem?_eq_getElem hlt] at hd
        cases hd; rfl
      rw [hdrop] at ga
      have pud : d.pu = true := pus_get pds hd
      refine ⟨ρa, _, Fa, d, F0, ena, rd, fun _ _ z => z, ga, fun ρ3 σ3 F3 f3 en3 sl3 im3 pa3 g3 => ?_⟩
      have hF3 : ∀ a, F3 a → Fa a := fun a z => (f3 a z).elim id fun z => z.elim
      have nn : ∀ ρ' σ' H4 F', Keep F3 H' H4 → Fr F3 H' F' → Ens X.K H4 ρ' σ' F' → Par C.np vs σ' ρ' → G (forC (fun d ρ2 E2 => R.G C sc tg d ρ2 fun ρ3 => R.S C sc body ρ3 E2) (ds.drop (i + 1)) ρ' E) → W (i + 1) (ds.length - (i + 1)) σ' H4 :=
        fun ρ' σ' H4 F' k f e pp gg => ⟨hlt, rfl, ρ', F', kp.trans k (fr.sub hF3), (fr.sub hF3).trans kp f, fun a z w => (f a z).elim (fun y => djA a (hF3 a y) w) fun y => trB a w (kp.g a y), e, pp, gg⟩
      have n3 := n2.shift (Keep.refl _ _) (F' := F3) fun a z => .inl (hF3 a z)
      exact ⟨ρ3, _, F3, kA, fA.sub hF3, en3, pa3 vs paa, g3, ⟨nn, n3.nx, nn, n3.rt⟩⟩
    · have : i = ds.length := by omega
      subst this
      rw [List.drop_length] at ga
      exact .inl ⟨src.stop H2 kpB, n2.nx ρa σ2 H2 Fa (Keep.refl _ _) (Fr.refl _ _) ena paa ga⟩
theorem s_raise (c : Str) (cp p p2 : Pos) (a : Expr) (r : List Expr) : PS X (.Raise (some (.Call (.Name c cp) (a :: r) [] p)) none p2) (RdS X.K G A0 H0 C.np vs (stepS1 R C sc (.Raise (some (.Call (.Name c cp) (a :: r) [] p)) none p2))) := by
  cases hg : globOf C sc c with
  | cls ps =>
    have red : ∀ ρ E, ckK (noStar (a :: r)) (R.A C sc (a :: r) ρ fun as ρ1 => resP as ρ1 fun ds => pusK ds (ckK (decide (ds.length = ps.length) && decide (ps.length ≤ 100)) (C.xc c (ps.zip ds) ρ1))) = stepS1 R C sc (.Raise (some (.Call (.Name c cp) (a :: r) [] p)) none p2) ρ E := fun ρ E => by
      show _ = (match globOf C sc c with
        | .cls ps => _
        | _ => _)
      rw [hg]
    cases hst : noStar (a :: r) with
    | false =>
      refine ps_bad fun D σ H ⟨ρ, E, F, k0, f0, en, pa, g, n⟩ => ?_
      replace g := (red ρ E).symm ▸ g
      rw [hst] at g
      exact absurd g o.hG
    | true =>
      obtain ⟨g1, g2, g3⟩ := globOf_of hg (fun z => nomatch z)
      obtain ⟨n1, n2, n3⟩ := okName_of g2
      have XC := o.cls c ps g3
      obtain ⟨Ca, fI, fd, k, T, iC, tI, F1, hr, hb, hm, her⟩ := XC.ex
      obtain ⟨h1, h2⟩ := star_cons hst X.env
      refine PS.imp (ps_raise o.calm XC.tk (pmk_oex (CX := CX0) T iC tI F1 hr hb .nil (fun _ _ _ _ _ _ _ z => z.elim) (o.toCok.glx g1) hm (S.A o (a :: r)) n1 h1 (star_any h2 _ _))) fun D σ H ⟨ρ, E, F, k0, f0, en, pa, g, n⟩ => ?_
      replace g := (red ρ E).symm ▸ g
      rw [hst] at g
      replace g : G (R.A C sc (a :: r) ρ _) := g
      refine ⟨ρ, _, F, k0, f0, en, g, fun as ρ1 us H1 Fe Fv c1 fr dj tr ar g1 => ?_⟩
      obtain ⟨ds, hds, g1⟩ := resP_of o.hG ar c1.en g1
      obtain ⟨pu, g1⟩ := pusK_of o.hG g1
      obtain ⟨hl, g1⟩ := ckK_of o.hG g1
      rw [Bool.and_eq_true, decide_eq_true_eq, decide_eq_true_eq] at hl
      have ul := Rps.length _ _ _ hds
      refine ⟨by omega, fun e he => ⟨e, us ++ [], rfl, by rw [List.append_nil]; omega, upd_same, fun d fs H' hd hne hea hdx hlk hkp => ⟨rfl, d, fs, hea, hdx, ?_, ?_⟩⟩⟩
      · rw [upd_ne hne] at hd; exact hd
      · rw [upd_ne hne] at hd
        rw [List.append_nil] at hlk
        have same : ∀ b, b ≠ e → b ≠ d → (upd (del H' e) d (.xd fs)) b = H1 b := fun b hb hb2 => by
          rw [upd_ne hb2, del_ne hb, hkp b hb hb2, upd_ne hb]
        have kp : Keep F0 H1 (upd (del H' e) d (.xd fs)) := ⟨fun b u e1 _ => by
            rw [same b (ne_of_none e1 he) (ne_of_none e1 hd)]; exact e1, fun b e1 => by
            by_cases hb : b = e
            · rw [hb]; exact he
            · by_cases hb2 : b = d
              · rw [hb2]; exact hd
              · rw [same b hb hb2] at e1; exact e1⟩
        refine o.xco c (ps.zip ds) ρ1 g1 (.ref Ca) (some d) _ ((c1.grow kp).keep k0 f0) (her ds us d fs _ hl.1 pu ?_ upd_same hlk)
        exact Rps.stay kp _ _ _ (fun _ z => z.elim) (Rps.pure _ _ _ pu hds)
  | _ =>
    refine ps_bad fun D σ H ⟨ρ, E, F, k0, f0, en, pa, g, n⟩ => ?_
    replace g : G (match globOf C sc c with
      | .cls ps => _
      | _ => .stuck) := g
    rw [hg] at g
    exact absurd g o.hG
theorem s_step1 (st : Stmt) : PS X st (RdS X.K G A0 H0 C.np vs (stepS1 R C sc st)) := by
  cases st with
  | Pass p => exact s_pass S o vs p
  | Break p => exact s_break S o vs p
  | Continue p => exact s_cont S o vs p
  | Expr e p => exact s_expr S o vs e p
  | Return e p =>
    cases e with
    | none => exact s_retN S o vs p
    | some e =>
      cases e with
      | Name x xp => exact s_retV S o vs x xp p
      | _ => exact s_ret S o vs _ p
  | Assign tgs e p =>
    match tgs with
    | [] => exact s_stuck o vs
    | _ :: _ :: _ => exact s_stuck o vs
    | [tg] =>
      cases tg with
      | Name x xp => exact s_setN S o vs x xp p e
      | Tuple es m tp => exact s_setT S o vs es m tp p e
      | Subscript b i tp =>
        cases b with
        | Name x xp => exact s_setI S o vs x xp tp p i e
        | _ => exact s_stuck o vs
      | _ => exact s_stuck o vs
  | AugAssign tg op e p =>
    cases tg with
    | Name x xp => exact s_aug S o vs x xp p op e
    | _ => exact s_stuck o vs
  | If c a b p => exact s_if S o vs c a b p
  | For tg it body els p =>
    cases els with
    | nil => exact s_for S o vs tg it body p
    | cons _ _ => exact s_stuck o vs
  | While c body els p =>
    cases els with
    | nil => exact s_while S o vs c body p
    | cons _ _ => exact s_stuck o vs
  | Raise e ca p =>
    cases hr : raiseOf e ca with
    | none =>
      refine ps_bad fun D σ H ⟨ρ, E, F, k0, f0, en, pa, g, n⟩ => ?_
      dsimp only [stepS1] at g
      rw [hr] at g
      exact absurd g o.hG
    | some t =>
      obtain ⟨cp, q, rfl, rfl⟩ : ∃ cp q, e = some (.Call (.Name t.1 cp) (t.2.1 :: t.2.2) [] q) ∧ ca = none := by
        unfold raiseOf at hr
        split at hr
        · cases hr; exact ⟨_, _, rfl, rfl⟩
        · cases hr
      exact s_raise S o vs t.1 cp q p t.2.1 t.2.2
  | _ => exact s_stuck o vs
theorem s_step (ss : List Stmt) : PSs X ss (RdS X.K G A0 H0 C.np vs (stepS R C sc ss)) := by
  cases ss with
  | nil => exact PSs.imp pss_nil fun D σ H ⟨ρ, E, F, k0, f0, en, pa, g, n⟩ => n.nx ρ σ H F (Keep.refl _ _) (Fr.refl _ _) en pa g
  | cons st r =>
    refine PSs.imp (pss_cons (s_step1 S o vs st) (S.S o vs r)) fun D σ H ⟨ρ, E, F, k0, f0, en, pa, g, n⟩ => ?_
    exact ⟨ρ, _, F, k0, f0, en, pa, g, ⟨fun ρ' σ' H' F' k f e pp gg => ⟨ρ', E, F', k0.trans k f0, f0.trans k0 f, e, pp, gg, n.shift k f⟩, n.bk, n.ct, n.rt⟩⟩
end
theorem snd_step {R : Fns} (S : Snd R) : Snd (step R) where
  E := fun o e => e_step S o e
  T := fun o e => t_step S o e
  W := fun o op vs p => w_step S o op vs p
  A := fun o es => a_step S o es
  P := fun o e => p_step S o e
  G := fun o e => g_step S o e
  S := fun o vs ss => s_step S o vs ss
theorem snd_dead : Snd dead where
  E := fun o e => pe_bad fun σ H Q ⟨ρ, k, F, k0, f0, en, g, q⟩ => absurd g o.hG
  T := fun o e => t_stuck o
  W := fun o op vs p => w_bad o
  A := fun o es => a_stuck o
  P := fun o e => CwR.PET.of (pe_bad fun σ H Q ⟨ρ, k, F, k0, f0, en, g, q⟩ => absurd g o.hG)
  G := fun o e => pg_bad fun v σ H Q ⟨ρ, k, F, d, Fv, en, rp, dj, g, q⟩ => absurd g o.hG
  S := fun o vs ss => ⟨fun pins s σ H D I ⟨ρ, E, F, k0, f0, en, pa, g, n⟩ => absurd g o.hG⟩
theorem snd_ev : ∀ n, Snd (ev n)
  | 0 => snd_dead
  | n + 1 => snd_step (snd_ev n)
end TI
set_option Elab.async false
set_option linter.all false
set_option maxRecDepth 100000
set_option maxHeartbeats 4000000
/-! defs -/
namespace TI
open PySem PySem.Spec PyProof.Rows L2



theorem fin_ok {K : PySem.W.Frag} {H : Hp} : ∀ (vs : List V) (ρ : Env) (σ : L2.St) (F : Fp), Ens K H ρ σ F → (∀ (i : Nat) d, i < vs.length → ρ[i]? = some (some d) → d.pu = false → ∃ v, vs[i]? = some v ∧ σ[i]? = some (some v)) →
    Ens K H (finOf vs.length ρ) (vs.map some) F
  | [], ρ, σ, F, h, p => rfl
  | v :: vs, [], σ, F, h, p => by
    have e : σ = [] := h
    subst e
    exact ⟨some v, vs.map some, rfl, fin_ok vs [] [] F rfl fun i d hi e => by simp at e⟩
  | v :: vs, none :: ρ, σ, F, h, p => by
    obtain ⟨o, τ, rfl, h⟩ := h
    exact ⟨some v, vs.map some, rfl, fin_ok vs ρ τ F h fun i d hi e pu => p (i + 1) d (by simpa using hi) e pu⟩
  | v :: vs, some d :: ρ, σ, F, h, p => by
    obtain ⟨w, τ, G1, G2, rfl, hd, h, s1, s2, dj⟩ := h
    have ih := fin_ok vs ρ τ G2 h fun i d hi e pu => p (i + 1) d (by simpa using hi) e pu
    show Ens K H (fin1 (some d) :: finOf vs.length ρ) _ F
    cases pu : d.pu with
    | true =>
      have e : fin1 (some d) = none := by show (match d.pu with | true => none | false => some d) = _; rw [pu]
      rw [e]
      exact ⟨some v, vs.map some, rfl, Ens.mono _ _ _ _ s2 ih⟩
    | false =>
      have e : fin1 (some d) = some d := by show (match d.pu with | true => none | false => some d) = _; rw [pu]
      rw [e]
      obtain ⟨v', hv, hw⟩ := p 0 d (by simp) rfl pu
      simp at hv hw
      subst hv; subst hw
      exact ⟨_, vs.map some, G1, G2, rfl, hd, ih, s1, s2, dj⟩
theorem ens_none {K : PySem.W.Frag} {H : Hp} : ∀ (n : Nat), Ens K H (List.replicate n none) (List.replicate n none) F0
  | 0 => rfl
  | n + 1 => ⟨none, _, rfl, ens_none n⟩
theorem ens_start {K : PySem.W.Frag} {H : Hp} (n : Nat) : ∀ {ds : List D} {vs : List V} {F : Fp}, Rps K H ds vs F → Ens K H (ds.map some ++ List.replicate n none) (vs.map some ++ List.replicate n none) F
  | [], vs, F, h => by
    rw [show vs = [] from h]
    exact Ens.mono _ _ _ _ (fun _ z => z.elim) (ens_none n)
  | d :: ds, vs, F, h => by
    obtain ⟨v, ws, G1, G2, rfl, h1, h2, s1, s2, dj⟩ := h
    exact ⟨v, _, G1, G2, rfl, h1, ens_start n h2, s1, s2, dj⟩
/-- what the names of the text are, by the facts of the head -/
structure GOk (K : PySem.W.Frag) (w : World) (mg : Str → Option Value) (glo : Str → Glo) : Prop where
  bi : ∀ x, glo x = .bi → mg x = none
  con : ∀ x d, glo x = .con d → d.pu = true ∧ ∃ u v, mg x = some u ∧ RelV v u ∧ ∀ H, Rp K H d v F0
  kd : ∀ x kvs, glo x = .kd kvs → ∃ a es n, mg x = some (.ref a) ∧ KDict K w a es n ∧ ∀ z, ∃ r, PySem.W.nsIn K a z = some r ∧ (match kvs.lookup z with
    | none => r = none
    | some d => d.pu = true ∧ ∃ u v, r = some u ∧ RelV v u ∧ ∀ H, Rp K H d v F0)
section
variable {P : Program} {w : World} {K : PySem.W.Frag} {mg : Str → Option Value} {base : Heap} {cx : CXT} {er : Er}
/-- how an exception goes on -/
structure XOk (cx : CXT) (P : Program) (w : World) (K : PySem.W.Frag) (mg : Str → Option Value) (base : Heap) : Prop where
  th : ∀ N qual scope f cdv A outer s H E, Passes cx (cxOf cx P w K mg base N qual scope f cdv A outer s H E) E
  cn : ∀ st H s e s', cx st H s (fun _ _ _ => False) e s' → False
theorem xok0 : XOk L2.CX0 P w K mg base := ⟨fun _ _ _ _ _ _ _ _ _ _ => fun _ _ _ _ _ _ _ z => z.elim, fun _ _ _ _ _ z => z⟩
/-- an own exception class, by the head's facts -/
def ExcF (P : Program) (w : World) (K : PySem.W.Frag) (mg : Str → Option Value) (base : Heap) (er : Er) (x : Str) (ps : List Str) : Prop :=
  ∃ (Ca fI : Addr) (fd : FuncData), OexC K Ca ∧ PySem.W.findIn K (.ref Ca) "__init__" = some (some (.ref fI)) ∧ PySem.W.typeIn K (.ref fI) = some (.type "function") ∧ FnOk P w K mg base CX0 1 fI fd ("self" :: ps) (spI Ca ps) ∧
    Binds K fd ("self" :: ps) [] ∧ mg x = some (.ref Ca) ∧ ∀ (ds : List D) (vs : List V) (d : Addr) (fs : List (Str × V)) (H : Hp), ds.length = ps.length → D.pus ds = true → Rps K H ds vs F0 → H d = some (.xd fs) → (∀ f, fs.lookup f = (ps.zip vs).lookup f) → er x (ps.zip ds) (.ref Ca) (some d) H
structure XTk (cx : CXT) (P : Program) (w : World) (K : PySem.W.Frag) (mg : Str → Option Value) (base : Heap) : Prop where
  tk : ∀ N qual scope f cdv A outer s H E, Takes (cxOf cx P w K mg base N qual scope f cdv A outer s H E) fun cls d _ H' => E cls d H'
theorem xtk : XTk (L2.CX P w) P w K mg base := ⟨fun _ _ _ _ _ _ _ _ _ _ => takes_of rfl rfl rfl rfl⟩
theorem xokX : XOk (L2.CX P w) P w K mg base := ⟨fun _ _ _ _ _ _ _ _ _ _ => passes_call (takes_of rfl rfl rfl rfl) fun _ _ _ _ h => h, fun _ _ _ _ _ ⟨_, _, _, _, _, _, _, _, _, _, _, _, z⟩ => z⟩
theorem run_ok (xo : XOk cx P w K mg base) {x qual : Str} {params : Arguments} {kws : List (Str × V)} {f : Addr} {fd : FuncData} {d : Df} (F : FunD K x qual params d.body d.sc [] kws f fd) (FS : FnScope d.N (d.N.take d.np) d.sc) (hnp : (d.N.take d.np).length = d.np) (glo : Str → Glo) (call : Str → List D → Res) (lim wf m n : Nat) (h2n : 2 ≤ n) (hlim : LimOk K lim) (hcls : ∀ x ps, glo x = .cls ps → ExcF P w K mg base er x ps ∧ XTk cx P w K mg base)
    (go : GOk K w mg glo) (hfn : ∀ y k, glo y = .fn k → ∃ (fa : Addr) (fdy : FuncData) (ps : List Str), ps.length = k ∧ FnOk P w K mg base cx n fa fdy ps (SpD K er k (call y)) ∧ mg y = some (.ref fa) ∧ PySem.W.keepIn K (.ref fa) = true ∧ Binds K fdy ps []) :
    FnOk P w K mg base cx (n + 1) f fd (d.N.take d.np) (SpD K er d.np (runD glo call lim wf m d)) := by
  refine F.ok FS (fun vs H Q E h => by rw [hnp]; exact h.1) (fun cdv A outer s H vs Q E hr h => ?_)
  obtain ⟨hl, ds, Fa, hds, hg⟩ := h
  have ok : Okx (cxOf cx P w K mg base d.N qual d.sc f cdv A outer s H E) (cdOf glo call lim wf d) d.sc cx er E (fun r => RGood K er Fa H vs r Q E) Fa H := {
    hN := rfl
    nd := FS.nd
    hsc := rfl
    calm := rfl
    own := fun x _ _ => .inl rfl
    bi := go.bi
    con := go.con
    kd := go.kd
    fn := fun y k hy => by
      obtain ⟨fa, fdy, ps, h1, h2, h3, h4, h5⟩ := hfn y k hy
      exact ⟨fa, n, fdy, ps, h1, h2, hr, h3, h4, h5⟩
    pas := L2.passes_of (K := fun e s'' => cx outer H s E e s'') rfl
    thr := xo.th _ _ _ _ _ _ _ _ _ _
    cxn := xo.cn
    room := by have := hr.un; show (A.deeper _).units + 65 < cLine; omega
    lim := hlim
    cls := fun x ps hx => by
      obtain ⟨⟨Ca, fI, fd, e1, e2, e3, e4, e5, e6, e7⟩, tk⟩ := hcls x ps hx
      exact ⟨⟨Ca, fI, fd, 1, e1, e2, e3, e4, hr.mono h2n, e5, e6, e7⟩, tk.tk _ _ _ _ _ _ _ _ _ _⟩
    hG := fun z => z
    xco := fun c fs ρ g => g }
  refine ⟨_, (snd_ev m).S ok vs d.body, env0 d ds, nx0 d.np, Fa, Keep.refl _ _, Fr.refl _ _, ?_, fun i dd hi e pu => ?_, hg, ⟨fun ρ' σ' H' F' kp fr en pa g => ?_, fun ρ' σ' H' F' kp fr en pa g => g.elim, fun ρ' σ' H' F' kp fr en pa g => g.elim, fun dd ρ' σ' v H' F' Fv kp fr fv dj en pa rp g => ?_⟩⟩
  · have := ens_start (K := K) (H := H) (d.N.length - ds.length) hds
    unfold env0 L2.start
    rw [Rps.length _ _ _ hds]
    exact this
  · have hlen := Rps.length _ _ _ hds
    have hi' : i < vs.length := by rw [hl]; exact hi
    refine ⟨vs[i], List.getElem?_eq_getElem hi', ?_⟩
    unfold L2.start
    rw [List.getElem?_append_left (by simpa using hi'), List.getElem?_map, List.getElem?_eq_getElem hi']
    rfl
  · refine g .non H' F0 F' kp (fun _ z => z.elim) fr (fun _ _ z => z) rfl ?_
    have := fin_ok vs ρ' σ' F' en (fun i d0 hi e p => pa i d0 (by show i < d.np; rw [← hl]; exact hi) e p)
    rw [hl] at this
    exact this
  · refine g v H' Fv F' kp fv fr dj rp ?_
    have := fin_ok vs ρ' σ' F' en (fun i d0 hi e p => pa i d0 (by show i < d.np; rw [← hl]; exact hi) e p)
    rw [hl] at this
    exact this
/-- a def of the text keeps what the evaluator tells -/
def FnIs (P : Program) (w : World) (K : PySem.W.Frag) (mg : Str → Option Value) (base : Heap) (cx : CXT) (er : Er) (p : Str × Df) : Prop :=
  ∃ (fa : Addr) (fd : FuncData) (x qual : Str) (params : Arguments) (kws : List (Str × V)), mg p.1 = some (.ref fa) ∧ Binds K fd (p.2.N.take p.2.np) [] ∧ FunD K x qual params p.2.body p.2.sc [] kws fa fd ∧ FnScope p.2.N (p.2.N.take p.2.np) p.2.sc ∧ (p.2.N.take p.2.np).length = p.2.np
def ExtIs (P : Program) (w : World) (K : PySem.W.Frag) (mg : Str → Option Value) (base : Heap) (cx : CXT) (er : Er) (b : Nat) (p : Str × Nat × (List D → Res)) : Prop :=
  ∃ (fa : Addr) (fd : FuncData) (ps : List Str), ps.length = p.2.1 ∧ mg p.1 = some (.ref fa) ∧ PySem.W.keepIn K (.ref fa) = true ∧ Binds K fd ps [] ∧ FnOk P w K mg base cx b fa fd ps (SpD K er p.2.1 p.2.2)
theorem lookup_mem {α : Type} {l : List (Str × α)} {x : Str} {k : α} (h : l.lookup x = some k) : (x, k) ∈ l := by
  induction l with
  | nil => simp at h
  | cons y l ih =>
    obtain ⟨n, k'⟩ := y
    cases e : x == n with
    | true =>
      simp only [List.lookup_cons, e] at h
      cases h
      rw [eq_of_beq e]
      exact List.mem_cons_self
    | false =>
      simp only [List.lookup_cons, e] at h
      exact List.mem_cons_of_mem _ (ih h)
theorem fn_never {k : Nat} {fa : Addr} {fd : FuncData} {ps : List Str} {np : Nat} (h : ps.length = np) : FnOk P w K mg base cx k fa fd ps (SpD K er np fun _ => .stuck) :=
  ⟨fun vs H Q E q => by rw [h]; exact q.1, fun A outer s H args us vs Q E _ _ _ _ q => by obtain ⟨_, _, _, _, z⟩ := q; exact z.elim⟩
theorem glo_fn {T : Tab} {y : Str} {k : Nat} (h : T.glo y = .fn k) : (∃ d, T.fns.lookup y = some d ∧ d.np = k) ∨ (T.fns.lookup y = none ∧ ∃ g, T.exts.lookup y = some g ∧ g.1 = k) := by
  unfold Tab.glo at h
  cases e : T.fns.lookup y with
  | some d => rw [e] at h; cases h; exact .inl ⟨d, rfl, rfl⟩
  | none =>
    rw [e] at h
    dsimp only at h
    cases e2 : T.exts.lookup y with
    | some g => rw [e2] at h; cases h; exact .inr ⟨rfl, g, rfl, rfl⟩
    | none =>
      rw [e2] at h
      dsimp only at h
      split at h <;> first
        | cases h
        | (split at h <;> cases h)
theorem all_ok (xo : XOk cx P w K mg base) {T : Tab} {b : Nat} (hb2 : 2 ≤ b) (hlim : LimOk K T.lim) (go : GOk K w mg T.glo) (hcls : ∀ x ps, T.glo x = .cls ps → ExcF P w K mg base er x ps ∧ XTk cx P w K mg base) (hf : ∀ p ∈ T.fns, FnIs P w K mg base cx er p) (he : ∀ p ∈ T.exts, ExtIs P w K mg base cx er b p) (wf m : Nat) :
    ∀ (n : Nat) y k, T.glo y = .fn k → ∃ (fa : Addr) (fdy : FuncData) (ps : List Str), ps.length = k ∧ FnOk P w K mg base cx (n + b) fa fdy ps (SpD K er k (T.call wf m n y)) ∧ mg y = some (.ref fa) ∧ PySem.W.keepIn K (.ref fa) = true ∧ Binds K fdy ps []
  | 0, y, k, h => by
    rcases glo_fn h with ⟨d, hd, rfl⟩ | ⟨_, g, hg, rfl⟩
    · obtain ⟨fa, fd, x, qual, params, kws, h1, h2, h3, h4, h5⟩ := hf _ (lookup_mem hd)
      exact ⟨fa, fd, _, h5, fn_never h5, h1, h3.kp, h2⟩
    · obtain ⟨fa, fd, ps, h1, h2, h3, h4, h5⟩ := he _ (lookup_mem hg)
      exact ⟨fa, fd, ps, h1, fn_never h1, h2, h3, h4⟩
  | n + 1, y, k, h => by
    rcases glo_fn h with ⟨d, hd, rfl⟩ | ⟨hn, g, hg, rfl⟩
    · obtain ⟨fa, fd, x, qual, params, kws, h1, h2, h3, h4, h5⟩ := hf _ (lookup_mem hd)
      have e : T.call wf m (n + 1) y = runD T.glo (T.call wf m n) T.lim wf m d := by
        funext ds
        show (match T.fns.lookup y with | some d => runD T.glo (T.call wf m n) T.lim wf m d ds | none => _) = _
        rw [hd]
      rw [e, show n + 1 + b = (n + b) + 1 by omega]
      exact ⟨fa, fd, _, h5, run_ok xo h3 h4 h5 T.glo _ T.lim wf m (n + b) (by omega) hlim hcls go (all_ok xo hb2 hlim go hcls hf he wf m n), h1, h3.kp, h2⟩
    · obtain ⟨fa, fd, ps, h1, h2, h3, h4, h5⟩ := he _ (lookup_mem hg)
      have e : T.call wf m (n + 1) y = g.2 := by
        funext ds
        show (match T.fns.lookup y with | some d => runD T.glo (T.call wf m n) T.lim wf m d ds | none => match T.exts.lookup y with | some g => g.2 ds | none => .stuck) = _
        rw [hn, hg]
      rw [e]
      exact ⟨fa, fd, ps, h1, h5.mono (by omega), h2, h3, h4⟩
end
end TI
set_option Elab.async false
set_option linter.all false
set_option maxRecDepth 100000
set_option maxHeartbeats 4000000
/-! the head's facts for the evaluator -/
namespace TI
open PySem PySem.Spec PyProof.Rows L2
section
variable {P : Program} {w : World} {K : PySem.W.Frag} {mg : Str → Option Value} {base h : Heap} {cx : CXT} {er : Er}
theorem fn_is (X : K.In h) (G : h.Ns mainGlobals mg) {nm : Str} {st : Stmt} {d : Df} (hb : d.body = defBody st) (hs : d.sc = defScope st) (cg : (He.Fa.glo nm).ok K = true) (F : ∃ fd, FunD K nm nm (defArgs st) (defBody st) (defScope st) [] [] (He.ga K nm) fd)
    (S : FnScope d.N (d.N.take d.np) d.sc) (hl : (d.N.take d.np).length = d.np)
    (hbind : ∀ (kV doc pm : Value) (an : Option Addr) (cdv ct : Value) (us : List Value), us.length = (d.N.take d.np).length → bindArgs (PySem.W.fnOf nm nm (defArgs st) (defBody st) (defScope st) .none kV doc pm an cdv ct) ⟨us, []⟩ = pure ((d.N.take d.np).zip us)) :
    FnIs P w K mg base cx er (nm, d) := by
  obtain ⟨fd, F⟩ := F
  refine ⟨He.ga K nm, fd, nm, nm, defArgs st, [], He.glo_ok X G cg, F.bindsN hbind, ?_, S, hl⟩
  rw [show (nm, d).2.body = defBody st from hb, show (nm, d).2.sc = defScope st from hs]
  exact F
/-- what a constant, a dict of the top is -/
def ConIs (K : PySem.W.Frag) (w : World) (mg : Str → Option Value) (p : Str × Glo) : Prop := match p.2 with
  | .con d => d.pu = true ∧ ∃ u v, mg p.1 = some u ∧ RelV v u ∧ ∀ H, Rp K H d v F0
  | .kd kvs => ∃ a es n, mg p.1 = some (.ref a) ∧ KDict K w a es n ∧ ∀ z, ∃ r, PySem.W.nsIn K a z = some r ∧ (match kvs.lookup z with
    | none => r = none
    | some d => d.pu = true ∧ ∃ u v, r = some u ∧ RelV v u ∧ ∀ H, Rp K H d v F0)
  | _ => True
theorem glo_cls {T : Tab} {x : Str} {d : List Str} (h : T.glo x = .cls d) : T.cons.lookup x = some (.cls d) := by
  unfold Tab.glo at h
  cases e : T.fns.lookup x with
  | some d => rw [e] at h; cases h
  | none =>
    rw [e] at h
    dsimp only at h
    cases e2 : T.exts.lookup x with
    | some g => rw [e2] at h; cases h
    | none =>
      rw [e2] at h
      dsimp only at h
      cases e3 : T.cons.lookup x with
      | none => rw [e3] at h; dsimp only at h; split at h <;> cases h
      | some g => cases g <;> (rw [e3] at h; dsimp only at h; first | (cases h; rfl) | (cases h) | (split at h <;> cases h))
theorem glo_con {T : Tab} {x : Str} {d : D} (h : T.glo x = .con d) : T.cons.lookup x = some (.con d) := by
  unfold Tab.glo at h
  cases e : T.fns.lookup x with
  | some d => rw [e] at h; cases h
  | none =>
    rw [e] at h
    dsimp only at h
    cases e2 : T.exts.lookup x with
    | some g => rw [e2] at h; cases h
    | none =>
      rw [e2] at h
      dsimp only at h
      cases e3 : T.cons.lookup x with
      | none => rw [e3] at h; dsimp only at h; split at h <;> cases h
      | some g => cases g <;> (rw [e3] at h; dsimp only at h; first | (cases h; rfl) | (cases h) | (split at h <;> cases h))
theorem glo_kd {T : Tab} {x : Str} {d : List (Str × D)} (h : T.glo x = .kd d) : T.cons.lookup x = some (.kd d) := by
  unfold Tab.glo at h
  cases e : T.fns.lookup x with
  | some d => rw [e] at h; cases h
  | none =>
    rw [e] at h
    dsimp only at h
    cases e2 : T.exts.lookup x with
    | some g => rw [e2] at h; cases h
    | none =>
      rw [e2] at h
      dsimp only at h
      cases e3 : T.cons.lookup x with
      | none => rw [e3] at h; dsimp only at h; split at h <;> cases h
      | some g => cases g <;> (rw [e3] at h; dsimp only at h; first | (cases h; rfl) | (cases h) | (split at h <;> cases h))
theorem glo_bi {T : Tab} {x : Str} (h : T.glo x = .bi) : x ∈ T.bis := by
  unfold Tab.glo at h
  cases e : T.fns.lookup x with
  | some d => rw [e] at h; cases h
  | none =>
    rw [e] at h
    dsimp only at h
    cases e2 : T.exts.lookup x with
    | some g => rw [e2] at h; cases h
    | none =>
      rw [e2] at h
      dsimp only at h
      have fin : (match T.bis.contains x with | true => Glo.bi | false => Glo.no) = .bi → x ∈ T.bis := by
        intro q
        cases e4 : T.bis.contains x with
        | true => exact List.contains_iff_mem.mp e4
        | false => rw [e4] at q; cases q
      cases e3 : T.cons.lookup x with
      | none => rw [e3] at h; exact fin h
      | some g => cases g <;> (rw [e3] at h; first | exact fin h | cases h)
theorem go_of {T : Tab} (hb : ∀ x ∈ T.bis, mg x = none) (hc : ∀ p ∈ T.cons, ConIs K w mg p) : GOk K w mg T.glo :=
  ⟨fun x h => hb x (glo_bi h), fun x d h => hc _ (lookup_mem (glo_con h)), fun x kvs h => hc _ (lookup_mem (glo_kd h))⟩
theorem con_str (X : K.In h) (G : h.Ns mainGlobals mg) {x z : Str} (c : (He.Fa.str x z).ok K = true) : ConIs K w mg (x, .con (.str z)) := by
  obtain ⟨t, e⟩ := He.str_ok X G c
  exact ⟨rfl, .str z t, .str z, e, ⟨t, rfl⟩, fun _ => rfl⟩
theorem con_int (X : K.In h) (G : h.Ns mainGlobals mg) {x : Str} {z : Int} (c : (He.Fa.int x z).ok K = true) : ConIs K w mg (x, .con (.int z)) := by
  obtain ⟨t, e⟩ := He.int_ok X G c
  exact ⟨rfl, .int z t, .int z, e, ⟨t, rfl⟩, fun _ => rfl⟩
/-! the dicts of the top -/
open He in
theorem keys_all {P : Params} : ∀ {l : List DictEntry} {ks : List Str}, l.map keyOf = keysIn P ks → ∀ e ∈ l, ∃ k t, e.key = .str k t ∧ k ∈ ks
  | [], _, _, e, he => by simp at he
  | a :: r, [], h, _, _ => by cases h
  | a :: r, k :: ks, h, e, he => by
    have h1 : keyOf a :: r.map keyOf = some (k, PyData.keyHash P k) :: keysIn P ks := h
    injection h1 with h2 h3
    rcases List.mem_cons.mp he with rfl | he
    · unfold keyOf at h2
      split at h2
      · rename_i x t q
        obtain ⟨h5, h6⟩ := Prod.mk.inj (Option.some.inj h2)
        exact ⟨x, t, q, by rw [h5]; exact List.mem_cons_self⟩
      · cases h2
    · obtain ⟨k', t, q, hk⟩ := keys_all h3 e he
      exact ⟨k', t, q, List.mem_cons_of_mem _ hk⟩
open He in
theorem ns_out {a : Addr} {ks : List Str} (h : dicW K a = some (keysIn w.params ks)) {z : Str} (hz : z ∉ ks) : PySem.W.nsIn K a z = some none := by
  unfold dicW at h
  split at h
  · rename_i c es n sl q
    split at h
    · have hk := keys_all (Option.some.inj h)
      unfold PySem.W.nsIn
      rw [q]
      dsimp only
      have hf : es.toList.find? (·.key.isStr z) = none := by
        rw [List.find?_eq_none]
        intro e he hs
        obtain ⟨k, t, hk1, hk2⟩ := hk e he
        rw [hk1] at hs
        have : k = z := by simpa [Value.isStr] using hs
        exact hz (this ▸ hk2)
      rw [hf]
      dsimp only
      have ha : es.toList.any (·.refKey) = false := by
        rw [List.any_eq_false]
        intro e he hs
        obtain ⟨k, t, hk1, hk2⟩ := hk e he
        unfold PySem.DictEntry.refKey at hs
        rw [hk1] at hs
        cases hs
      rw [ha]
      rfl
    · cases h
  · cases h
/-- a written value as the text has it -/
def dvD : He.Dv → D
  | .non => .non
  | .bl b => .bl b
  | .int i => .int i
  | .str x => .str x
  | _ => .ty ""
def dvOk : He.Dv → Bool
  | .non => true
  | .bl b => true
  | .int i => true
  | .str x => true
  | _ => false
theorem dv_rp {q : He.Dv} (h : dvOk q = true) : (dvD q).pu = true ∧ ∀ H, Rp K H (dvD q) (q.v K) F0 := by
  cases q <;> first | exact ⟨rfl, fun _ => rfl⟩ | (cases h)
theorem lookup_map {α β : Type} (f : α → β) : ∀ (l : List (Str × α)) (z : Str), (l.map fun q => (q.1, f q.2)).lookup z = (l.lookup z).map f
  | [], z => rfl
  | (y, a) :: l, z => by
    rw [List.map_cons, List.lookup_cons, List.lookup_cons]
    cases z == y with
    | true => rfl
    | false => exact lookup_map f l z
theorem lookup_none {α : Type} : ∀ {l : List (Str × α)} {z : Str}, l.lookup z = none → z ∉ l.map (·.1)
  | [], z, _ => by simp
  | (y, a) :: l, z, h => by
    rw [List.lookup_cons] at h
    cases e : z == y with
    | true => rw [e] at h; cases h
    | false =>
      rw [e] at h
      have := lookup_none h
      simp only [List.map_cons, List.mem_cons, not_or]
      exact ⟨by intro q; subst q; simp at e, this⟩
theorem con_kd (X : K.In h) (G : h.Ns mainGlobals mg) {x : Str} {kvs : List (Str × He.Dv)} (cg : (He.Fa.glo x).ok K = true) (cd : He.dicW K (He.ga K x) = some (He.keysIn w.params (kvs.map (·.1)))) (cv : He.valsB K (He.ga K x) kvs = true) (co : kvs.all (fun q => dvOk q.2) = true) :
    ConIs K w mg (x, .kd (kvs.map fun q => (q.1, dvD q.2))) := by
  obtain ⟨es, n, kd⟩ := He.dicW_ok cd
  refine ⟨He.ga K x, es, n, He.glo_ok X G cg, kd, fun z => ?_⟩
  rw [lookup_map]
  cases e : kvs.lookup z with
  | none => exact ⟨none, ns_out cd (lookup_none e), rfl⟩
  | some q =>
    have hm := lookup_mem e
    obtain ⟨u, h1, h2⟩ := He.valsB_ok cv hm
    obtain ⟨p1, p2⟩ := dv_rp (K := K) (List.all_eq_true.mp co _ hm)
    exact ⟨some u, h1, p1, u, q.v K, rfl, h2, p2⟩
/-- the script: a list that nobody writes -/
theorem sqf_of {H : Hp} {a : Addr} {vs : List V} (ho : Only H) (hs : SqL K H a vs) : SqF K H a vs := by
  rcases hs with (hs | ⟨o, hs⟩) | hs
  · rcases ho a with h | ⟨o, xs, h⟩
    · rw [h] at hs; cases hs
    · rw [h] at hs; cases hs
  · exact .inl ⟨o, hs⟩
  · exact .inr hs
theorem rps_ints {H : Hp} : ∀ ns : List Int, Rps K H (ns.map D.int) (ns.map V.int) F0
  | [] => rfl
  | n :: ns => ⟨.int n, ns.map V.int, F0, F0, rfl, rfl, rps_ints ns, fun _ q => q, fun _ q => q, fun _ q => q.elim⟩
theorem pus_ints : ∀ ns : List Int, D.pus (ns.map D.int) = true
  | [] => rfl
  | n :: ns => by show (true && _) = true; rw [pus_ints ns]; rfl
def er0 : Er := fun _ _ _ _ _ => False
/-- the law's promise from its equation -/
theorem law_sp {g : List D → Res} {H : Hp} {a : Addr} {ns : List Int} (ho : Only H) (hs : SqL K H a (ns.map V.int)) (e : g [.rol (ns.map D.int)] = .ret (.bl true) [none]) :
    SpD K er 1 g [.ref a] H (fun v _ => v = .bl true) fun _ _ _ => False := by
  refine ⟨rfl, [.rol (ns.map D.int)], F0, ⟨.ref a, [], F0, F0, rfl, ⟨a, ns.map V.int, rfl, sqf_of ho hs, pus_ints ns, rps_ints ns⟩, rfl, fun _ q => q, fun _ q => q, fun _ q => q.elim⟩, ?_⟩
  rw [e]
  intro v H' Fv Ff _ _ _ _ r _
  exact r
end
end TI
set_option Elab.async false
set_option linter.all false
set_option maxRecDepth 100000
set_option maxHeartbeats 4000000
/-! own exceptions: what the head must say, their making, their looks in a clause -/
namespace TI
open PySem PySem.Spec PyProof.Rows L2
/-- an error with the fields fs, as the row's heap has it -/
def erX (K : PySem.W.Frag) (mg : Str → Option Value) : Er := fun c fs cls dx H => ∃ Ca d ws, mg c = some (.ref Ca) ∧ cls = .ref Ca ∧ dx = some d ∧ H d = some (.xd ws) ∧ ∀ f x, fs.lookup f = some x → ∃ v, ws.lookup f = some v ∧ x.pu = true ∧ Rp K H x v F0
theorem zip_lookup {K : PySem.W.Frag} {H : Hp} : ∀ {ps : List Str} {ds : List D} {vs : List V} {f : Str} {x : D}, Rps K H ds vs F0 → D.pus ds = true → (ps.zip ds).lookup f = some x → ∃ v, (ps.zip vs).lookup f = some v ∧ x.pu = true ∧ Rp K H x v F0
  | [], _, _, _, _, _, _, h => by cases h
  | p :: ps, [], _, _, _, _, _, h => by cases h
  | p :: ps, d :: ds, vs, f, x, hr, hp, h => by
    obtain ⟨v, ws, G1, G2, rfl, h1, h2, s1, s2, _⟩ := hr
    rw [D.pus, Bool.and_eq_true] at hp
    rw [List.zip_cons_cons, List.lookup_cons] at h ⊢
    cases e : f == p with
    | true =>
      rw [e] at h
      cases h
      exact ⟨v, rfl, hp.1, Rp.pure _ _ _ hp.1 h1⟩
    | false =>
      rw [e] at h
      exact zip_lookup (Rps.mono _ _ _ _ s2 h2) hp.2 h
theorem erX_made {K : PySem.W.Frag} {mg : Str → Option Value} {x : Str} {ps : List Str} {Ca : Addr} (hm : mg x = some (.ref Ca)) : ∀ (ds : List D) (vs : List V) (d : Addr) (fs : List (Str × V)) (H : Hp), ds.length = ps.length → D.pus ds = true → Rps K H ds vs F0 → H d = some (.xd fs) → (∀ f, fs.lookup f = (ps.zip vs).lookup f) → erX K mg x (ps.zip ds) (.ref Ca) (some d) H :=
  fun ds vs d fs H _ pu hr hd hl => ⟨Ca, d, fs, hm, rfl, rfl, hd, fun f y hy => by
    rw [hl f]
    exact zip_lookup hr pu hy⟩
/-! ### the class, by a look -/
def oexB (K : PySem.W.Frag) (C : Addr) : Bool := match K.lookup C with
  | some ⟨.type "type", _, .cls cd, sl⟩ => (match cd.mro, sl.toList with
    | .ref c :: l, [_, _, _, _, some (.builtin nw), _] => decide (c = C) && (decide (nw = "ValueError.__new__") && (!cd.hasDel && (cd.hasDict && PySem.HandSPX.refsVE l)))
    | _, _ => false)
  | _ => false
def oexB2 (K : PySem.W.Frag) (C : Addr) : Bool := oexB K C && (decide (PySem.W.findIn K (.ref C) "__setattr__" = some (some (.builtin "object.__setattr__"))) && (decide (PySem.W.subIn K (.ref C) (.type "BaseException") = some true) && (decide (PySem.W.typeIn K (.ref C) = some (.type "type")) && PySem.W.keepIn K (.ref C))))
theorem oex_cls {K : PySem.W.Frag} {C : Addr} (h : oexB K C = true) : ∃ nm q N bs bm sn sub ab col dd k0 k1 k2 k3 k5, K.lookup C = some (excClassObj nm q C N bs bm true sn sub ab col dd k0 k1 k2 k3 k5 "ValueError.__new__") ∧ PySem.HandSPX.refsVE bm = true := by
  unfold oexB at h
  split at h
  · rename_i dd cd sl hlk
    split at h
    · rename_i c l a0 a1 a2 a3 nw a5 em es
      rw [Bool.and_eq_true, Bool.and_eq_true, Bool.and_eq_true, Bool.and_eq_true, decide_eq_true_eq, decide_eq_true_eq, Bool.not_eq_true'] at h
      obtain ⟨e1, e2, e3, e4, e5⟩ := h
      obtain ⟨n1, n2, n3, n4, n5, n6, n7, n8, n9, n10, n11⟩ := cd
      dsimp only at em e3 e4
      subst em e1 e2 e3 e4
      obtain ⟨sl⟩ := sl
      dsimp only at es
      subst es
      exact ⟨_, _, _, _, l, _, _, _, _, dd, a0, a1, a2, a3, a5, hlk, e5⟩
    · cases h
  · cases h
theorem oex_ok {K : PySem.W.Frag} {C : Addr} (h : oexB2 K C = true) : OexC K C := by
  unfold oexB2 at h
  rw [Bool.and_eq_true, Bool.and_eq_true, Bool.and_eq_true, Bool.and_eq_true, decide_eq_true_eq, decide_eq_true_eq, decide_eq_true_eq] at h
  exact ⟨oex_cls h.1, h.2.1, h.2.2.1, h.2.2.2.1, h.2.2.2.2⟩
/-! ### __init__ -/
section
variable {P : Program} {w : World} {K : PySem.W.Frag} {mg : Str → Option Value} {base : Heap}
theorem init_one {x qual f : Str} {params : Arguments} {scope : Scope} {kws : List (Str × V)} {fI Ca : Addr} {fd : FuncData} {p1 p2 p3 p4 : Pos} (F : FunD K x qual params [.Assign [.Attribute (.Name "self" p1) f p2] (.Name f p3) p4] scope [] kws fI fd)
    (S : FnScope ["self", f] ["self", f] scope) (hv : scope.names.lookup f = some .local) (hs : scope.names.lookup ("self" : Str) = some NameKind.local) (hd : (f == ("__debug__" : Str)) = false) (hc : (f == ("__classdict__" : Str)) = false) (T : OexC K Ca) (hno : PySem.W.findIn K (.ref Ca) f = some none) :
    FnOk P w K mg base CX0 1 fI fd ["self", f] (spI Ca [f]) := by
  refine F.ok S (fun vs H Q E h => ?_) (fun cdv A outer s H vs Q E hr h => ?_)
  · obtain ⟨a, ws, rfl, hl, _⟩ := h
    rw [List.length_cons, hl]; rfl
  · obtain ⟨a, ws, rfl, hl, ha, hq⟩ := h
    obtain ⟨v, rfl⟩ : ∃ v, ws = [v] := List.length_eq_one_iff.mp hl
    refine ⟨_, pss_one (ps_ost (pe_var (i := 0) rfl (.inl hs) rfl rfl) (pe_var (i := 1) rfl (.inl hv) hd hc)), ?_⟩
    exact ⟨v, rfl, .ref a, rfl, a, Ca, rfl, T, hno, .inl ⟨ha, fun dx hdx hne => hq dx [(f, v)] _ hdx hne upd_same (by rw [upd_ne hne, upd_same]) (fun g => rfl) fun b h1 h2 => by rw [upd_ne h1, upd_ne h2]⟩⟩
theorem init_two {x qual f g : Str} {params : Arguments} {scope : Scope} {kws : List (Str × V)} {fI Ca : Addr} {fd : FuncData} {p1 p2 p3 p4 q1 q2 q3 q4 : Pos} (F : FunD K x qual params [.Assign [.Attribute (.Name "self" p1) f p2] (.Name f p3) p4, .Assign [.Attribute (.Name "self" q1) g q2] (.Name g q3) q4] scope [] kws fI fd)
    (S : FnScope ["self", f, g] ["self", f, g] scope) (hv : scope.names.lookup f = some .local) (hw : scope.names.lookup g = some .local) (hs : scope.names.lookup ("self" : Str) = some NameKind.local) (hd : (f == ("__debug__" : Str)) = false) (hc : (f == ("__classdict__" : Str)) = false)
    (hd2 : (g == ("__debug__" : Str)) = false) (hc2 : (g == ("__classdict__" : Str)) = false) (hfg : f ≠ g) (T : OexC K Ca) (hno : PySem.W.findIn K (.ref Ca) f = some none) (hno2 : PySem.W.findIn K (.ref Ca) g = some none) :
    FnOk P w K mg base CX0 1 fI fd ["self", f, g] (spI Ca [f, g]) := by
  refine F.ok S (fun vs H Q E h => ?_) (fun cdv A outer s H vs Q E hr h => ?_)
  · obtain ⟨a, ws, rfl, hl, _⟩ := h
    rw [List.length_cons, hl]; rfl
  · obtain ⟨a, ws, rfl, hl, ha, hq⟩ := h
    obtain ⟨v, u, rfl⟩ : ∃ v u, ws = [v, u] := match ws, hl with | [v, u], _ => ⟨v, u, rfl⟩
    refine ⟨_, pss_cons (ps_ost (pe_var (i := 0) rfl (.inl hs) rfl rfl) (pe_var (i := 1) rfl (.inl hv) hd hc)) (pss_one (ps_ost (pe_var (i := 0) rfl (.inl hs) rfl rfl) (pe_var (i := 2) rfl (.inl hw) hd2 hc2))), ?_⟩
    refine ⟨v, rfl, .ref a, rfl, a, Ca, rfl, T, hno, .inl ⟨ha, fun dx hdx hne => ?_⟩⟩
    have hda : upd (upd H dx (exd dx [(f, v)])) a (exo a Ca (some dx)) dx = some (exd dx [(f, v)]) := by rw [upd_ne hne, upd_same]
    refine ⟨u, rfl, .ref a, rfl, a, Ca, rfl, T, hno2, .inr ⟨dx, [(f, v)], upd_same, hda, by simp, ?_⟩⟩
    refine hq dx [(g, u), (f, v)] _ hdx hne (by rw [upd_ne (Ne.symm hne), upd_same]) upd_same (fun z => ?_) fun b h1 h2 => by rw [upd_ne h2, upd_ne h1, upd_ne h2]
    show ([(g, u), (f, v)] : List (Str × V)).lookup z = ([(f, v), (g, u)] : List (Str × V)).lookup z
    by_cases e1 : z = f
    · subst e1
      have : (z == g) = false := by simpa using hfg
      simp [List.lookup, this]
    · have n1 : (z == f) = false := by simpa using e1
      by_cases e2 : z = g
      · subst e2; simp [List.lookup, n1]
      · have n2 : (z == g) = false := by simpa using e2
        simp [List.lookup, n1, n2]
end
end TI
set_option Elab.async false
set_option linter.all false
set_option maxRecDepth 100000
set_option maxHeartbeats 4000000
/-! isinstance of a caught error that has fields -/
namespace TX
open PySem PySem.W PySem.Calls PyProof.Rows
section
variable {prog : Program} {w : World} {Ar : Around} {E : Value → Shared → Prop} {s : Shared} {K : Frag} {x C : Addr} {ob : Obj} {od : Option Obj}
/-- what the class must say -/
structure AskC (K : Frag) (C : Addr) : Prop where
  own : findIn K (.ref C) "__getattribute__" = some (some (.builtin "BaseException.__getattribute__"))
  alt : findIn K (.ref C) "__getattr__" = some none
  sub : subIn K (.ref C) (.type "BaseException") = some true
  dct : hasDictIn K C = true
  kls : findIn K (.ref C) "__class__" = some (some (.builtin "object.__class__"))
  get : specialIn K (.builtin "object.__class__") "__get__" = some (some (.builtin "getset_descriptor.__get__"))
  tak : takesIn K (.builtin "object.__class__") = some true
  mro : mroIn K C (.type "object") = some true
theorem AskC.cd (T : AskC K C) : ∃ cd, clsIn K C = some cd := by
  obtain ⟨cd, hc, _⟩ := any_some T.dct
  exact ⟨cd, hc⟩
theorem AskC.look (T : AskC K C) : findObj K C od "__class__" = some (.bind (.builtin "getset_descriptor.__get__") (.builtin "object.__class__")) := by
  obtain ⟨cd, hc⟩ := T.cd
  unfold findObj
  rw [hc]
  rw [Option.bind_some, T.kls]
  rw [Option.bind_some]
  simp [T.get, T.tak]
theorem AskC.klass (T : AskC K C) {Q : Option Value → Shared → Prop} (Y : K.In s.heap) (J : InstAt s.heap x ob C od) (hq : Q (some (.ref C)) { s with toks := s.toks + 1 }) : wpAny (model prog w) Ar (getAttr? (.ref x) "__class__") Q E s := by
  obtain ⟨hp, gg, dd, tt, oo⟩ := s
  have ty := J.type (M := model prog w)
  have f1 := looks_findIn (M := model prog w) Y T.own
  have f2 := looks_findIn (M := model prog w) Y T.alt
  have f3 := looks_find (M := model prog w) Y J T.look
  have isE : Looks (model prog w) hp (isInstance (.ref x) (.type "BaseException")) true := ty.andThen (looks_subIn Y T.sub)
  have n0 : (false && onTheHeap (Value.builtin "BaseException.__getattribute__")) = false := rfl
  have n2 : (Value.builtin "BaseException.__getattribute__" == Value.builtin "object.__getattribute__") = false := by decide +kernel
  have n1 : (onTheHeap (Value.ref C) && Value.builtin "BaseException.__getattribute__" == Value.builtin "object.__getattribute__") = false := by
    rw [n2]; rfl
  unfold getAttr?
  unfold getAttrBy?
  unfold getAttrBy
  refine wpAny_bind (wpAny_mkText ?_)
  refine wpAny_bind (wpAny_attempt ?_)
  refine wpAny_holding (wpAny_bind (ty.at ?_))
  refine wpAny_bind (f1.at ?_)
  show wpAny _ _ (if (onTheHeap (Value.ref C) && Value.builtin "BaseException.__getattribute__" == Value.builtin "object.__getattribute__") = true then _ else _) _ _ _
  rw [n1]
  rw [if_neg Bool.false_ne_true]
  unfold getAttrByItsOwn
  unfold hookBefore
  refine wpAny_bind ?_
  rw [if_pos (show onTheHeap (Value.ref C) = true from rfl)]
  refine f2.at (wpAny_bind (wpAny_attempt ?_))
  refine wpAny_holding ?_
  unfold callGetattribute
  rw [n0]
  rw [if_neg Bool.false_ne_true]
  unfold boundAndCalled
  rw [PySem.F.excAttr_ValueError.ga.bind (.ref x)]
  refine wpAny_bind (wpAny_pure ?_)
  show wpAny _ _ (call (.builtin "BaseException.__getattribute__") [.ref x, .str "__class__" tt]) _ _ _
  refine wpAny_call (codeAny_call_builtin PySem.F.excAttr_ValueError.ga.plain PySem.F.entry_bexc_ga (@check_slot (model prog w) _ _ ⟨hp, gg, dd, tt + 1, oo⟩ "BaseException.__getattribute__" "BaseException" "__getattribute__" (.ref x) [.str "__class__" tt] [] _ (by decide +kernel) (by decide +kernel) isE (PySem.F.args_bexc_ga (.ref x) (.str "__class__" tt)) ?_))
  unfold Builtin.«object.__getattribute__»
  refine wpAny_bind (wpAny_of_eq (a := ((Value.ref x : Value), [Value.str "__class__" tt])) (by first | rfl | (simp only [slotArgs]; rfl)) ?_)
  refine wpAny_bind (wpAny_pure ?_)
  refine wpAny_bind (ty.at (wpAny_bind (f3.at ?_)))
  show wpAny _ _ (holding [Value.builtin "object.__class__"] (call (.builtin "getset_descriptor.__get__") [.builtin "object.__class__", .ref x, .ref C]) >>= ret) _ _ _
  refine wpAny_bind (wpAny_holding (wpAny_call (class_get (s := ⟨hp, gg, dd, tt + 1, oo⟩) (ox := ob) (od := od) Y J T.mro ?_)))
  refine wpAny_pure ?_
  show wpAny _ _ (handedOut (.ref C)) _ _ _
  rw [handedOut_of (v := .ref C) rfl]
  first
    | exact wpAny_pure (wpAny_pure hq)
    | exact wpAny_pure hq
    | exact wpAny_pure (wpAny_bind (wpAny_pure (wpAny_pure hq)))
theorem AskC.kit (T : AskC K C) : KitX K (.ref x) (.ref C) (fun h => ∃ o, InstAt h x ob C (some o)) where
  ty := fun _ _ _ ⟨_, J⟩ => J.type
  it := fun _ _ Y _ => by
    obtain ⟨cd, hc⟩ := T.cd
    unfold clsIn at hc
    split at hc
    · rename_i c' d' cd' sl' lk
      intro A' Q' E' s' k q
      unfold isType
      unfold loadHead
      exact wpAny_bind (wpAny_loadPart (k _ _ (Y _ _ lk)) (wpAny_pure q))
    · cases hc
  ne := fun h tp dd its n sl Y htp => by
    obtain ⟨cd, hc⟩ := T.cd
    refine Bool.eq_false_iff.mpr fun z => ?_
    obtain rfl : C = tp := Value.ref.inj (beq_iff_eq.mp z)
    unfold clsIn at hc
    split at hc
    · rename_i c' d' cd' sl' lk
      have two := (Y _ _ lk).symm.trans htp
      cases two
    · cases hc
  ca := fun Y ⟨_, J⟩ k => T.klass Y J k
end
end TX
namespace TI
open PySem PySem.Spec PyProof.Rows L2
/-- isinstance(e, c), e the error that the suite holds, with its fields -/
def rAsk (K : PySem.W.Frag) (C a : Addr) (d : Option Addr) : List V → Hp → VK → Prop := fun xs H Q => ∃ (c : V) (cv : Value) (b : Bool) (dd : Addr) (fs : List (Str × V)), xs = [.ref a, c] ∧ (∀ u, RelV c u → u = cv) ∧ d = some dd ∧ H dd = some (.xd fs) ∧ PySem.W.kitOne K (.ref C) cv = some b ∧ Q (.bl b) H
theorem call_ask {X : Cx} {a C : Addr} {d : Option Addr} {oe : Obj} {pn : List (Addr × Obj)} (T : TX.AskC X.K C) (hz : Zc (.ref C) d oe) (hf : ∃ vs, oe.data = .fields vs) : CallR (X.suite a ((a, oe) :: pn)) (.builtin "isinstance") (rAsk X.K C a d) := by
  intro pins s σ H xs us Q I r h
  obtain ⟨c, cv, b, dd, fs, rfl, hcv, rfl, hdd, e, q⟩ := h
  obtain ⟨u1, u2, rfl, r1, r2⟩ := vals2 r
  cases r1
  cases hcv _ r2
  obtain ⟨hget, _⟩ := I.pin (a, oe) (List.mem_append.mpr (.inl List.mem_cons_self))
  obtain ⟨vs, hv⟩ := hf
  have hx : ObjOk X.prog X.w H s.heap dd (.xd fs) := I.hok dd _ hdd
  obtain ⟨mA, hns, _⟩ := hx
  obtain ⟨od, ho, _⟩ := lookIn_ns hns
  have J : PySem.W.InstAt s.heap a oe C (some od) := ⟨hget, hz.1, by unfold PySem.W.notCls; rw [hv] <;> rfl, by rw [hz.2]; exact ho⟩
  exact PySem.W.kia_one T.kit I.kIn ⟨od, J⟩ e (fun z => nomatch z) fun tk => ⟨.bl b, H, I.kept (t' := tk) fun _ _ z => z, rfl, q⟩
end TI
set_option Elab.async false
set_option linter.all false
set_option maxRecDepth 100000
set_option maxHeartbeats 4000000
/-! texts: one sign sought, exchanged -/
namespace TI
open PySem PySem.Spec PyProof.Rows L2 Builtin Builtin.Str PySem.StrLaws

def one (c : Nat) : PySem.Str := ⟨#[c]⟩
theorem sub_one (x : PySem.Str) (c i : Nat) : (i + (one c).length ≤ x.length ∧ subAt x (one c) i = true) ↔ x.cps.toList[i]? = some c := by
  have e1 : (one c).length = 1 := rfl
  rw [e1]
  unfold subAt
  rw [e1]
  have hl : x.length = x.cps.size := rfl
  constructor
  · rintro ⟨h1, h2⟩
    have h3 : x.cps.extract i (i + 1) = (one c).cps := by simpa using h2
    have h4 := congrArg (fun (a : Array Nat) => a[0]?) h3
    have hi : i < x.cps.size := by omega
    have h5 : (x.cps.extract i (i + 1))[0]? = x.cps[i]? := by
      rw [Array.getElem?_extract]
      simp
      intro h; omega
    rw [h5] at h4
    rw [Array.getElem?_toList, h4]
    rfl
  · intro h
    rw [Array.getElem?_toList] at h
    have hi : i < x.cps.size := by
      rcases Nat.lt_or_ge i x.cps.size with q | q
      · exact q
      · rw [Array.getElem?_eq_none q] at h; cases h
    refine ⟨by omega, ?_⟩
    have : x.cps.extract i (i + 1) = (one c).cps := by
      apply Array.ext
      · simp [one]; omega
      · intro j h1 h2
        have hj : j = 0 := by simp [one] at h2; omega
        subst hj
        rw [Array.getElem?_eq_getElem hi] at h
        cases h
        simp [one]
    rw [this]
    simp
theorem at_one (x : PySem.Str) (c hi i : Nat) (hh : hi ≤ x.length) : At x (one c) hi i ↔ i < hi ∧ x.cps.toList[i]? = some c := by
  have e1 : (one c).length = 1 := rfl
  unfold At
  constructor
  · rintro ⟨h1, h2⟩
    rw [e1] at h1
    exact ⟨by omega, (sub_one x c i).mp ⟨by rw [e1]; omega, h2⟩⟩
  · rintro ⟨h1, h2⟩
    exact ⟨by rw [e1]; omega, ((sub_one x c i).mpr h2).2⟩
theorem range'_split2 {p n a : Nat} {pre post : List Nat} (h : List.range' p n = pre ++ a :: post) : p ≤ a ∧ a < p + n ∧ ∀ k, p ≤ k → k < a → k ∈ pre := by
  have hL : n = pre.length + (post.length + 1) := by
    have := congrArg List.length h
    simpa using this
  have hlen : p + pre.length = a := by
    have h1 : (List.range' p n)[pre.length]? = some a := by rw [h]; simp
    rw [List.getElem?_range'] at h1
    · simpa using h1
    · omega
  refine ⟨by omega, by omega, fun k h1 h2 => ?_⟩
  have h3 : (List.range' p n)[k - p]? = pre[k - p]? := by rw [h, List.getElem?_append_left (by omega)]
  rw [List.getElem?_range'] at h3
  · have h4 : pre[k - p]? = some k := by rw [← h3]; simp; omega
    exact List.mem_of_getElem? h4
  · omega
theorem findIn_nat (x : PySem.Str) (c p s : Nat) (hp : p ≤ s) (hs : s ≤ x.length) : Txt.findIn x (one c) (p : Int) (s : Int) = (match occurrences x (one c) p s 1 with | k :: _ => (k : Int) | [] => -1) := by
  have e1 : fromIndex x.length (p : Int) = p := by unfold fromIndex; rw [if_neg (by omega)]; omega
  have e2 : toIndexW x.length (s : Int) = s := by unfold toIndexW; rw [if_neg (by omega)]; omega
  unfold Txt.findIn
  rw [e1, e2]
  cases occurrences x (one c) p s 1 <;> rfl
theorem find_at {x : PySem.Str} {c p s k : Nat} (hpk : p ≤ k) (hks : k < s) (hs : s ≤ x.length) (hc : x.cps.toList[k]? = some c) (hno : ∀ i, p ≤ i → i < k → x.cps.toList[i]? ≠ some c) : Txt.findIn x (one c) (p : Int) (s : Int) = (k : Int) := by
  rw [findIn_nat x c p s (by omega) hs, occ_eq]
  rcases occ_first x (one c) s 1 (Nat.le_refl _) (List.range' p (s + 1 - p)) p (fun i hi => by simp [List.mem_range'] at hi; omega) with ⟨h0, hn⟩ | ⟨pre, a, post, e, h0, ha, hn⟩
  · exact absurd ((at_one x c s k hs).mpr ⟨hks, hc⟩) (hn k (List.mem_range'_1.mpr (by omega)))
  · obtain ⟨r1, r2, r3⟩ := range'_split2 e
    have ha' := (at_one x c s a hs).mp ha
    have hak : a = k := by
      rcases Nat.lt_trichotomy a k with h | h | h
      · exact absurd ha'.2 (hno a r1 h)
      · exact h
      · exact absurd ((at_one x c s k hs).mpr ⟨hks, hc⟩) (hn k (r3 k hpk h))
    subst hak
    cases hh : (forIn (List.range' p (s + 1 - p)) ((#[] : Array Nat), p) (occBody x (one c) s 1)).run.fst with
    | mk l =>
      rw [hh] at h0
      cases l with
      | nil => simp at h0
      | cons b l => simp at h0; subst h0; rfl
theorem find_no {x : PySem.Str} {c p s : Nat} (hp : p ≤ s) (hs : s ≤ x.length) (hno : ∀ i, p ≤ i → i < s → x.cps.toList[i]? ≠ some c) : Txt.findIn x (one c) (p : Int) (s : Int) = -1 := by
  rw [findIn_nat x c p s hp hs, occ_eq]
  rcases occ_first x (one c) s 1 (Nat.le_refl _) (List.range' p (s + 1 - p)) p (fun i hi => by simp [List.mem_range'] at hi; omega) with ⟨h0, hn⟩ | ⟨pre, a, post, e, h0, ha, hn⟩
  · rw [h0]
  · obtain ⟨r1, r2, r3⟩ := range'_split2 e
    have ha' := (at_one x c s a hs).mp ha
    exact absurd ha'.2 (hno a r1 ha'.1)
/-! ### one sign exchanged -/
def pos1 (c : Nat) : List Nat → Nat → List Nat
  | [], _ => []
  | a :: cs, o => if a = c then o :: pos1 c cs (o + 1) else pos1 c cs (o + 1)
theorem occ_all (x : PySem.Str) (c limit : Nat) : ∀ (cs : List Nat) (o : Nat) (arr : Array Nat) (free : Nat), x.cps.toList.drop o = cs → arr.size + cs.length < limit → free ≤ o → o ≤ x.length →
    (forIn (List.range' o (cs.length + 1)) (arr, free) (occBody x (one c) x.length limit)).run.fst.toList = arr.toList ++ pos1 c cs o
  | [], o, arr, free, hd, hl, hf, ho => by
    rw [show List.range' o (([] : List Nat).length + 1) = [o] from rfl, List.forIn_cons]
    have hol : x.length ≤ o := by
      have := congrArg List.length hd
      simp at this
      show x.cps.size ≤ o
      omega
    unfold occBody
    rw [if_neg (fun h => by have := h.1.2; have e1 : (one c).length = 1 := rfl; omega)]
    simp [pos1]
  | a :: cs, o, arr, free, hd, hl, hf, ho => by
    have hlen : (a :: cs).length + 1 = (cs.length + 1) + 1 := rfl
    rw [hlen, List.range'_succ, List.forIn_cons]
    have ha : x.cps.toList[o]? = some a := by
      have := congrArg (fun l => l[0]?) hd
      simpa using this
    have hd' : x.cps.toList.drop (o + 1) = cs := by
      have := congrArg (fun l => l.drop 1) hd
      simpa [List.drop_drop] using this
    have hlt : o < x.length := by
      have h1 : o < x.cps.toList.length := (List.getElem?_eq_some_iff.mp ha).1
      show o < x.cps.size
      simpa using h1
    unfold occBody
    simp only [List.length_cons] at hl
    by_cases hc : a = c
    · subst hc
      have h2 := (sub_one x a o).mpr ha
      rw [if_pos ⟨⟨⟨by show arr.size < limit; omega, hf⟩, h2.1⟩, h2.2⟩]
      have ih := occ_all x a limit cs (o + 1) (arr.push o) (o + (one a).length) hd' (by simp; omega) (by show o + 1 ≤ o + 1; omega) (by omega)
      simp only [Nat.add_comm 1] at *
      show (forIn (List.range' (o + 1) (cs.length + 1)) (arr.push o, o + (one a).length) (occBody x (one a) x.length limit)).run.fst.toList = _
      rw [ih]
      simp [pos1]
    · rw [if_neg (fun h => by
        have := (sub_one x c o).mp ⟨h.1.2, h.2⟩
        rw [ha] at this
        cases this
        exact hc rfl)]
      have ih := occ_all x c limit cs (o + 1) arr free hd' (by omega) (by omega) (by omega)
      show (forIn (List.range' (o + 1) (cs.length + 1)) (arr, free) (occBody x (one c) x.length limit)).run.fst.toList = _
      rw [ih]
      simp [pos1, hc]
theorem occ_one (x : PySem.Str) (c : Nat) : occurrences x (one c) 0 x.length (x.length + 1) = pos1 c x.cps.toList 0 := by
  rw [occ_eq]
  have := occ_all x c (x.length + 1) x.cps.toList 0 #[] 0 rfl (by show 0 + x.cps.toList.length < x.cps.size + 1; simp) (Nat.le_refl _) (Nat.zero_le _)
  have e : x.length + 1 - 0 = x.cps.toList.length + 1 := by show x.cps.size + 1 - 0 = _; simp
  rw [e, this]
  simp
def gl (z : List Nat) : List (List Nat) → List Nat
  | [] => []
  | p :: ps => p ++ ps.flatMap fun q => z ++ q
theorem glued_gl (z : PySem.Str) (ps : List PySem.Str) : (glued z ps).cps.toList = gl z.cps.toList (ps.map (·.cps.toList)) := by
  have key : ∀ (l : List PySem.Str) (acc : Array Nat), (l.foldl (fun acc p => acc ++ z.cps ++ p.cps) acc).toList = acc.toList ++ (l.map (·.cps.toList)).flatMap fun q => z.cps.toList ++ q := fun l => by
    induction l with
    | nil => intro acc; simp
    | cons p l ih => intro acc; rw [List.foldl_cons, ih]; simp
  unfold glued
  cases ps with
  | nil => rfl
  | cons p ps =>
    show ((ps.foldl _ p.cps)).toList = _
    rw [key]
    rfl
theorem pieces (z L : List Nat) (c : Nat) : ∀ (cs : List Nat) (o s : Nat), L.drop o = cs → s ≤ o → o ≤ L.length →
    gl z (((s :: (pos1 c cs o).map (· + 1)).zip (pos1 c cs o ++ [L.length])).map fun p => (L.take p.2).drop p.1) = (L.take o).drop s ++ cs.flatMap fun a => if a = c then z else [a]
  | [], o, s, hd, hs, ho => by
    have : L.length ≤ o := by
      have := congrArg List.length hd
      simp at this
      omega
    have e : o = L.length := by omega
    simp [pos1, gl, e]
  | a :: cs, o, s, hd, hs, ho => by
    have ha : L[o]? = some a := by
      have := congrArg (fun l => l[0]?) hd
      simpa using this
    have hd' : L.drop (o + 1) = cs := by
      have := congrArg (fun l => l.drop 1) hd
      simpa [List.drop_drop] using this
    have hlt : o < L.length := (List.getElem?_eq_some_iff.mp ha).1
    have hta : L.take (o + 1) = L.take o ++ [a] := by
      rw [List.take_succ, ha]; rfl
    by_cases hc : a = c
    · have ep : pos1 c (a :: cs) o = o :: pos1 c cs (o + 1) := by simp [pos1, hc]
      rw [ep]
      have ih := pieces z L c cs (o + 1) (o + 1) hd' (Nat.le_refl _) (by omega)
      have e0 : (L.take (o + 1)).drop (o + 1) = [] := by simp
      rw [e0, List.nil_append] at ih
      rw [List.map_cons, List.cons_append, List.zip_cons_cons, List.map_cons]
      have ne : ∀ (q : List (Nat × Nat)), q ≠ [] → ∀ p0 : List Nat, gl z (p0 :: q.map fun p => (L.take p.2).drop p.1) = p0 ++ (z ++ gl z (q.map fun p => (L.take p.2).drop p.1)) := fun q hq p0 => by
        cases q with
        | nil => exact absurd rfl hq
        | cons u v => simp [gl]
      rw [ne _ (by
        intro h
        have := congrArg List.length h
        simp at this), ih]
      simp [hc]
    · have ep : pos1 c (a :: cs) o = pos1 c cs (o + 1) := by simp [pos1, hc]
      rw [ep, pieces z L c cs (o + 1) s hd' (by omega) (by omega), hta]
      have : (L.take o ++ [a]).drop s = (L.take o).drop s ++ [a] := by
        rw [List.drop_append_of_le_length (by simp; omega)]
      rw [this]
      simp [hc]
theorem replace_one (x z : PySem.Str) (c : Nat) : (Txt.replace x (one c) z).cps.toList = x.cps.toList.flatMap fun a => if a = c then z.cps.toList else [a] := by
  unfold Txt.replace
  rw [occ_one]
  have e1 : ((one c).length == 0) = false := rfl
  rw [e1, Bool.false_and, Bool.or_false]
  by_cases he : (pos1 c x.cps.toList 0).isEmpty = true
  · rw [if_pos he]
    have : ∀ (cs : List Nat) (o : Nat), pos1 c cs o = [] → (cs.flatMap fun a => if a = c then z.cps.toList else [a]) = cs := fun cs => by
      induction cs with
      | nil => intro o _; rfl
      | cons a cs ih =>
        intro o h
        by_cases hc : a = c
        · simp [pos1, hc] at h
        · have h2 : pos1 c cs (o + 1) = [] := by simpa [pos1, hc] using h
          rw [List.flatMap_cons, ih _ h2, if_neg hc]
          rfl
    exact (this _ 0 (List.isEmpty_iff.mp he)).symm
  · rw [if_neg he, glued_gl]
    have := pieces z.cps.toList x.cps.toList c x.cps.toList 0 0 rfl (Nat.le_refl _) (Nat.zero_le _)
    simp only [List.take_zero, List.drop_nil, List.nil_append] at this
    rw [← this]
    unfold partsBetween
    congr 1
    rw [List.map_map]
    have el : x.length = x.cps.toList.length := by show x.cps.size = _; simp
    rw [el]
    show List.map _ (List.zip (0 :: (pos1 c x.cps.toList 0).map (· + 1)) _) = _
    refine List.map_congr_left fun p _ => ?_
    show (x.cps.extract p.1 p.2).toList = _
    rw [Array.toList_extract]
    simp [List.extract_eq_drop_take, List.drop_take]
end TI
set_option Elab.async false
set_option linter.all false
set_option maxRecDepth 100000
set_option maxHeartbeats 4000000
/-! texts: cut, digits, numbers -/
namespace TI
open PySem PySem.Spec PyProof.Rows L2 Builtin Builtin.Str PySem.StrLaws PySem.NumText PySem.W.KIN

abbrev Ls (x : PySem.Str) : List Nat := x.cps.toList
theorem Ls_len (x : PySem.Str) : (Ls x).length = x.length := by show x.cps.toList.length = x.cps.size; simp
theorem Str_ext {x y : PySem.Str} (h : Ls x = Ls y) : x = y := by
  cases x; cases y
  congr 1
  exact Array.toList_inj.mp h
theorem Ls_append (x y : PySem.Str) : Ls (x ++ y) = Ls x ++ Ls y := by
  show (x.cps ++ y.cps).toList = _
  simp
theorem cut_nat (x : PySem.Str) (p s : Nat) (hp : p ≤ s) : Ls (cutS x (some (p : Int)) (some (s : Int))) = ((Ls x).drop p).take (s - p) := by
  have hl : x.cps.toList.length = x.length := Ls_len x
  have hl2 : x.cps.size = x.length := rfl
  unfold cutS
  rw [HT.sIx_nat, HT.sIx_nat]
  show ((x.cps.toList.drop _).take _).toArray.toList = _
  rw [List.toList_toArray]
  rcases Nat.lt_or_ge s x.length with h | h
  · rw [Nat.min_eq_left (by omega), Nat.min_eq_left (by omega)]
  · rw [Nat.min_eq_right h]
    rcases Nat.lt_or_ge p x.length with h2 | h2
    · rw [Nat.min_eq_left (by omega)]
      rw [List.take_of_length_le (by simp; omega), List.take_of_length_le (by simp; omega)]
    · rw [Nat.min_eq_right h2]
      have e1 : x.cps.toList.drop x.length = [] := List.drop_of_length_le (by omega)
      have e2 : x.cps.toList.drop p = [] := List.drop_of_length_le (by omega)
      rw [e1, e2]; simp
/-- one sign at a place -/
theorem cut_one {x : PySem.Str} {pre post : List Nat} {a : Nat} (h : Ls x = pre ++ a :: post) : cutS x (some (pre.length : Int)) (some ((pre.length : Int) + 1)) = one a := by
  apply Str_ext
  have := cut_nat x pre.length (pre.length + 1) (by omega)
  rw [show ((pre.length + 1 : Nat) : Int) = (pre.length : Int) + 1 from by omega] at this
  rw [this, h]
  simp [one]
theorem cut_end {x : PySem.Str} {p : Nat} (h : x.length ≤ p) : cutS x (some (p : Int)) (some ((p : Int) + 1)) = ⟨#[]⟩ := by
  apply Str_ext
  have := cut_nat x p (p + 1) (by omega)
  rw [show ((p + 1 : Nat) : Int) = (p : Int) + 1 from by omega] at this
  rw [this, List.drop_of_length_le (by rw [Ls_len]; exact h), List.take_nil]
theorem lstrip_eq (x y : PySem.Str) : Ls (Txt.lstripChars x y) = (Ls x).dropWhile y.cps.contains := by
  have hd : ∀ (l : List Nat) (f : Nat → Bool), l.drop (l.takeWhile f).length = l.dropWhile f := fun l f => by
    induction l with
    | nil => rfl
    | cons a l ih =>
      rw [List.takeWhile_cons, List.dropWhile_cons]
      cases f a <;> simp [ih]
  unfold Txt.lstripChars Txt.stripBy
  have key : Ls (stripped y.cps.contains true false x) = (Ls x).dropWhile y.cps.contains := by
    unfold stripped
    show (x.cps.extract _ _).toList = _
    rw [Array.toList_extract]
    show (x.cps.toList.extract (x.cps.toList.takeWhile y.cps.contains).length x.length) = _
    rw [List.extract_eq_drop_take, hd]
    refine List.take_of_length_le ?_
    have h1 := congrArg List.length (hd x.cps.toList y.cps.contains)
    rw [List.length_drop] at h1
    have h2 := Ls_len x
    show _ ≤ x.length - _
    have h3 : x.cps.toList.length = x.length := h2
    omega
  by_cases hs : stripSame y.cps.contains true false x = true
  · rw [if_pos hs]
    unfold stripSame at hs
    rw [Bool.and_eq_true] at hs
    have h0 : (x.cps.toList.takeWhile y.cps.contains).length = 0 := by simpa [stripLo] using hs.1
    have := hd x.cps.toList y.cps.contains
    rw [h0] at this
    exact this
  · rw [if_neg hs]; exact key
/-! ### numbers -/
theorem toDigits_head : ∀ (m : Nat), 0 < m → ∀ c l, (Nat.toDigits 10 m).map Char.toNat = c :: l → c ≠ 48 := by
  intro m
  induction m using Nat.strongRecOn with
  | _ m ih =>
    intro hm c l h
    by_cases h10 : m < 10
    · rw [Nat.toDigits_of_lt_base h10] at h
      have hc : (Nat.digitChar m).toNat = c := by simpa using congrArg (fun l => l.headD 0) h
      have hdig : ∀ d : Nat, d < 10 → 0 < d → (Nat.digitChar d).toNat ≠ 48 := by decide
      rw [← hc]; exact hdig m h10 hm
    · have t : Nat.toDigits 10 (m / 10) ++ Nat.toDigits 10 (m % 10) = Nat.toDigits 10 (10 * (m / 10) + m % 10) := Nat.toDigits_append_toDigits (by decide) (by omega) (Nat.mod_lt m (by decide))
      rw [Nat.div_add_mod] at t
      rw [← t, List.map_append] at h
      cases hq : (Nat.toDigits 10 (m / 10)).map Char.toNat with
      | nil =>
        have := List.map_eq_nil_iff.mp hq
        have h2 := Nat.length_toDigits_pos (b := 10) (n := m / 10)
        rw [this] at h2
        simp at h2
      | cons c' l' =>
        rw [hq] at h
        have hc : c' = c := by simpa using congrArg (fun l => l.headD 0) h
        rw [← hc]
        exact ih (m / 10) (by omega) (by omega) c' l' hq
theorem toDigits_len (k : Nat) : ∀ (m : Nat), m < 10 ^ (k + 1) → (Nat.toDigits 10 m).length ≤ k + 1 := by
  induction k with
  | zero => intro m h; rw [Nat.toDigits_of_lt_base (by simpa using h)]; simp
  | succ k ih =>
    intro m h
    by_cases h10 : m < 10
    · rw [Nat.toDigits_of_lt_base h10]; simp
    · have t : Nat.toDigits 10 (m / 10) ++ Nat.toDigits 10 (m % 10) = Nat.toDigits 10 (10 * (m / 10) + m % 10) := Nat.toDigits_append_toDigits (by decide) (by omega) (Nat.mod_lt m (by decide))
      rw [Nat.div_add_mod] at t
      rw [← t, List.length_append, Nat.toDigits_of_lt_base (Nat.mod_lt m (by decide))]
      have := ih (m / 10) (by rw [Nat.div_lt_iff_lt_mul (by decide)]; rw [Nat.pow_succ] at h; exact h)
      simp
      omega
def ndg (m : Nat) : List Nat := (Nat.toDigits 10 m).map Char.toNat
theorem ndg_all (m : Nat) : AllDigits (ndg m) := by
  intro c hc
  obtain ⟨ch, hch, e⟩ := List.mem_map.mp hc
  have r := digit_range (Nat.isDigit_of_mem_toDigits (by decide) (by decide) hch)
  rw [← e]
  exact r
theorem ndg_ne (m : Nat) : ndg m ≠ [] := by
  intro e
  have h2 := Nat.length_toDigits_pos (b := 10) (n := m)
  rw [List.map_eq_nil_iff.mp e] at h2
  simp at h2
theorem int_nat (m : Nat) : Ls (PySem.Str.ofString (toString ((m : Nat) : Int))) = ndg m := signs_num m
theorem int_negs (m : Nat) : Ls (PySem.Str.ofString (toString (-((m + 1 : Nat) : Int)))) = 45 :: ndg (m + 1) := by
  show (PySem.Str.ofString _).cps.toList = _
  rw [signs_ofString]
  have e : toString (-((m + 1 : Nat) : Int)) = "-" ++ toString (m + 1) := rfl
  rw [e, String.toList_append]
  show 45 :: ((toString (m + 1)).toList.map Char.toNat) = _
  show 45 :: ((Nat.repr (m + 1)).toList.map Char.toNat) = _
  rw [Nat.toList_repr]
  rfl
end TI
set_option Elab.async false
set_option linter.all false
set_option maxRecDepth 100000
set_option maxHeartbeats 4000000
/-! the defs of the text, as the evaluator runs them -/
namespace K29
open PySem PySem.Spec PyProof.Rows L2 TI
def topS (i : Nat) : Stmt := PySem.Challenge.pw_surewater_k29_plain_wrong_texts.main.body.getD i (.Pass ⟨0, 0, 0, 0⟩)
def df_read_plain : Df := ⟨["text", "value", "place"], 1, defScope (topS 10), defBody (topS 10)⟩
def df_value : Df := ⟨["text", "place", "depth", "sign"], 3, defScope (topS 11), defBody (topS 11)⟩
def df_members : Df := ⟨["text", "place", "depth", "members", "member", "sign"], 3, defScope (topS 12), defBody (topS 12)⟩
def df_integer : Df := ⟨["text", "place", "negative", "start", "tail", "digits", "number"], 2, defScope (topS 13), defBody (topS 13)⟩
def df_unquoted : Df := ⟨["text", "place", "stretches", "stop", "sign", "escape"], 2, defScope (topS 14), defBody (topS 14)⟩
def df_first_of : Df := ⟨["text", "place", "stop", "sign", "found"], 2, defScope (topS 15), defBody (topS 15)⟩
def df_law_cell : Df := ⟨["script", "k"], 2, defScope (topS 17), defBody (topS 17)⟩
def df_law_digits : Df := ⟨["script", "first", "last", "digits", "k", "cell", "turn", "seed"], 3, defScope (topS 18), defBody (topS 18)⟩
def df_law_draw : Df := ⟨["box", "many", "at"], 2, defScope (topS 19), defBody (topS 19)⟩
def df_law_same : Df := ⟨["actual", "due", "k"], 2, defScope (topS 20), defBody (topS 20)⟩
def df_law_plain : Df := ⟨["value", "one"], 1, defScope (topS 21), defBody (topS 21)⟩
def df_law_text_at : Df := ⟨["text", "at", "found", "turn", "sign"], 2, defScope (topS 22), defBody (topS 22)⟩
def df_law_digits_at : Df := ⟨["text", "at", "start", "end", "turn"], 2, defScope (topS 23), defBody (topS 23)⟩
def df_law_value_at : Df := ⟨["text", "at", "deep", "sign", "found", "turn", "value", "end"], 3, defScope (topS 24), defBody (topS 24)⟩
def df_law_read : Df := ⟨["text", "value", "end"], 1, defScope (topS 25), defBody (topS 25)⟩
def df_law_told : Df := ⟨["text", "e"], 1, defScope (topS 26), defBody (topS 26)⟩
def df_law_value : Df := ⟨["box", "deep", "kind", "k"], 2, defScope (topS 27), defBody (topS 27)⟩
def df_law : Df := ⟨["script", "box", "turn", "text", "at", "sign", "changed", "great", "due"], 1, defScope (topS 28), defBody (topS 28)⟩
def defs : List (Str × Df) := [("read_plain", df_read_plain), ("_value", df_value), ("_members", df_members), ("_integer", df_integer), ("_unquoted", df_unquoted), ("_first_of", df_first_of), ("_law_cell", df_law_cell), ("_law_digits", df_law_digits), ("_law_draw", df_law_draw), ("_law_same", df_law_same), ("_law_plain", df_law_plain), ("_law_text_at", df_law_text_at), ("_law_digits_at", df_law_digits_at), ("_law_value_at", df_law_value_at), ("_law_read", df_law_read), ("_law_value", df_law_value), ("law", df_law)]
def bis : List Str := ["bool", "int", "isinstance", "len", "ord", "range", "str", "tuple"]
def kd_WORDS : List (Str × D) := [("T", .bl true), ("F", .bl false), ("N", .non)]
def kd_ESCAPES : List (Str × D) := [("\"", .str "\""), ("\\", .str "\\"), ("n", .str "\n")]
def cons : List (Str × Glo) := [("DIGITS", .con (.str "0123456789")), ("MOST_DIGITS", .con (.int 2000)), ("DEEPEST", .con (.int 40)), ("WORDS", .kd kd_WORDS), ("ESCAPES", .kd kd_ESCAPES), ("BadPlain", .cls ["place"])]
def TT (g : List D → Res) : Tab := ⟨defs, [("_law_told", 1, g)], cons, bis, 16777216⟩
def getS (o : Option D) (k : D → Res) : Res := getK [o] 0 k
theorem getS_some (d : D) (k : D → Res) : getS (some d) k = k d := rfl
def asIK (d : D) (k : Int → Res) : Res := match d with
  | .int i => k i
  | _ => .stuck
def asLK (d : D) (k : List D → Res) : Res := match d with
  | .lst l => k l
  | _ => .stuck
def unpK (n : Nat) (d : D) (k : List D → Res) : Res := match d with
  | .tup l => ckK (decide (l.length = n)) (k l)
  | .lst l => ckK (decide (l.length = n)) (pusK l (k l))
  | _ => .stuck
def retK (d : D) (a b : Res) : Res := match d.pu with
  | true => a
  | false => b
def seqV (b : Bool) (d : D) (k : List D → Res) : Res := match d with
  | .tup l => k l
  | .rol l => k l
  | .lst l => ckK (!b) (pusK l (k l))
  | _ => .stuck
def onRet (r : Res) (k : D → TI.Env → Res) (x : Str → List (Str × D) → Res) : Res := match r with
  | .ret d fin => k d fin
  | .exc c fs => x c fs
  | .stuck => .stuck
def exX (c : Str) (fs : List (Str × D)) : Res := .exc c fs
def xst (c : Str) (fs : List (Str × D)) : Res := .stuck
abbrev cl (g : List D → Res) (wf n : Nat) (f : Str) (ds : List D) : Res := (TT g).call wf 60 n f ds
def cdd (g : List D → Res) (wf n : Nat) (d : Df) : Cd := cdOf (TT g).glo ((TT g).call wf 60 n) (TT g).lim wf d
def at1 (l : List Stmt) (i : Nat) : Stmt := l.getD i (.Pass ⟨0, 0, 0, 0⟩)
def ifT : Stmt → List Stmt
  | .If _ a _ _ => a
  | _ => []
def ifF : Stmt → List Stmt
  | .If _ _ b _ => b
  | _ => []
def forB : Stmt → List Stmt
  | .For _ _ b _ _ => b
  | _ => []
def whB : Stmt → List Stmt
  | .While _ b _ _ => b
  | _ => []
def noE : Expr := .Constant .none 0 ⟨0, 0, 0, 0⟩
/-- a statement that runs on its own -/
def st1 (g : List D → Res) (wf n : Nat) (d : Df) (k : Nat) (st : Stmt) (ρ : TI.Env) (E : Nx) : Res := stepS1 (ev k) (cdd g wf n d) d.sc st ρ E
def stL (g : List D → Res) (wf n : Nat) (d : Df) (k : Nat) (l : List Stmt) (ρ : TI.Env) (E : Nx) : Res := (ev k).S (cdd g wf n d) d.sc l ρ E
def fst (g : List D → Res) (wf n : Nat) (d : Df) (k : Nat) (st : Stmt) : D → TI.Env → Nx → Res := match st with
  | .For tg _ body _ _ => fun x ρ2 E2 => (ev k).G (cdd g wf n d) d.sc tg x ρ2 fun ρ3 => (ev k).S (cdd g wf n d) d.sc body ρ3 E2
  | _ => fun _ _ _ => .stuck
def whC (g : List D → Res) (wf n : Nat) (d : Df) (k : Nat) (st : Stmt) : Nat → TI.Env → Nx → Res := match st with
  | .While c body _ _ => whileC (fun ρ1 q => (ev k).T (cdd g wf n d) d.sc c ρ1 q) (fun ρ1 E2 => (ev k).S (cdd g wf n d) d.sc body ρ1 E2)
  | _ => fun _ _ _ => .stuck
def lcs (g : List D → Res) (wf n : Nat) (d : Df) (k : Nat) (e : Expr) : D → TI.Env → (Option D → TI.Env → Res) → Res := match lcOf e with
  | some (elt, tg, _, ifs, scope) => lcStep (ev k) (cdd g wf n d) d.sc elt tg ifs scope
  | none => fun _ _ _ => .stuck
mutual
/-- the comprehensions that stand in an expression, from the left -/
def lcsE : Expr → List Expr
  | .ListComp elt [⟨tg, it, ifs, a⟩] sc p => .ListComp elt [⟨tg, it, ifs, a⟩] sc p :: (lcsE it ++ lcsE elt)
  | .Call f as _ _ => lcsE f ++ lcsEs as
  | .Attribute o _ _ => lcsE o
  | .BinOp a _ b _ => lcsE a ++ lcsE b
  | .Tuple es _ _ => lcsEs es
  | .List es _ => lcsEs es
  | .Compare a _ bs _ => lcsE a ++ lcsEs bs
  | .BoolOp _ es _ => lcsEs es
  | .UnaryOp _ a _ => lcsE a
  | .IfExp t a b _ => lcsE t ++ lcsE a ++ lcsE b
  | .Subscript b i _ => lcsE b ++ lcsE i
  | _ => []
def lcsEs : List Expr → List Expr
  | [] => []
  | e :: es => lcsE e ++ lcsEs es
end
def lcsS : Stmt → List Expr
  | .Return (some e) _ => lcsE e
  | .Assign _ e _ => lcsE e
  | .Expr e _ => lcsE e
  | .If c _ _ _ => lcsE c
  | .For _ it _ _ _ => lcsE it
  | .AugAssign _ _ e _ => lcsE e
  | _ => []
def lcAt (i : Nat) (st : Stmt) : Expr := (lcsS st).getD i noE
theorem stL_cons (g : List D → Res) (wf n : Nat) (d : Df) (k : Nat) (st : Stmt) (r : List Stmt) (ρ : TI.Env) (E : Nx) : stL g wf n d (k + 1) (st :: r) ρ E = st1 g wf n d k st ρ { E with nx := fun ρ1 => stL g wf n d k r ρ1 E } := rfl
theorem stL_nil (g : List D → Res) (wf n : Nat) (d : Df) (k : Nat) (ρ : TI.Env) (E : Nx) : stL g wf n d (k + 1) [] ρ E = E.nx ρ := rfl
theorem cl_run (g : List D → Res) (wf n : Nat) (f : Str) (d : Df) (ds : List D) (h : (TT g).fns.lookup f = some d) : cl g wf (n + 1) f ds = stL g wf n d 60 d.body (env0 d ds) (nx0 d.np) := by
  show (match (TT g).fns.lookup f with | some d => runD (TT g).glo ((TT g).call wf 60 n) (TT g).lim wf 60 d ds | none => _) = _
  rw [h]; rfl
theorem onRet_ret (d : D) (fin : TI.Env) (k : D → TI.Env → Res) (x : Str → List (Str × D) → Res) : onRet (.ret d fin) k x = k d fin := rfl
theorem onRet_exc (c : Str) (fs : List (Str × D)) (k : D → TI.Env → Res) (x : Str → List (Str × D) → Res) : onRet (.exc c fs) k x = x c fs := rfl
end K29
set_option Elab.async false
set_option linter.all false
set_option maxRecDepth 100000
set_option maxHeartbeats 4000000
/-! the defs of the text, as the evaluator runs them -/
namespace K29
open PySem PySem.Spec PyProof.Rows L2 TI
/-! BODY -/
/-! ### read_plain -/
def b_read_plain : List Stmt := df_read_plain.body
theorem b_read_plain_eq : b_read_plain = [at1 b_read_plain 0, at1 b_read_plain 1, at1 b_read_plain 2] := by kernel_rfl
theorem b_read_plain_0 (g : List D → Res) (wf n : Nat) (o0 o1 o2 : Option D) (E : Nx) : st1 g wf n df_read_plain 59 (at1 b_read_plain 0) [o0, o1, o2] E =
  getS o0 fun d9 => getS o0 fun d1 => onRet (cl g wf n "_value" [d1, (.int 0), (.int 0)]) (fun r2 f3 => unpK 2 r2 fun l4 => consK l4 fun d5 l6 => consK l6 fun d7 l8 => nilK l8 (E.nx [unlend d1 f3[0]?, some d5, some d7])) exX := by kernel_rfl
theorem b_read_plain_1 (g : List D → Res) (wf n : Nat) (o0 o1 o2 : Option D) (E : Nx) : st1 g wf n df_read_plain 58 (at1 b_read_plain 1) [o0, o1, o2] E =
  getS o2 fun d1 => puK d1 (getS o0 fun d5 => getS o0 fun d2 => dLen d2 fun z3 => dEq d1 z3 fun c4 => (match (!c4) with | true => stL g wf n df_read_plain 58 (ifT (at1 b_read_plain 1)) [o0, o1, o2] E | false => stL g wf n df_read_plain 58 (ifF (at1 b_read_plain 1)) [o0, o1, o2] E)) := by kernel_rfl
def b_read_plain_1t : List Stmt := ifT (at1 b_read_plain 1)
theorem b_read_plain_1t_eq : b_read_plain_1t = [at1 b_read_plain_1t 0] := by kernel_rfl
theorem b_read_plain_1t_0 (g : List D → Res) (wf n : Nat) (o0 o1 o2 : Option D) (E : Nx) : st1 g wf n df_read_plain 57 (at1 b_read_plain_1t 0) [o0, o1, o2] E =
  getS o2 fun d2 => getS o2 fun d1 => puK d1 (pusK [d1] (.exc "BadPlain" [("place", d1)])) := by kernel_rfl
theorem b_read_plain_2 (g : List D → Res) (wf n : Nat) (o0 o1 o2 : Option D) (E : Nx) : st1 g wf n df_read_plain 57 (at1 b_read_plain 2) [o0, o1, o2] E =
  getS o1 fun d1 => retK d1 (E.rt d1 [o0, o1, o2]) (ckK (decide (1 ≤ 1)) (E.rt d1 [o0, none, o2])) := by kernel_rfl
/-! ### _value -/
def b_value : List Stmt := df_value.body
theorem b_value_eq : b_value = [at1 b_value 0, at1 b_value 1, at1 b_value 2, at1 b_value 3, at1 b_value 4] := by kernel_rfl
theorem b_value_0 (g : List D → Res) (wf n : Nat) (o0 o1 o2 o3 : Option D) (E : Nx) : st1 g wf n df_value 59 (at1 b_value 0) [o0, o1, o2, o3] E =
  getS o0 fun d1 => puK d1 (getS o1 fun d2 => asIK d2 fun i3 => getS o1 fun d4 => dAdd d4 (.int 1) fun z5 => asIK z5 fun i6 => dSl d1 (some i3) (some i6) fun z7 => E.nx [o0, o1, o2, some z7]) := by kernel_rfl
theorem b_value_1 (g : List D → Res) (wf n : Nat) (o0 o1 o2 o3 : Option D) (E : Nx) : st1 g wf n df_value 58 (at1 b_value 1) [o0, o1, o2, o3] E =
  getS o3 fun d1 => oK (asS [d1]) fun s2 => (match (kdGet kd_WORDS s2).isSome with | true => stL g wf n df_value 58 (ifT (at1 b_value 1)) [o0, o1, o2, o3] E | false => stL g wf n df_value 58 (ifF (at1 b_value 1)) [o0, o1, o2, o3] E) := by kernel_rfl
def b_value_1t : List Stmt := ifT (at1 b_value 1)
theorem b_value_1t_eq : b_value_1t = [at1 b_value_1t 0] := by kernel_rfl
theorem b_value_1t_0 (g : List D → Res) (wf n : Nat) (o0 o1 o2 o3 : Option D) (E : Nx) : st1 g wf n df_value 57 (at1 b_value_1t 0) [o0, o1, o2, o3] E =
  getS o3 fun d1 => oK (asS [d1]) fun s2 => oK (kdGet kd_WORDS s2) fun d3 => puK d3 (getS o1 fun d4 => dAdd d4 (.int 1) fun z5 => pusK [d3, z5] (E.rt (.tup [d3, z5]) [o0, o1, o2, o3])) := by kernel_rfl
theorem b_value_2 (g : List D → Res) (wf n : Nat) (o0 o1 o2 o3 : Option D) (E : Nx) : st1 g wf n df_value 57 (at1 b_value 2) [o0, o1, o2, o3] E =
  getS o3 fun d1 => dEq d1 (.str "\"") fun c2 => (match c2 with | true => stL g wf n df_value 57 (ifT (at1 b_value 2)) [o0, o1, o2, o3] E | false => stL g wf n df_value 57 (ifF (at1 b_value 2)) [o0, o1, o2, o3] E) := by kernel_rfl
def b_value_2t : List Stmt := ifT (at1 b_value 2)
theorem b_value_2t_eq : b_value_2t = [at1 b_value_2t 0] := by kernel_rfl
theorem b_value_2t_0 (g : List D → Res) (wf n : Nat) (o0 o1 o2 o3 : Option D) (E : Nx) : st1 g wf n df_value 56 (at1 b_value_2t 0) [o0, o1, o2, o3] E =
  getS o0 fun d6 => getS o1 fun d1 => dAdd d1 (.int 1) fun z2 => getS o0 fun d3 => onRet (cl g wf n "_unquoted" [d3, z2]) (fun r4 f5 => E.rt r4 [unlend d3 f5[0]?, o1, o2, o3]) exX := by kernel_rfl
theorem b_value_3 (g : List D → Res) (wf n : Nat) (o0 o1 o2 o3 : Option D) (E : Nx) : st1 g wf n df_value 56 (at1 b_value 3) [o0, o1, o2, o3] E =
  getS o3 fun d1 => dEq d1 (.str "(") fun c2 => (match c2 with | true => getS o2 fun d3 => dLt d3 (.int 40) fun c4 => (match c4 with | true => stL g wf n df_value 56 (ifT (at1 b_value 3)) [o0, o1, o2, o3] E | false => stL g wf n df_value 56 (ifF (at1 b_value 3)) [o0, o1, o2, o3] E) | false => (match false with | true => stL g wf n df_value 56 (ifT (at1 b_value 3)) [o0, o1, o2, o3] E | false => stL g wf n df_value 56 (ifF (at1 b_value 3)) [o0, o1, o2, o3] E)) := by kernel_rfl
def b_value_3t : List Stmt := ifT (at1 b_value 3)
theorem b_value_3t_eq : b_value_3t = [at1 b_value_3t 0] := by kernel_rfl
theorem b_value_3t_0 (g : List D → Res) (wf n : Nat) (o0 o1 o2 o3 : Option D) (E : Nx) : st1 g wf n df_value 55 (at1 b_value_3t 0) [o0, o1, o2, o3] E =
  getS o0 fun d8 => getS o1 fun d1 => dAdd d1 (.int 1) fun z2 => getS o2 fun d3 => dAdd d3 (.int 1) fun z4 => getS o0 fun d5 => onRet (cl g wf n "_members" [d5, z2, z4]) (fun r6 f7 => E.rt r6 [unlend d5 f7[0]?, o1, o2, o3]) exX := by kernel_rfl
theorem b_value_4 (g : List D → Res) (wf n : Nat) (o0 o1 o2 o3 : Option D) (E : Nx) : st1 g wf n df_value 55 (at1 b_value 4) [o0, o1, o2, o3] E =
  getS o0 fun d6 => getS o1 fun d5 => getS o0 fun d1 => getS o1 fun d2 => onRet (cl g wf n "_integer" [d1, d2]) (fun r3 f4 => E.rt r3 [unlend d1 f4[0]?, unlend d2 f4[1]?, o2, o3]) exX := by kernel_rfl
/-! ### _members -/
def b_members : List Stmt := df_members.body
theorem b_members_eq : b_members = [at1 b_members 0, at1 b_members 1, at1 b_members 2] := by kernel_rfl
theorem b_members_0 (g : List D → Res) (wf n : Nat) (o0 o1 o2 o3 o4 o5 : Option D) (E : Nx) : st1 g wf n df_members 59 (at1 b_members 0) [o0, o1, o2, o3, o4, o5] E =
  getS o0 fun d1 => puK d1 (getS o1 fun d2 => asIK d2 fun i3 => getS o1 fun d4 => dAdd d4 (.int 1) fun z5 => asIK z5 fun i6 => dSl d1 (some i3) (some i6) fun z7 => dEq z7 (.str ")") fun c8 => (match c8 with | true => stL g wf n df_members 59 (ifT (at1 b_members 0)) [o0, o1, o2, o3, o4, o5] E | false => stL g wf n df_members 59 (ifF (at1 b_members 0)) [o0, o1, o2, o3, o4, o5] E)) := by kernel_rfl
def b_members_0t : List Stmt := ifT (at1 b_members 0)
theorem b_members_0t_eq : b_members_0t = [at1 b_members_0t 0] := by kernel_rfl
theorem b_members_0t_0 (g : List D → Res) (wf n : Nat) (o0 o1 o2 o3 o4 o5 : Option D) (E : Nx) : st1 g wf n df_members 58 (at1 b_members_0t 0) [o0, o1, o2, o3, o4, o5] E =
  getS o1 fun d1 => dAdd d1 (.int 1) fun z2 => pusK [(.tup []), z2] (E.rt (.tup [(.tup []), z2]) [o0, o1, o2, o3, o4, o5]) := by kernel_rfl
theorem b_members_1 (g : List D → Res) (wf n : Nat) (o0 o1 o2 o3 o4 o5 : Option D) (E : Nx) : st1 g wf n df_members 58 (at1 b_members 1) [o0, o1, o2, o3, o4, o5] E =
  E.nx [o0, o1, o2, some (.lst []), o4, o5] := by kernel_rfl
theorem b_members_2 (g : List D → Res) (wf n : Nat) (o0 o1 o2 o3 o4 o5 : Option D) (E : Nx) : st1 g wf n df_members 57 (at1 b_members 2) [o0, o1, o2, o3, o4, o5] E =
  whC g wf n df_members 57 (at1 b_members 2) wf [o0, o1, o2, o3, o4, o5] E := by kernel_rfl
theorem b_members_2w (g : List D → Res) (wf n w : Nat) (o0 o1 o2 o3 o4 o5 : Option D) (E : Nx) : whC g wf n df_members 57 (at1 b_members 2) (w + 1) [o0, o1, o2, o3, o4, o5] E =
  dTru (.bl true) fun c1 => (match c1 with | true => stL g wf n df_members 57 (whB (at1 b_members 2)) [o0, o1, o2, o3, o4, o5] { nx := fun ρ2 => whC g wf n df_members 57 (at1 b_members 2) w ρ2 E, bk := E.nx, ct := fun ρ2 => whC g wf n df_members 57 (at1 b_members 2) w ρ2 E, rt := E.rt } | false => E.nx [o0, o1, o2, o3, o4, o5]) := by kernel_rfl
def b_members_2b : List Stmt := whB (at1 b_members 2)
theorem b_members_2b_eq : b_members_2b = [at1 b_members_2b 0, at1 b_members_2b 1, at1 b_members_2b 2, at1 b_members_2b 3, at1 b_members_2b 4, at1 b_members_2b 5] := by kernel_rfl
theorem b_members_2b_0 (g : List D → Res) (wf n : Nat) (o0 o1 o2 o3 o4 o5 : Option D) (E : Nx) : st1 g wf n df_members 56 (at1 b_members_2b 0) [o0, o1, o2, o3, o4, o5] E =
  getS o0 fun d14 => getS o1 fun d13 => getS o2 fun d12 => getS o0 fun d1 => getS o1 fun d2 => getS o2 fun d3 => onRet (cl g wf n "_value" [d1, d2, d3]) (fun r4 f5 => unpK 2 r4 fun l6 => consK l6 fun d7 l8 => consK l8 fun d9 l10 => puK d9 (getS (unlend d2 f5[1]?) fun d11 => puK d11 (nilK l10 (E.nx [unlend d1 f5[0]?, some d9, unlend d3 f5[2]?, o3, some d7, o5])))) exX := by kernel_rfl
theorem b_members_2b_1 (g : List D → Res) (wf n : Nat) (o0 o1 o2 o3 o4 o5 : Option D) (E : Nx) : st1 g wf n df_members 55 (at1 b_members_2b 1) [o0, o1, o2, o3, o4, o5] E =
  getS o3 fun d1 => asLK d1 fun _ => getS o4 fun d5 => getS o4 fun d2 => puK d2 (getS o3 fun d3 => asLK d3 fun l4 => ckK (decide (l4.length < szLine)) (E.nx [o0, o1, o2, some (.lst (l4 ++ [d2])), o4, o5])) := by kernel_rfl
theorem b_members_2b_2 (g : List D → Res) (wf n : Nat) (o0 o1 o2 o3 o4 o5 : Option D) (E : Nx) : st1 g wf n df_members 54 (at1 b_members_2b 2) [o0, o1, o2, o3, o4, o5] E =
  getS o0 fun d1 => puK d1 (getS o1 fun d2 => asIK d2 fun i3 => getS o1 fun d4 => dAdd d4 (.int 1) fun z5 => asIK z5 fun i6 => dSl d1 (some i3) (some i6) fun z7 => E.nx [o0, o1, o2, o3, o4, some z7]) := by kernel_rfl
theorem b_members_2b_3 (g : List D → Res) (wf n : Nat) (o0 o1 o2 o3 o4 o5 : Option D) (E : Nx) : st1 g wf n df_members 53 (at1 b_members_2b 3) [o0, o1, o2, o3, o4, o5] E =
  getS o5 fun d1 => dEq d1 (.str ")") fun c2 => (match c2 with | true => stL g wf n df_members 53 (ifT (at1 b_members_2b 3)) [o0, o1, o2, o3, o4, o5] E | false => stL g wf n df_members 53 (ifF (at1 b_members_2b 3)) [o0, o1, o2, o3, o4, o5] E) := by kernel_rfl
def b_members_2b_3t : List Stmt := ifT (at1 b_members_2b 3)
theorem b_members_2b_3t_eq : b_members_2b_3t = [at1 b_members_2b_3t 0] := by kernel_rfl
theorem b_members_2b_3t_0 (g : List D → Res) (wf n : Nat) (o0 o1 o2 o3 o4 o5 : Option D) (E : Nx) : st1 g wf n df_members 52 (at1 b_members_2b_3t 0) [o0, o1, o2, o3, o4, o5] E =
  getS o3 fun d5 => getS o3 fun d1 => dTup d1 fun z2 => getS o1 fun d3 => dAdd d3 (.int 1) fun z4 => pusK [z2, z4] (E.rt (.tup [z2, z4]) [o0, o1, o2, o3, o4, o5]) := by kernel_rfl
theorem b_members_2b_4 (g : List D → Res) (wf n : Nat) (o0 o1 o2 o3 o4 o5 : Option D) (E : Nx) : st1 g wf n df_members 52 (at1 b_members_2b 4) [o0, o1, o2, o3, o4, o5] E =
  getS o5 fun d1 => dEq d1 (.str " ") fun c2 => (match (!c2) with | true => stL g wf n df_members 52 (ifT (at1 b_members_2b 4)) [o0, o1, o2, o3, o4, o5] E | false => stL g wf n df_members 52 (ifF (at1 b_members_2b 4)) [o0, o1, o2, o3, o4, o5] E) := by kernel_rfl
def b_members_2b_4t : List Stmt := ifT (at1 b_members_2b 4)
theorem b_members_2b_4t_eq : b_members_2b_4t = [at1 b_members_2b_4t 0] := by kernel_rfl
theorem b_members_2b_4t_0 (g : List D → Res) (wf n : Nat) (o0 o1 o2 o3 o4 o5 : Option D) (E : Nx) : st1 g wf n df_members 51 (at1 b_members_2b_4t 0) [o0, o1, o2, o3, o4, o5] E =
  getS o1 fun d2 => getS o1 fun d1 => puK d1 (pusK [d1] (.exc "BadPlain" [("place", d1)])) := by kernel_rfl
theorem b_members_2b_5 (g : List D → Res) (wf n : Nat) (o0 o1 o2 o3 o4 o5 : Option D) (E : Nx) : st1 g wf n df_members 51 (at1 b_members_2b 5) [o0, o1, o2, o3, o4, o5] E =
  getS o1 fun d1 => puK d1 (augD .Add d1 (.int 1) fun z2 => puK z2 (getS o1 fun d3 => puK d3 (E.nx [o0, some z2, o2, o3, o4, o5]))) := by kernel_rfl
/-! ### _integer -/
def b_integer : List Stmt := df_integer.body
theorem b_integer_eq : b_integer = [at1 b_integer 0, at1 b_integer 1, at1 b_integer 2, at1 b_integer 3, at1 b_integer 4, at1 b_integer 5, at1 b_integer 6, at1 b_integer 7, at1 b_integer 8] := by kernel_rfl
theorem b_integer_0 (g : List D → Res) (wf n : Nat) (o0 o1 o2 o3 o4 o5 o6 : Option D) (E : Nx) : st1 g wf n df_integer 59 (at1 b_integer 0) [o0, o1, o2, o3, o4, o5, o6] E =
  getS o0 fun d1 => puK d1 (getS o1 fun d2 => asIK d2 fun i3 => getS o1 fun d4 => dAdd d4 (.int 1) fun z5 => asIK z5 fun i6 => dSl d1 (some i3) (some i6) fun z7 => dEq z7 (.str "-") fun c8 => E.nx [o0, o1, some (.bl c8), o3, o4, o5, o6]) := by kernel_rfl
theorem b_integer_1 (g : List D → Res) (wf n : Nat) (o0 o1 o2 o3 o4 o5 o6 : Option D) (E : Nx) : st1 g wf n df_integer 58 (at1 b_integer 1) [o0, o1, o2, o3, o4, o5, o6] E =
  getS o2 fun d1 => dTru d1 fun c2 => (match c2 with | true => getS o1 fun d3 => dAdd d3 (.int 1) fun z4 => puK z4 (E.nx [o0, o1, o2, some z4, o4, o5, o6]) | false => getS o1 fun d5 => puK d5 (E.nx [o0, o1, o2, some d5, o4, o5, o6])) := by kernel_rfl
theorem b_integer_2 (g : List D → Res) (wf n : Nat) (o0 o1 o2 o3 o4 o5 o6 : Option D) (E : Nx) : st1 g wf n df_integer 57 (at1 b_integer 2) [o0, o1, o2, o3, o4, o5, o6] E =
  getS o0 fun d1 => puK d1 (getS o3 fun d2 => asIK d2 fun i3 => getS o3 fun d4 => dAdd d4 (.int 2000) fun z5 => dAdd z5 (.int 1) fun z6 => asIK z6 fun i7 => dSl d1 (some i3) (some i7) fun z8 => E.nx [o0, o1, o2, o3, some z8, o5, o6]) := by kernel_rfl
theorem b_integer_3 (g : List D → Res) (wf n : Nat) (o0 o1 o2 o3 o4 o5 o6 : Option D) (E : Nx) : st1 g wf n df_integer 56 (at1 b_integer 3) [o0, o1, o2, o3, o4, o5, o6] E =
  getS o4 fun d1 => puK d1 (getS o4 fun d12 => getS o4 fun d2 => dLen d2 fun z3 => getS o4 fun d4 => oK (asS [d4]) fun s5 => oK (asS [(.str "0123456789")]) fun t7 => ckK (decide (s5.length ≤ szLine)) (dLen (.str (Txt.lstripChars s5 t7)) fun z8 => dSub z3 z8 fun z9 => asIK z9 fun i10 => dSl d1 none (some i10) fun z11 => E.nx [o0, o1, o2, o3, o4, some z11, o6])) := by kernel_rfl
theorem b_integer_4 (g : List D → Res) (wf n : Nat) (o0 o1 o2 o3 o4 o5 o6 : Option D) (E : Nx) : st1 g wf n df_integer 55 (at1 b_integer 4) [o0, o1, o2, o3, o4, o5, o6] E =
  getS o5 fun d1 => dEq d1 (.str "") fun c2 => (match c2 with | true => (match true with | true => stL g wf n df_integer 55 (ifT (at1 b_integer 4)) [o0, o1, o2, o3, o4, o5, o6] E | false => stL g wf n df_integer 55 (ifF (at1 b_integer 4)) [o0, o1, o2, o3, o4, o5, o6] E) | false => getS o2 fun d3 => dTru d3 fun c4 => (match c4 with | true => getS o5 fun d5 => getS o5 fun d6 => dIx d6 (.int 0) fun z7 => dEq z7 (.str "0") fun c8 => (match c8 with | true => stL g wf n df_integer 55 (ifT (at1 b_integer 4)) [o0, o1, o2, o3, o4, o5, o6] E | false => stL g wf n df_integer 55 (ifF (at1 b_integer 4)) [o0, o1, o2, o3, o4, o5, o6] E) | false => (match false with | true => stL g wf n df_integer 55 (ifT (at1 b_integer 4)) [o0, o1, o2, o3, o4, o5, o6] E | false => stL g wf n df_integer 55 (ifF (at1 b_integer 4)) [o0, o1, o2, o3, o4, o5, o6] E))) := by kernel_rfl
def b_integer_4t : List Stmt := ifT (at1 b_integer 4)
theorem b_integer_4t_eq : b_integer_4t = [at1 b_integer_4t 0] := by kernel_rfl
theorem b_integer_4t_0 (g : List D → Res) (wf n : Nat) (o0 o1 o2 o3 o4 o5 o6 : Option D) (E : Nx) : st1 g wf n df_integer 54 (at1 b_integer_4t 0) [o0, o1, o2, o3, o4, o5, o6] E =
  getS o3 fun d2 => getS o3 fun d1 => puK d1 (pusK [d1] (.exc "BadPlain" [("place", d1)])) := by kernel_rfl
theorem b_integer_5 (g : List D → Res) (wf n : Nat) (o0 o1 o2 o3 o4 o5 o6 : Option D) (E : Nx) : st1 g wf n df_integer 54 (at1 b_integer 5) [o0, o1, o2, o3, o4, o5, o6] E =
  getS o5 fun d1 => getS o5 fun d2 => dIx d2 (.int 0) fun z3 => dEq z3 (.str "0") fun c4 => (match c4 with | true => getS o5 fun d8 => getS o5 fun d5 => dLen d5 fun z6 => dLt (.int 1) z6 fun c7 => (match c7 with | true => stL g wf n df_integer 54 (ifT (at1 b_integer 5)) [o0, o1, o2, o3, o4, o5, o6] E | false => stL g wf n df_integer 54 (ifF (at1 b_integer 5)) [o0, o1, o2, o3, o4, o5, o6] E) | false => (match false with | true => stL g wf n df_integer 54 (ifT (at1 b_integer 5)) [o0, o1, o2, o3, o4, o5, o6] E | false => stL g wf n df_integer 54 (ifF (at1 b_integer 5)) [o0, o1, o2, o3, o4, o5, o6] E)) := by kernel_rfl
def b_integer_5t : List Stmt := ifT (at1 b_integer 5)
theorem b_integer_5t_eq : b_integer_5t = [at1 b_integer_5t 0] := by kernel_rfl
theorem b_integer_5t_0 (g : List D → Res) (wf n : Nat) (o0 o1 o2 o3 o4 o5 o6 : Option D) (E : Nx) : st1 g wf n df_integer 53 (at1 b_integer_5t 0) [o0, o1, o2, o3, o4, o5, o6] E =
  getS o3 fun d1 => dAdd d1 (.int 1) fun z2 => pusK [z2] (.exc "BadPlain" [("place", z2)]) := by kernel_rfl
theorem b_integer_6 (g : List D → Res) (wf n : Nat) (o0 o1 o2 o3 o4 o5 o6 : Option D) (E : Nx) : st1 g wf n df_integer 53 (at1 b_integer 6) [o0, o1, o2, o3, o4, o5, o6] E =
  getS o5 fun d4 => getS o5 fun d1 => dLen d1 fun z2 => dLt (.int 2000) z2 fun c3 => (match c3 with | true => stL g wf n df_integer 53 (ifT (at1 b_integer 6)) [o0, o1, o2, o3, o4, o5, o6] E | false => stL g wf n df_integer 53 (ifF (at1 b_integer 6)) [o0, o1, o2, o3, o4, o5, o6] E) := by kernel_rfl
def b_integer_6t : List Stmt := ifT (at1 b_integer 6)
theorem b_integer_6t_eq : b_integer_6t = [at1 b_integer_6t 0] := by kernel_rfl
theorem b_integer_6t_0 (g : List D → Res) (wf n : Nat) (o0 o1 o2 o3 o4 o5 o6 : Option D) (E : Nx) : st1 g wf n df_integer 52 (at1 b_integer_6t 0) [o0, o1, o2, o3, o4, o5, o6] E =
  getS o3 fun d1 => dAdd d1 (.int 2000) fun z2 => pusK [z2] (.exc "BadPlain" [("place", z2)]) := by kernel_rfl
theorem b_integer_7 (g : List D → Res) (wf n : Nat) (o0 o1 o2 o3 o4 o5 o6 : Option D) (E : Nx) : st1 g wf n df_integer 52 (at1 b_integer 7) [o0, o1, o2, o3, o4, o5, o6] E =
  getS o2 fun d1 => dTru d1 fun c2 => (match c2 with | true => getS o5 fun d6 => getS o5 fun d3 => dInt 16777216 d3 fun z4 => dNeg z4 fun z5 => E.nx [o0, o1, o2, o3, o4, o5, some z5] | false => getS o5 fun d9 => getS o5 fun d7 => dInt 16777216 d7 fun z8 => E.nx [o0, o1, o2, o3, o4, o5, some z8]) := by kernel_rfl
theorem b_integer_8 (g : List D → Res) (wf n : Nat) (o0 o1 o2 o3 o4 o5 o6 : Option D) (E : Nx) : st1 g wf n df_integer 51 (at1 b_integer 8) [o0, o1, o2, o3, o4, o5, o6] E =
  getS o6 fun d8 => getS o3 fun d1 => getS o5 fun d7 => getS o5 fun d2 => dLen d2 fun z3 => getS o3 fun d4 => dAdd d4 z3 fun z5 => getS o6 fun d6 => puK d6 (pusK [d6, z5] (E.rt (.tup [d6, z5]) [o0, o1, o2, o3, o4, o5, o6])) := by kernel_rfl
/-! ### _unquoted -/
def b_unquoted : List Stmt := df_unquoted.body
theorem b_unquoted_eq : b_unquoted = [at1 b_unquoted 0, at1 b_unquoted 1] := by kernel_rfl
theorem b_unquoted_0 (g : List D → Res) (wf n : Nat) (o0 o1 o2 o3 o4 o5 : Option D) (E : Nx) : st1 g wf n df_unquoted 59 (at1 b_unquoted 0) [o0, o1, o2, o3, o4, o5] E =
  E.nx [o0, o1, some (.lst []), o3, o4, o5] := by kernel_rfl
theorem b_unquoted_1 (g : List D → Res) (wf n : Nat) (o0 o1 o2 o3 o4 o5 : Option D) (E : Nx) : st1 g wf n df_unquoted 58 (at1 b_unquoted 1) [o0, o1, o2, o3, o4, o5] E =
  whC g wf n df_unquoted 58 (at1 b_unquoted 1) wf [o0, o1, o2, o3, o4, o5] E := by kernel_rfl
theorem b_unquoted_1w (g : List D → Res) (wf n w : Nat) (o0 o1 o2 o3 o4 o5 : Option D) (E : Nx) : whC g wf n df_unquoted 58 (at1 b_unquoted 1) (w + 1) [o0, o1, o2, o3, o4, o5] E =
  dTru (.bl true) fun c1 => (match c1 with | true => stL g wf n df_unquoted 58 (whB (at1 b_unquoted 1)) [o0, o1, o2, o3, o4, o5] { nx := fun ρ2 => whC g wf n df_unquoted 58 (at1 b_unquoted 1) w ρ2 E, bk := E.nx, ct := fun ρ2 => whC g wf n df_unquoted 58 (at1 b_unquoted 1) w ρ2 E, rt := E.rt } | false => E.nx [o0, o1, o2, o3, o4, o5]) := by kernel_rfl
def b_unquoted_1b : List Stmt := whB (at1 b_unquoted 1)
theorem b_unquoted_1b_eq : b_unquoted_1b = [at1 b_unquoted_1b 0, at1 b_unquoted_1b 1, at1 b_unquoted_1b 2, at1 b_unquoted_1b 3, at1 b_unquoted_1b 4, at1 b_unquoted_1b 5, at1 b_unquoted_1b 6, at1 b_unquoted_1b 7, at1 b_unquoted_1b 8] := by kernel_rfl
theorem b_unquoted_1b_0 (g : List D → Res) (wf n : Nat) (o0 o1 o2 o3 o4 o5 : Option D) (E : Nx) : st1 g wf n df_unquoted 57 (at1 b_unquoted_1b 0) [o0, o1, o2, o3, o4, o5] E =
  getS o0 fun d6 => getS o1 fun d5 => getS o0 fun d1 => getS o1 fun d2 => onRet (cl g wf n "_first_of" [d1, d2]) (fun r3 f4 => E.nx [unlend d1 f4[0]?, unlend d2 f4[1]?, o2, some r3, o4, o5]) exX := by kernel_rfl
theorem b_unquoted_1b_1 (g : List D → Res) (wf n : Nat) (o0 o1 o2 o3 o4 o5 : Option D) (E : Nx) : st1 g wf n df_unquoted 56 (at1 b_unquoted_1b 1) [o0, o1, o2, o3, o4, o5] E =
  getS o2 fun d1 => asLK d1 fun _ => getS o0 fun d2 => puK d2 (getS o1 fun d3 => asIK d3 fun i4 => getS o3 fun d5 => asIK d5 fun i6 => dSl d2 (some i4) (some i6) fun z7 => getS o2 fun d8 => asLK d8 fun l9 => ckK (decide (l9.length < szLine)) (E.nx [o0, o1, some (.lst (l9 ++ [z7])), o3, o4, o5])) := by kernel_rfl
theorem b_unquoted_1b_2 (g : List D → Res) (wf n : Nat) (o0 o1 o2 o3 o4 o5 : Option D) (E : Nx) : st1 g wf n df_unquoted 55 (at1 b_unquoted_1b 2) [o0, o1, o2, o3, o4, o5] E =
  getS o0 fun d1 => puK d1 (getS o3 fun d2 => asIK d2 fun i3 => getS o3 fun d4 => dAdd d4 (.int 1) fun z5 => asIK z5 fun i6 => dSl d1 (some i3) (some i6) fun z7 => E.nx [o0, o1, o2, o3, some z7, o5]) := by kernel_rfl
theorem b_unquoted_1b_3 (g : List D → Res) (wf n : Nat) (o0 o1 o2 o3 o4 o5 : Option D) (E : Nx) : st1 g wf n df_unquoted 54 (at1 b_unquoted_1b 3) [o0, o1, o2, o3, o4, o5] E =
  getS o4 fun d1 => dEq d1 (.str "\"") fun c2 => (match c2 with | true => stL g wf n df_unquoted 54 (ifT (at1 b_unquoted_1b 3)) [o0, o1, o2, o3, o4, o5] E | false => stL g wf n df_unquoted 54 (ifF (at1 b_unquoted_1b 3)) [o0, o1, o2, o3, o4, o5] E) := by kernel_rfl
def b_unquoted_1b_3t : List Stmt := ifT (at1 b_unquoted_1b 3)
theorem b_unquoted_1b_3t_eq : b_unquoted_1b_3t = [at1 b_unquoted_1b_3t 0] := by kernel_rfl
theorem b_unquoted_1b_3t_0 (g : List D → Res) (wf n : Nat) (o0 o1 o2 o3 o4 o5 : Option D) (E : Nx) : st1 g wf n df_unquoted 53 (at1 b_unquoted_1b_3t 0) [o0, o1, o2, o3, o4, o5] E =
  oK (asS [(.str "")]) fun s1 => getS o2 fun d6 => getS o2 fun d2 => dJoin s1 d2 fun z3 => getS o3 fun d4 => dAdd d4 (.int 1) fun z5 => pusK [z3, z5] (E.rt (.tup [z3, z5]) [o0, o1, o2, o3, o4, o5]) := by kernel_rfl
theorem b_unquoted_1b_4 (g : List D → Res) (wf n : Nat) (o0 o1 o2 o3 o4 o5 : Option D) (E : Nx) : st1 g wf n df_unquoted 53 (at1 b_unquoted_1b 4) [o0, o1, o2, o3, o4, o5] E =
  getS o4 fun d1 => dEq d1 (.str "\\") fun c2 => (match (!c2) with | true => stL g wf n df_unquoted 53 (ifT (at1 b_unquoted_1b 4)) [o0, o1, o2, o3, o4, o5] E | false => stL g wf n df_unquoted 53 (ifF (at1 b_unquoted_1b 4)) [o0, o1, o2, o3, o4, o5] E) := by kernel_rfl
def b_unquoted_1b_4t : List Stmt := ifT (at1 b_unquoted_1b 4)
theorem b_unquoted_1b_4t_eq : b_unquoted_1b_4t = [at1 b_unquoted_1b_4t 0] := by kernel_rfl
theorem b_unquoted_1b_4t_0 (g : List D → Res) (wf n : Nat) (o0 o1 o2 o3 o4 o5 : Option D) (E : Nx) : st1 g wf n df_unquoted 52 (at1 b_unquoted_1b_4t 0) [o0, o1, o2, o3, o4, o5] E =
  getS o3 fun d2 => getS o3 fun d1 => puK d1 (pusK [d1] (.exc "BadPlain" [("place", d1)])) := by kernel_rfl
theorem b_unquoted_1b_5 (g : List D → Res) (wf n : Nat) (o0 o1 o2 o3 o4 o5 : Option D) (E : Nx) : st1 g wf n df_unquoted 52 (at1 b_unquoted_1b 5) [o0, o1, o2, o3, o4, o5] E =
  getS o0 fun d1 => puK d1 (getS o3 fun d2 => dAdd d2 (.int 1) fun z3 => asIK z3 fun i4 => getS o3 fun d5 => dAdd d5 (.int 2) fun z6 => asIK z6 fun i7 => dSl d1 (some i4) (some i7) fun z8 => E.nx [o0, o1, o2, o3, o4, some z8]) := by kernel_rfl
theorem b_unquoted_1b_6 (g : List D → Res) (wf n : Nat) (o0 o1 o2 o3 o4 o5 : Option D) (E : Nx) : st1 g wf n df_unquoted 51 (at1 b_unquoted_1b 6) [o0, o1, o2, o3, o4, o5] E =
  getS o5 fun d1 => oK (asS [d1]) fun s2 => (match (!(kdGet kd_ESCAPES s2).isSome) with | true => stL g wf n df_unquoted 51 (ifT (at1 b_unquoted_1b 6)) [o0, o1, o2, o3, o4, o5] E | false => stL g wf n df_unquoted 51 (ifF (at1 b_unquoted_1b 6)) [o0, o1, o2, o3, o4, o5] E) := by kernel_rfl
def b_unquoted_1b_6t : List Stmt := ifT (at1 b_unquoted_1b 6)
theorem b_unquoted_1b_6t_eq : b_unquoted_1b_6t = [at1 b_unquoted_1b_6t 0] := by kernel_rfl
theorem b_unquoted_1b_6t_0 (g : List D → Res) (wf n : Nat) (o0 o1 o2 o3 o4 o5 : Option D) (E : Nx) : st1 g wf n df_unquoted 50 (at1 b_unquoted_1b_6t 0) [o0, o1, o2, o3, o4, o5] E =
  getS o3 fun d1 => dAdd d1 (.int 1) fun z2 => pusK [z2] (.exc "BadPlain" [("place", z2)]) := by kernel_rfl
theorem b_unquoted_1b_7 (g : List D → Res) (wf n : Nat) (o0 o1 o2 o3 o4 o5 : Option D) (E : Nx) : st1 g wf n df_unquoted 50 (at1 b_unquoted_1b 7) [o0, o1, o2, o3, o4, o5] E =
  getS o2 fun d1 => asLK d1 fun _ => getS o5 fun d2 => oK (asS [d2]) fun s3 => oK (kdGet kd_ESCAPES s3) fun d4 => puK d4 (getS o2 fun d5 => asLK d5 fun l6 => ckK (decide (l6.length < szLine)) (E.nx [o0, o1, some (.lst (l6 ++ [d4])), o3, o4, o5])) := by kernel_rfl
theorem b_unquoted_1b_8 (g : List D → Res) (wf n : Nat) (o0 o1 o2 o3 o4 o5 : Option D) (E : Nx) : st1 g wf n df_unquoted 49 (at1 b_unquoted_1b 8) [o0, o1, o2, o3, o4, o5] E =
  getS o3 fun d1 => dAdd d1 (.int 2) fun z2 => puK z2 (getS o1 fun d3 => puK d3 (E.nx [o0, some z2, o2, o3, o4, o5])) := by kernel_rfl
/-! ### _first_of -/
def b_first_of : List Stmt := df_first_of.body
theorem b_first_of_eq : b_first_of = [at1 b_first_of 0, at1 b_first_of 1, at1 b_first_of 2] := by kernel_rfl
theorem b_first_of_0 (g : List D → Res) (wf n : Nat) (o0 o1 o2 o3 o4 : Option D) (E : Nx) : st1 g wf n df_first_of 59 (at1 b_first_of 0) [o0, o1, o2, o3, o4] E =
  getS o0 fun d3 => getS o0 fun d1 => dLen d1 fun z2 => E.nx [o0, o1, some z2, o3, o4] := by kernel_rfl
theorem b_first_of_1 (g : List D → Res) (wf n : Nat) (o0 o1 o2 o3 o4 : Option D) (E : Nx) : st1 g wf n df_first_of 58 (at1 b_first_of 1) [o0, o1, o2, o3, o4] E =
  pusK [(.str "\""), (.str "\\"), (.str "\n")] (seqV false (.tup [(.str "\""), (.str "\\"), (.str "\n")]) fun l1 => forC (fst g wf n df_first_of 58 (at1 b_first_of 1)) l1 [o0, o1, o2, o3, o4] E) := by kernel_rfl
theorem b_first_of_1x (g : List D → Res) (wf n : Nat) (x : D) (o0 o1 o2 o3 o4 : Option D) (E : Nx) : fst g wf n df_first_of 58 (at1 b_first_of 1) x [o0, o1, o2, o3, o4] E =
  stL g wf n df_first_of 58 (forB (at1 b_first_of 1)) [o0, o1, o2, some x, o4] E := by kernel_rfl
def b_first_of_1b : List Stmt := forB (at1 b_first_of 1)
theorem b_first_of_1b_eq : b_first_of_1b = [at1 b_first_of_1b 0, at1 b_first_of_1b 1] := by kernel_rfl
theorem b_first_of_1b_0 (g : List D → Res) (wf n : Nat) (o0 o1 o2 o3 o4 : Option D) (E : Nx) : st1 g wf n df_first_of 57 (at1 b_first_of_1b 0) [o0, o1, o2, o3, o4] E =
  getS o0 fun d1 => oK (asS [d1]) fun s2 => getS o3 fun d10 => getS o1 fun d9 => getS o2 fun d8 => getS o3 fun d3 => getS o1 fun d4 => getS o2 fun d5 => oK (asSII [d3, d4, d5]) fun t7 => E.nx [o0, o1, o2, o3, some (.int (Txt.findIn s2 t7.1 t7.2.1 t7.2.2))] := by kernel_rfl
theorem b_first_of_1b_1 (g : List D → Res) (wf n : Nat) (o0 o1 o2 o3 o4 : Option D) (E : Nx) : st1 g wf n df_first_of 56 (at1 b_first_of_1b 1) [o0, o1, o2, o3, o4] E =
  getS o4 fun d1 => dLe (.int 0) d1 fun c2 => (match c2 with | true => stL g wf n df_first_of 56 (ifT (at1 b_first_of_1b 1)) [o0, o1, o2, o3, o4] E | false => stL g wf n df_first_of 56 (ifF (at1 b_first_of_1b 1)) [o0, o1, o2, o3, o4] E) := by kernel_rfl
def b_first_of_1b_1t : List Stmt := ifT (at1 b_first_of_1b 1)
theorem b_first_of_1b_1t_eq : b_first_of_1b_1t = [at1 b_first_of_1b_1t 0] := by kernel_rfl
theorem b_first_of_1b_1t_0 (g : List D → Res) (wf n : Nat) (o0 o1 o2 o3 o4 : Option D) (E : Nx) : st1 g wf n df_first_of 55 (at1 b_first_of_1b_1t 0) [o0, o1, o2, o3, o4] E =
  getS o4 fun d1 => puK d1 (E.nx [o0, o1, some d1, o3, o4]) := by kernel_rfl
theorem b_first_of_2 (g : List D → Res) (wf n : Nat) (o0 o1 o2 o3 o4 : Option D) (E : Nx) : st1 g wf n df_first_of 57 (at1 b_first_of 2) [o0, o1, o2, o3, o4] E =
  getS o2 fun d1 => retK d1 (E.rt d1 [o0, o1, o2, o3, o4]) (ckK (decide (2 ≤ 2)) (E.rt d1 [o0, o1, none, o3, o4])) := by kernel_rfl
/-! ### _law_cell -/
def b_law_cell : List Stmt := df_law_cell.body
theorem b_law_cell_eq : b_law_cell = [at1 b_law_cell 0, at1 b_law_cell 1] := by kernel_rfl
theorem b_law_cell_0 (g : List D → Res) (wf n : Nat) (o0 o1 : Option D) (E : Nx) : st1 g wf n df_law_cell 59 (at1 b_law_cell 0) [o0, o1] E =
  getS o1 fun d1 => puK d1 (getS o0 fun d5 => getS o0 fun d2 => dLen d2 fun z3 => dLt d1 z3 fun c4 => (match c4 with | true => stL g wf n df_law_cell 59 (ifT (at1 b_law_cell 0)) [o0, o1] E | false => stL g wf n df_law_cell 59 (ifF (at1 b_law_cell 0)) [o0, o1] E)) := by kernel_rfl
def b_law_cell_0t : List Stmt := ifT (at1 b_law_cell 0)
theorem b_law_cell_0t_eq : b_law_cell_0t = [at1 b_law_cell_0t 0] := by kernel_rfl
theorem b_law_cell_0t_0 (g : List D → Res) (wf n : Nat) (o0 o1 : Option D) (E : Nx) : st1 g wf n df_law_cell 58 (at1 b_law_cell_0t 0) [o0, o1] E =
  getS o0 fun d1 => getS o1 fun d2 => getS o0 fun d3 => dIx d3 d2 fun z4 => puK z4 (E.rt z4 [o0, o1]) := by kernel_rfl
theorem b_law_cell_1 (g : List D → Res) (wf n : Nat) (o0 o1 : Option D) (E : Nx) : st1 g wf n df_law_cell 58 (at1 b_law_cell 1) [o0, o1] E =
  E.rt (.int 0) [o0, o1] := by kernel_rfl
/-! ### _law_digits -/
def b_law_digits : List Stmt := df_law_digits.body
theorem b_law_digits_eq : b_law_digits = [at1 b_law_digits 0, at1 b_law_digits 1, at1 b_law_digits 2] := by kernel_rfl
theorem b_law_digits_0 (g : List D → Res) (wf n : Nat) (o0 o1 o2 o3 o4 o5 o6 o7 : Option D) (E : Nx) : st1 g wf n df_law_digits 59 (at1 b_law_digits 0) [o0, o1, o2, o3, o4, o5, o6, o7] E =
  E.nx [o0, o1, o2, some (.lst []), o4, o5, o6, o7] := by kernel_rfl
theorem b_law_digits_1 (g : List D → Res) (wf n : Nat) (o0 o1 o2 o3 o4 o5 o6 o7 : Option D) (E : Nx) : st1 g wf n df_law_digits 58 (at1 b_law_digits 1) [o0, o1, o2, o3, o4, o5, o6, o7] E =
  getS o1 fun d6 => getS o2 fun d5 => getS o1 fun d1 => getS o2 fun d2 => asIK d1 fun i3 => asIK d2 fun i4 => ckK (smallI i3 && smallI i4) (forC (fst g wf n df_law_digits 58 (at1 b_law_digits 1)) (rngL i3 (i4 - i3 : Int).toNat) [o0, o1, o2, o3, o4, o5, o6, o7] E) := by kernel_rfl
theorem b_law_digits_1x (g : List D → Res) (wf n : Nat) (x : D) (o0 o1 o2 o3 o4 o5 o6 o7 : Option D) (E : Nx) : fst g wf n df_law_digits 58 (at1 b_law_digits 1) x [o0, o1, o2, o3, o4, o5, o6, o7] E =
  stL g wf n df_law_digits 58 (forB (at1 b_law_digits 1)) [o0, o1, o2, o3, some x, o5, o6, o7] E := by kernel_rfl
def b_law_digits_1b : List Stmt := forB (at1 b_law_digits 1)
theorem b_law_digits_1b_eq : b_law_digits_1b = [at1 b_law_digits_1b 0, at1 b_law_digits_1b 1, at1 b_law_digits_1b 2, at1 b_law_digits_1b 3] := by kernel_rfl
theorem b_law_digits_1b_0 (g : List D → Res) (wf n : Nat) (o0 o1 o2 o3 o4 o5 o6 o7 : Option D) (E : Nx) : st1 g wf n df_law_digits 57 (at1 b_law_digits_1b 0) [o0, o1, o2, o3, o4, o5, o6, o7] E =
  getS o3 fun d4 => getS o3 fun d1 => dLen d1 fun z2 => dLt (.int 1500) z2 fun c3 => (match c3 with | true => stL g wf n df_law_digits 57 (ifT (at1 b_law_digits_1b 0)) [o0, o1, o2, o3, o4, o5, o6, o7] E | false => stL g wf n df_law_digits 57 (ifF (at1 b_law_digits_1b 0)) [o0, o1, o2, o3, o4, o5, o6, o7] E) := by kernel_rfl
def b_law_digits_1b_0t : List Stmt := ifT (at1 b_law_digits_1b 0)
theorem b_law_digits_1b_0t_eq : b_law_digits_1b_0t = [at1 b_law_digits_1b_0t 0] := by kernel_rfl
theorem b_law_digits_1b_0t_0 (g : List D → Res) (wf n : Nat) (o0 o1 o2 o3 o4 o5 o6 o7 : Option D) (E : Nx) : st1 g wf n df_law_digits 56 (at1 b_law_digits_1b_0t 0) [o0, o1, o2, o3, o4, o5, o6, o7] E =
  E.bk [o0, o1, o2, o3, o4, o5, o6, o7] := by kernel_rfl
theorem b_law_digits_1b_1 (g : List D → Res) (wf n : Nat) (o0 o1 o2 o3 o4 o5 o6 o7 : Option D) (E : Nx) : st1 g wf n df_law_digits 56 (at1 b_law_digits_1b 1) [o0, o1, o2, o3, o4, o5, o6, o7] E =
  getS o0 fun d6 => getS o4 fun d5 => getS o0 fun d1 => getS o4 fun d2 => onRet (cl g wf n "_law_cell" [d1, d2]) (fun r3 f4 => E.nx [unlend d1 f4[0]?, o1, o2, o3, unlend d2 f4[1]?, some r3, o6, o7]) exX := by kernel_rfl
theorem b_law_digits_1b_2 (g : List D → Res) (wf n : Nat) (o0 o1 o2 o3 o4 o5 o6 o7 : Option D) (E : Nx) : st1 g wf n df_law_digits 55 (at1 b_law_digits_1b 2) [o0, o1, o2, o3, o4, o5, o6, o7] E =
  getS o5 fun d1 => dLt d1 (.int 0) fun c2 => (match c2 with | true => stL g wf n df_law_digits 55 (ifT (at1 b_law_digits_1b 2)) [o0, o1, o2, o3, o4, o5, o6, o7] E | false => stL g wf n df_law_digits 55 (ifF (at1 b_law_digits_1b 2)) [o0, o1, o2, o3, o4, o5, o6, o7] E) := by kernel_rfl
def b_law_digits_1b_2t : List Stmt := ifT (at1 b_law_digits_1b 2)
theorem b_law_digits_1b_2t_eq : b_law_digits_1b_2t = [at1 b_law_digits_1b_2t 0] := by kernel_rfl
theorem b_law_digits_1b_2t_0 (g : List D → Res) (wf n : Nat) (o0 o1 o2 o3 o4 o5 o6 o7 : Option D) (E : Nx) : st1 g wf n df_law_digits 54 (at1 b_law_digits_1b_2t 0) [o0, o1, o2, o3, o4, o5, o6, o7] E =
  getS o5 fun d1 => dMul (.int 2) d1 fun z2 => dSub (.int 1) z2 fun z3 => E.nx [o0, o1, o2, o3, o4, some z3, o6, o7] := by kernel_rfl
theorem b_law_digits_1b_3 (g : List D → Res) (wf n : Nat) (o0 o1 o2 o3 o4 o5 o6 o7 : Option D) (E : Nx) : st1 g wf n df_law_digits 54 (at1 b_law_digits_1b 3) [o0, o1, o2, o3, o4, o5, o6, o7] E =
  getS o5 fun d1 => puK d1 (dPow (.int 10) (.int 18) fun z2 => dLe z2 d1 fun c3 => (match c3 with | true => stL g wf n df_law_digits 54 (ifT (at1 b_law_digits_1b 3)) [o0, o1, o2, o3, o4, o5, o6, o7] E | false => stL g wf n df_law_digits 54 (ifF (at1 b_law_digits_1b 3)) [o0, o1, o2, o3, o4, o5, o6, o7] E)) := by kernel_rfl
def b_law_digits_1b_3t : List Stmt := ifT (at1 b_law_digits_1b 3)
theorem b_law_digits_1b_3t_eq : b_law_digits_1b_3t = [at1 b_law_digits_1b_3t 0] := by kernel_rfl
theorem b_law_digits_1b_3t_0 (g : List D → Res) (wf n : Nat) (o0 o1 o2 o3 o4 o5 o6 o7 : Option D) (E : Nx) : st1 g wf n df_law_digits 53 (at1 b_law_digits_1b_3t 0) [o0, o1, o2, o3, o4, o5, o6, o7] E =
  ckK (smallI 60) (forC (fst g wf n df_law_digits 53 (at1 b_law_digits_1b_3t 0)) (rngL 0 (60 : Int).toNat) [o0, o1, o2, o3, o4, o5, o6, o7] E) := by kernel_rfl
theorem b_law_digits_1b_3t_0x (g : List D → Res) (wf n : Nat) (x : D) (o0 o1 o2 o3 o4 o5 o6 o7 : Option D) (E : Nx) : fst g wf n df_law_digits 53 (at1 b_law_digits_1b_3t 0) x [o0, o1, o2, o3, o4, o5, o6, o7] E =
  stL g wf n df_law_digits 53 (forB (at1 b_law_digits_1b_3t 0)) [o0, o1, o2, o3, o4, o5, some x, o7] E := by kernel_rfl
def b_law_digits_1b_3t_0b : List Stmt := forB (at1 b_law_digits_1b_3t 0)
theorem b_law_digits_1b_3t_0b_eq : b_law_digits_1b_3t_0b = [at1 b_law_digits_1b_3t_0b 0] := by kernel_rfl
theorem b_law_digits_1b_3t_0b_0 (g : List D → Res) (wf n : Nat) (o0 o1 o2 o3 o4 o5 o6 o7 : Option D) (E : Nx) : st1 g wf n df_law_digits 52 (at1 b_law_digits_1b_3t_0b 0) [o0, o1, o2, o3, o4, o5, o6, o7] E =
  getS o5 fun d1 => dLt (.int 0) d1 fun c2 => (match c2 with | true => stL g wf n df_law_digits 52 (ifT (at1 b_law_digits_1b_3t_0b 0)) [o0, o1, o2, o3, o4, o5, o6, o7] E | false => stL g wf n df_law_digits 52 (ifF (at1 b_law_digits_1b_3t_0b 0)) [o0, o1, o2, o3, o4, o5, o6, o7] E) := by kernel_rfl
def b_law_digits_1b_3t_0b_0t : List Stmt := ifT (at1 b_law_digits_1b_3t_0b 0)
theorem b_law_digits_1b_3t_0b_0t_eq : b_law_digits_1b_3t_0b_0t = [at1 b_law_digits_1b_3t_0b_0t 0, at1 b_law_digits_1b_3t_0b_0t 1] := by kernel_rfl
theorem b_law_digits_1b_3t_0b_0t_0 (g : List D → Res) (wf n : Nat) (o0 o1 o2 o3 o4 o5 o6 o7 : Option D) (E : Nx) : st1 g wf n df_law_digits 51 (at1 b_law_digits_1b_3t_0b_0t 0) [o0, o1, o2, o3, o4, o5, o6, o7] E =
  getS o3 fun d1 => asLK d1 fun _ => getS o5 fun d7 => getS o5 fun d2 => dInt 16777216 d2 fun z3 => dMod z3 (.int 1000) fun z4 => getS o3 fun d5 => asLK d5 fun l6 => ckK (decide (l6.length < szLine)) (E.nx [o0, o1, o2, some (.lst (l6 ++ [z4])), o4, o5, o6, o7]) := by kernel_rfl
theorem b_law_digits_1b_3t_0b_0t_1 (g : List D → Res) (wf n : Nat) (o0 o1 o2 o3 o4 o5 o6 o7 : Option D) (E : Nx) : st1 g wf n df_law_digits 50 (at1 b_law_digits_1b_3t_0b_0t 1) [o0, o1, o2, o3, o4, o5, o6, o7] E =
  getS o5 fun d1 => dDiv d1 (.int 1000) fun z2 => E.nx [o0, o1, o2, o3, o4, some z2, o6, o7] := by kernel_rfl
def b_law_digits_1b_3f : List Stmt := ifF (at1 b_law_digits_1b 3)
theorem b_law_digits_1b_3f_eq : b_law_digits_1b_3f = [at1 b_law_digits_1b_3f 0, at1 b_law_digits_1b_3f 1] := by kernel_rfl
theorem b_law_digits_1b_3f_0 (g : List D → Res) (wf n : Nat) (o0 o1 o2 o3 o4 o5 o6 o7 : Option D) (E : Nx) : st1 g wf n df_law_digits 53 (at1 b_law_digits_1b_3f 0) [o0, o1, o2, o3, o4, o5, o6, o7] E =
  getS o5 fun d1 => dMul d1 (.int 48271) fun z2 => getS o4 fun d3 => dMul d3 (.int 69621) fun z4 => dAdd z2 z4 fun z5 => dAdd z5 (.int 11) fun z6 => dInt 16777216 z6 fun z7 => dMod z7 (.int 2147483647) fun z8 => E.nx [o0, o1, o2, o3, o4, o5, o6, some z8] := by kernel_rfl
theorem b_law_digits_1b_3f_1 (g : List D → Res) (wf n : Nat) (o0 o1 o2 o3 o4 o5 o6 o7 : Option D) (E : Nx) : st1 g wf n df_law_digits 52 (at1 b_law_digits_1b_3f 1) [o0, o1, o2, o3, o4, o5, o6, o7] E =
  ckK (smallI 12) (forC (fst g wf n df_law_digits 52 (at1 b_law_digits_1b_3f 1)) (rngL 0 (12 : Int).toNat) [o0, o1, o2, o3, o4, o5, o6, o7] E) := by kernel_rfl
theorem b_law_digits_1b_3f_1x (g : List D → Res) (wf n : Nat) (x : D) (o0 o1 o2 o3 o4 o5 o6 o7 : Option D) (E : Nx) : fst g wf n df_law_digits 52 (at1 b_law_digits_1b_3f 1) x [o0, o1, o2, o3, o4, o5, o6, o7] E =
  stL g wf n df_law_digits 52 (forB (at1 b_law_digits_1b_3f 1)) [o0, o1, o2, o3, o4, o5, some x, o7] E := by kernel_rfl
def b_law_digits_1b_3f_1b : List Stmt := forB (at1 b_law_digits_1b_3f 1)
theorem b_law_digits_1b_3f_1b_eq : b_law_digits_1b_3f_1b = [at1 b_law_digits_1b_3f_1b 0, at1 b_law_digits_1b_3f_1b 1] := by kernel_rfl
theorem b_law_digits_1b_3f_1b_0 (g : List D → Res) (wf n : Nat) (o0 o1 o2 o3 o4 o5 o6 o7 : Option D) (E : Nx) : st1 g wf n df_law_digits 51 (at1 b_law_digits_1b_3f_1b 0) [o0, o1, o2, o3, o4, o5, o6, o7] E =
  getS o7 fun d1 => dMul d1 (.int 16807) fun z2 => getS o6 fun d3 => dMul (.int 7) d3 fun z4 => dAdd z2 z4 fun z5 => dAdd z5 (.int 1) fun z6 => dInt 16777216 z6 fun z7 => dMod z7 (.int 2147483647) fun z8 => E.nx [o0, o1, o2, o3, o4, o5, o6, some z8] := by kernel_rfl
theorem b_law_digits_1b_3f_1b_1 (g : List D → Res) (wf n : Nat) (o0 o1 o2 o3 o4 o5 o6 o7 : Option D) (E : Nx) : st1 g wf n df_law_digits 50 (at1 b_law_digits_1b_3f_1b 1) [o0, o1, o2, o3, o4, o5, o6, o7] E =
  getS o3 fun d1 => asLK d1 fun _ => getS o7 fun d2 => dDiv d2 (.int 997) fun z3 => dInt 16777216 z3 fun z4 => dMod z4 (.int 1000) fun z5 => getS o3 fun d6 => asLK d6 fun l7 => ckK (decide (l7.length < szLine)) (E.nx [o0, o1, o2, some (.lst (l7 ++ [z5])), o4, o5, o6, o7]) := by kernel_rfl
theorem b_law_digits_2 (g : List D → Res) (wf n : Nat) (o0 o1 o2 o3 o4 o5 o6 o7 : Option D) (E : Nx) : st1 g wf n df_law_digits 57 (at1 b_law_digits 2) [o0, o1, o2, o3, o4, o5, o6, o7] E =
  getS o3 fun d1 => retK d1 (E.rt d1 [o0, o1, o2, o3, o4, o5, o6, o7]) (ckK (decide (3 ≤ 3)) (E.rt d1 [o0, o1, o2, none, o4, o5, o6, o7])) := by kernel_rfl
/-! ### _law_draw -/
def b_law_draw : List Stmt := df_law_draw.body
theorem b_law_draw_eq : b_law_draw = [at1 b_law_draw 0, at1 b_law_draw 1, at1 b_law_draw 2, at1 b_law_draw 3] := by kernel_rfl
theorem b_law_draw_0 (g : List D → Res) (wf n : Nat) (o0 o1 o2 : Option D) (E : Nx) : st1 g wf n df_law_draw 59 (at1 b_law_draw 0) [o0, o1, o2] E =
  getS o0 fun d1 => getS o0 fun d2 => dIx d2 (.int 1) fun z3 => puK z3 (E.nx [o0, o1, some z3]) := by kernel_rfl
theorem b_law_draw_1 (g : List D → Res) (wf n : Nat) (o0 o1 o2 : Option D) (E : Nx) : st1 g wf n df_law_draw 58 (at1 b_law_draw 1) [o0, o1, o2] E =
  getS o2 fun d1 => dAdd d1 (.int 1) fun z2 => puK z2 (getS o0 fun d3 => getS o0 fun d4 => asLK d4 fun l5 => oK (ixN l5.length 1) fun m6 => E.nx [some (.lst (l5.set m6 z2)), o1, o2]) := by kernel_rfl
theorem b_law_draw_2 (g : List D → Res) (wf n : Nat) (o0 o1 o2 : Option D) (E : Nx) : st1 g wf n df_law_draw 57 (at1 b_law_draw 2) [o0, o1, o2] E =
  getS o2 fun d1 => puK d1 (getS o0 fun d2 => getS o0 fun d3 => dIx d3 (.int 0) fun z4 => dLen z4 fun z5 => dLt d1 z5 fun c6 => (match c6 with | true => stL g wf n df_law_draw 57 (ifT (at1 b_law_draw 2)) [o0, o1, o2] E | false => stL g wf n df_law_draw 57 (ifF (at1 b_law_draw 2)) [o0, o1, o2] E)) := by kernel_rfl
def b_law_draw_2t : List Stmt := ifT (at1 b_law_draw 2)
theorem b_law_draw_2t_eq : b_law_draw_2t = [at1 b_law_draw_2t 0] := by kernel_rfl
theorem b_law_draw_2t_0 (g : List D → Res) (wf n : Nat) (o0 o1 o2 : Option D) (E : Nx) : st1 g wf n df_law_draw 56 (at1 b_law_draw_2t 0) [o0, o1, o2] E =
  getS o0 fun d1 => getS o0 fun d2 => dIx d2 (.int 0) fun z3 => getS o2 fun d4 => dIx z3 d4 fun z5 => dInt 16777216 z5 fun z6 => getS o1 fun d7 => dMod z6 d7 fun z8 => E.rt z8 [o0, o1, o2] := by kernel_rfl
theorem b_law_draw_3 (g : List D → Res) (wf n : Nat) (o0 o1 o2 : Option D) (E : Nx) : st1 g wf n df_law_draw 56 (at1 b_law_draw 3) [o0, o1, o2] E =
  getS o2 fun d1 => dMul d1 (.int 7) fun z2 => dInt 16777216 z2 fun z3 => getS o1 fun d4 => dMod z3 d4 fun z5 => E.rt z5 [o0, o1, o2] := by kernel_rfl
/-! ### _law_same -/
def b_law_same : List Stmt := df_law_same.body
theorem b_law_same_eq : b_law_same = [at1 b_law_same 0, at1 b_law_same 1, at1 b_law_same 2, at1 b_law_same 3, at1 b_law_same 4, at1 b_law_same 5] := by kernel_rfl
theorem b_law_same_0 (g : List D → Res) (wf n : Nat) (o0 o1 o2 : Option D) (E : Nx) : st1 g wf n df_law_same 59 (at1 b_law_same 0) [o0, o1, o2] E =
  getS o1 fun d1 => dIsi d1 "tuple" fun z2 => dTru z2 fun c3 => (match c3 with | true => stL g wf n df_law_same 59 (ifT (at1 b_law_same 0)) [o0, o1, o2] E | false => stL g wf n df_law_same 59 (ifF (at1 b_law_same 0)) [o0, o1, o2] E) := by kernel_rfl
def b_law_same_0t : List Stmt := ifT (at1 b_law_same 0)
theorem b_law_same_0t_eq : b_law_same_0t = [at1 b_law_same_0t 0, at1 b_law_same_0t 1, at1 b_law_same_0t 2] := by kernel_rfl
theorem b_law_same_0t_0 (g : List D → Res) (wf n : Nat) (o0 o1 o2 : Option D) (E : Nx) : st1 g wf n df_law_same 58 (at1 b_law_same_0t 0) [o0, o1, o2] E =
  getS o0 fun d1 => dIsi d1 "tuple" fun z2 => dTru z2 fun c3 => (match (!c3) with | true => (match true with | true => stL g wf n df_law_same 58 (ifT (at1 b_law_same_0t 0)) [o0, o1, o2] E | false => stL g wf n df_law_same 58 (ifF (at1 b_law_same_0t 0)) [o0, o1, o2] E) | false => getS o0 fun d10 => getS o0 fun d4 => dLen d4 fun z5 => getS o1 fun d9 => getS o1 fun d6 => dLen d6 fun z7 => dEq z5 z7 fun c8 => (match (!c8) with | true => stL g wf n df_law_same 58 (ifT (at1 b_law_same_0t 0)) [o0, o1, o2] E | false => stL g wf n df_law_same 58 (ifF (at1 b_law_same_0t 0)) [o0, o1, o2] E)) := by kernel_rfl
def b_law_same_0t_0t : List Stmt := ifT (at1 b_law_same_0t 0)
theorem b_law_same_0t_0t_eq : b_law_same_0t_0t = [at1 b_law_same_0t_0t 0] := by kernel_rfl
theorem b_law_same_0t_0t_0 (g : List D → Res) (wf n : Nat) (o0 o1 o2 : Option D) (E : Nx) : st1 g wf n df_law_same 57 (at1 b_law_same_0t_0t 0) [o0, o1, o2] E =
  E.rt (.bl false) [o0, o1, o2] := by kernel_rfl
theorem b_law_same_0t_1 (g : List D → Res) (wf n : Nat) (o0 o1 o2 : Option D) (E : Nx) : st1 g wf n df_law_same 57 (at1 b_law_same_0t 1) [o0, o1, o2] E =
  getS o1 fun d4 => getS o1 fun d1 => dLen d1 fun z2 => asIK z2 fun i3 => ckK (smallI i3) (forC (fst g wf n df_law_same 57 (at1 b_law_same_0t 1)) (rngL 0 (i3 : Int).toNat) [o0, o1, o2] E) := by kernel_rfl
theorem b_law_same_0t_1x (g : List D → Res) (wf n : Nat) (x : D) (o0 o1 o2 : Option D) (E : Nx) : fst g wf n df_law_same 57 (at1 b_law_same_0t 1) x [o0, o1, o2] E =
  stL g wf n df_law_same 57 (forB (at1 b_law_same_0t 1)) [o0, o1, some x] E := by kernel_rfl
def b_law_same_0t_1b : List Stmt := forB (at1 b_law_same_0t 1)
theorem b_law_same_0t_1b_eq : b_law_same_0t_1b = [at1 b_law_same_0t_1b 0] := by kernel_rfl
theorem b_law_same_0t_1b_0 (g : List D → Res) (wf n : Nat) (o0 o1 o2 : Option D) (E : Nx) : st1 g wf n df_law_same 56 (at1 b_law_same_0t_1b 0) [o0, o1, o2] E =
  getS o0 fun d1 => getS o2 fun d2 => getS o0 fun d3 => dIx d3 d2 fun z4 => puK z4 (getS o1 fun d5 => getS o2 fun d6 => getS o1 fun d7 => dIx d7 d6 fun z8 => puK z8 (onRet (cl g wf n "_law_same" [z4, z8]) (fun r9 f10 => dTru r9 fun c11 => (match (!c11) with | true => stL g wf n df_law_same 56 (ifT (at1 b_law_same_0t_1b 0)) [o0, o1, o2] E | false => stL g wf n df_law_same 56 (ifF (at1 b_law_same_0t_1b 0)) [o0, o1, o2] E)) exX)) := by kernel_rfl
def b_law_same_0t_1b_0t : List Stmt := ifT (at1 b_law_same_0t_1b 0)
theorem b_law_same_0t_1b_0t_eq : b_law_same_0t_1b_0t = [at1 b_law_same_0t_1b_0t 0] := by kernel_rfl
theorem b_law_same_0t_1b_0t_0 (g : List D → Res) (wf n : Nat) (o0 o1 o2 : Option D) (E : Nx) : st1 g wf n df_law_same 55 (at1 b_law_same_0t_1b_0t 0) [o0, o1, o2] E =
  E.rt (.bl false) [o0, o1, o2] := by kernel_rfl
theorem b_law_same_0t_2 (g : List D → Res) (wf n : Nat) (o0 o1 o2 : Option D) (E : Nx) : st1 g wf n df_law_same 56 (at1 b_law_same_0t 2) [o0, o1, o2] E =
  E.rt (.bl true) [o0, o1, o2] := by kernel_rfl
theorem b_law_same_1 (g : List D → Res) (wf n : Nat) (o0 o1 o2 : Option D) (E : Nx) : st1 g wf n df_law_same 58 (at1 b_law_same 1) [o0, o1, o2] E =
  getS o1 fun d1 => dIs d1 .non fun c2 => (match c2 with | true => stL g wf n df_law_same 58 (ifT (at1 b_law_same 1)) [o0, o1, o2] E | false => stL g wf n df_law_same 58 (ifF (at1 b_law_same 1)) [o0, o1, o2] E) := by kernel_rfl
def b_law_same_1t : List Stmt := ifT (at1 b_law_same 1)
theorem b_law_same_1t_eq : b_law_same_1t = [at1 b_law_same_1t 0] := by kernel_rfl
theorem b_law_same_1t_0 (g : List D → Res) (wf n : Nat) (o0 o1 o2 : Option D) (E : Nx) : st1 g wf n df_law_same 57 (at1 b_law_same_1t 0) [o0, o1, o2] E =
  getS o0 fun d1 => dIs d1 .non fun c2 => E.rt (.bl c2) [o0, o1, o2] := by kernel_rfl
theorem b_law_same_2 (g : List D → Res) (wf n : Nat) (o0 o1 o2 : Option D) (E : Nx) : st1 g wf n df_law_same 57 (at1 b_law_same 2) [o0, o1, o2] E =
  getS o1 fun d1 => dIs d1 (.bl true) fun c2 => (match c2 with | true => stL g wf n df_law_same 57 (ifT (at1 b_law_same 2)) [o0, o1, o2] E | false => stL g wf n df_law_same 57 (ifF (at1 b_law_same 2)) [o0, o1, o2] E) := by kernel_rfl
def b_law_same_2t : List Stmt := ifT (at1 b_law_same 2)
theorem b_law_same_2t_eq : b_law_same_2t = [at1 b_law_same_2t 0] := by kernel_rfl
theorem b_law_same_2t_0 (g : List D → Res) (wf n : Nat) (o0 o1 o2 : Option D) (E : Nx) : st1 g wf n df_law_same 56 (at1 b_law_same_2t 0) [o0, o1, o2] E =
  getS o0 fun d1 => dIs d1 (.bl true) fun c2 => E.rt (.bl c2) [o0, o1, o2] := by kernel_rfl
theorem b_law_same_3 (g : List D → Res) (wf n : Nat) (o0 o1 o2 : Option D) (E : Nx) : st1 g wf n df_law_same 56 (at1 b_law_same 3) [o0, o1, o2] E =
  getS o1 fun d1 => dIs d1 (.bl false) fun c2 => (match c2 with | true => stL g wf n df_law_same 56 (ifT (at1 b_law_same 3)) [o0, o1, o2] E | false => stL g wf n df_law_same 56 (ifF (at1 b_law_same 3)) [o0, o1, o2] E) := by kernel_rfl
def b_law_same_3t : List Stmt := ifT (at1 b_law_same 3)
theorem b_law_same_3t_eq : b_law_same_3t = [at1 b_law_same_3t 0] := by kernel_rfl
theorem b_law_same_3t_0 (g : List D → Res) (wf n : Nat) (o0 o1 o2 : Option D) (E : Nx) : st1 g wf n df_law_same 55 (at1 b_law_same_3t 0) [o0, o1, o2] E =
  getS o0 fun d1 => dIs d1 (.bl false) fun c2 => E.rt (.bl c2) [o0, o1, o2] := by kernel_rfl
theorem b_law_same_4 (g : List D → Res) (wf n : Nat) (o0 o1 o2 : Option D) (E : Nx) : st1 g wf n df_law_same 55 (at1 b_law_same 4) [o0, o1, o2] E =
  getS o1 fun d1 => dIsi d1 "int" fun z2 => dTru z2 fun c3 => (match c3 with | true => stL g wf n df_law_same 55 (ifT (at1 b_law_same 4)) [o0, o1, o2] E | false => stL g wf n df_law_same 55 (ifF (at1 b_law_same 4)) [o0, o1, o2] E) := by kernel_rfl
def b_law_same_4t : List Stmt := ifT (at1 b_law_same 4)
theorem b_law_same_4t_eq : b_law_same_4t = [at1 b_law_same_4t 0] := by kernel_rfl
theorem b_law_same_4t_0 (g : List D → Res) (wf n : Nat) (o0 o1 o2 : Option D) (E : Nx) : st1 g wf n df_law_same 54 (at1 b_law_same_4t 0) [o0, o1, o2] E =
  getS o0 fun d1 => dIsi d1 "int" fun z2 => dTru z2 fun c3 => (match c3 with | true => getS o0 fun d4 => dIsi d4 "bool" fun z5 => dTru z5 fun c6 => dTru (.bl (!c6)) fun c7 => (match c7 with | true => getS o0 fun d8 => getS o1 fun d9 => dEq d8 d9 fun c10 => E.rt (.bl c10) [o0, o1, o2] | false => E.rt (.bl (!c6)) [o0, o1, o2]) | false => puK z2 (E.rt z2 [o0, o1, o2])) := by kernel_rfl
theorem b_law_same_5 (g : List D → Res) (wf n : Nat) (o0 o1 o2 : Option D) (E : Nx) : st1 g wf n df_law_same 54 (at1 b_law_same 5) [o0, o1, o2] E =
  getS o0 fun d1 => dIsi d1 "str" fun z2 => dTru z2 fun c3 => (match c3 with | true => getS o0 fun d4 => getS o1 fun d5 => dEq d4 d5 fun c6 => E.rt (.bl c6) [o0, o1, o2] | false => puK z2 (E.rt z2 [o0, o1, o2])) := by kernel_rfl
/-! ### _law_plain -/
def b_law_plain : List Stmt := df_law_plain.body
theorem b_law_plain_eq : b_law_plain = [at1 b_law_plain 0, at1 b_law_plain 1, at1 b_law_plain 2, at1 b_law_plain 3, at1 b_law_plain 4, at1 b_law_plain 5] := by kernel_rfl
theorem b_law_plain_0 (g : List D → Res) (wf n : Nat) (o0 o1 : Option D) (E : Nx) : st1 g wf n df_law_plain 59 (at1 b_law_plain 0) [o0, o1] E =
  getS o0 fun d1 => dIs d1 .non fun c2 => (match c2 with | true => stL g wf n df_law_plain 59 (ifT (at1 b_law_plain 0)) [o0, o1] E | false => stL g wf n df_law_plain 59 (ifF (at1 b_law_plain 0)) [o0, o1] E) := by kernel_rfl
def b_law_plain_0t : List Stmt := ifT (at1 b_law_plain 0)
theorem b_law_plain_0t_eq : b_law_plain_0t = [at1 b_law_plain_0t 0] := by kernel_rfl
theorem b_law_plain_0t_0 (g : List D → Res) (wf n : Nat) (o0 o1 : Option D) (E : Nx) : st1 g wf n df_law_plain 58 (at1 b_law_plain_0t 0) [o0, o1] E =
  E.rt (.str "N") [o0, o1] := by kernel_rfl
theorem b_law_plain_1 (g : List D → Res) (wf n : Nat) (o0 o1 : Option D) (E : Nx) : st1 g wf n df_law_plain 58 (at1 b_law_plain 1) [o0, o1] E =
  getS o0 fun d1 => dIs d1 (.bl true) fun c2 => (match c2 with | true => stL g wf n df_law_plain 58 (ifT (at1 b_law_plain 1)) [o0, o1] E | false => stL g wf n df_law_plain 58 (ifF (at1 b_law_plain 1)) [o0, o1] E) := by kernel_rfl
def b_law_plain_1t : List Stmt := ifT (at1 b_law_plain 1)
theorem b_law_plain_1t_eq : b_law_plain_1t = [at1 b_law_plain_1t 0] := by kernel_rfl
theorem b_law_plain_1t_0 (g : List D → Res) (wf n : Nat) (o0 o1 : Option D) (E : Nx) : st1 g wf n df_law_plain 57 (at1 b_law_plain_1t 0) [o0, o1] E =
  E.rt (.str "T") [o0, o1] := by kernel_rfl
theorem b_law_plain_2 (g : List D → Res) (wf n : Nat) (o0 o1 : Option D) (E : Nx) : st1 g wf n df_law_plain 57 (at1 b_law_plain 2) [o0, o1] E =
  getS o0 fun d1 => dIs d1 (.bl false) fun c2 => (match c2 with | true => stL g wf n df_law_plain 57 (ifT (at1 b_law_plain 2)) [o0, o1] E | false => stL g wf n df_law_plain 57 (ifF (at1 b_law_plain 2)) [o0, o1] E) := by kernel_rfl
def b_law_plain_2t : List Stmt := ifT (at1 b_law_plain 2)
theorem b_law_plain_2t_eq : b_law_plain_2t = [at1 b_law_plain_2t 0] := by kernel_rfl
theorem b_law_plain_2t_0 (g : List D → Res) (wf n : Nat) (o0 o1 : Option D) (E : Nx) : st1 g wf n df_law_plain 56 (at1 b_law_plain_2t 0) [o0, o1] E =
  E.rt (.str "F") [o0, o1] := by kernel_rfl
theorem b_law_plain_3 (g : List D → Res) (wf n : Nat) (o0 o1 : Option D) (E : Nx) : st1 g wf n df_law_plain 56 (at1 b_law_plain 3) [o0, o1] E =
  getS o0 fun d1 => dIsi d1 "int" fun z2 => dTru z2 fun c3 => (match c3 with | true => stL g wf n df_law_plain 56 (ifT (at1 b_law_plain 3)) [o0, o1] E | false => stL g wf n df_law_plain 56 (ifF (at1 b_law_plain 3)) [o0, o1] E) := by kernel_rfl
def b_law_plain_3t : List Stmt := ifT (at1 b_law_plain 3)
theorem b_law_plain_3t_eq : b_law_plain_3t = [at1 b_law_plain_3t 0] := by kernel_rfl
theorem b_law_plain_3t_0 (g : List D → Res) (wf n : Nat) (o0 o1 : Option D) (E : Nx) : st1 g wf n df_law_plain 55 (at1 b_law_plain_3t 0) [o0, o1] E =
  getS o0 fun d3 => getS o0 fun d1 => dStr d1 fun z2 => E.rt z2 [o0, o1] := by kernel_rfl
theorem b_law_plain_4 (g : List D → Res) (wf n : Nat) (o0 o1 : Option D) (E : Nx) : st1 g wf n df_law_plain 55 (at1 b_law_plain 4) [o0, o1] E =
  getS o0 fun d1 => dIsi d1 "tuple" fun z2 => dTru z2 fun c3 => (match c3 with | true => stL g wf n df_law_plain 55 (ifT (at1 b_law_plain 4)) [o0, o1] E | false => stL g wf n df_law_plain 55 (ifF (at1 b_law_plain 4)) [o0, o1] E) := by kernel_rfl
def b_law_plain_4t : List Stmt := ifT (at1 b_law_plain 4)
theorem b_law_plain_4t_eq : b_law_plain_4t = [at1 b_law_plain_4t 0] := by kernel_rfl
def b_law_plain_4t_0_lc1_e : Expr := lcAt 0 (at1 b_law_plain_4t 0)
def b_law_plain_4t_0_lc1 (g : List D → Res) (wf n : Nat) : D → TI.Env → (Option D → TI.Env → Res) → Res := lcs g wf n df_law_plain 48 b_law_plain_4t_0_lc1_e
theorem b_law_plain_4t_0_lc1_x (g : List D → Res) (wf n : Nat) (x : D) (o0 o1 : Option D) (k2 : Option D → TI.Env → Res) : b_law_plain_4t_0_lc1 g wf n x [o0, o1] k2 =
  onRet (cl g wf n "_law_plain" [x]) (fun r1 f2 => k2 (some r1) [o0, unlend x f2[0]?]) xst := by kernel_rfl
theorem b_law_plain_4t_0 (g : List D → Res) (wf n : Nat) (o0 o1 : Option D) (E : Nx) : st1 g wf n df_law_plain 54 (at1 b_law_plain_4t 0) [o0, o1] E =
  oK (asS [(.str " ")]) fun s1 => getS o0 fun d2 => seqV true d2 fun l3 => ckK (hidOk [o0, o1] [1]) (lcC (b_law_plain_4t_0_lc1 g wf n) l3 [] [o0, none] fun a4 r5 => dJoin s1 (.lst a4) fun z6 => dAdd (.str "(") z6 fun z7 => dAdd z7 (.str ")") fun z8 => E.rt z8 (wipeB r5 [o0, o1] [1])) := by kernel_rfl
theorem b_law_plain_5 (g : List D → Res) (wf n : Nat) (o0 o1 : Option D) (E : Nx) : st1 g wf n df_law_plain 54 (at1 b_law_plain 5) [o0, o1] E =
  getS o0 fun d1 => oK (asS [d1]) fun s2 => ckK (decide (s2.length + (s2.length + 1) * ("\\\\" : Str).length ≤ szLine)) (oK (asS [(.str (Txt.replace s2 "\\" "\\\\"))]) fun s3 => ckK (decide (s3.length + (s3.length + 1) * ("\\\"" : Str).length ≤ szLine)) (oK (asS [(.str (Txt.replace s3 "\"" "\\\""))]) fun s4 => ckK (decide (s4.length + (s4.length + 1) * ("\\n" : Str).length ≤ szLine)) (dAdd (.str "\"") (.str (Txt.replace s4 "\n" "\\n")) fun z5 => dAdd z5 (.str "\"") fun z6 => E.rt z6 [o0, o1]))) := by kernel_rfl
/-! ### _law_text_at -/
def b_law_text_at : List Stmt := df_law_text_at.body
theorem b_law_text_at_eq : b_law_text_at = [at1 b_law_text_at 0, at1 b_law_text_at 1, at1 b_law_text_at 2] := by kernel_rfl
theorem b_law_text_at_0 (g : List D → Res) (wf n : Nat) (o0 o1 o2 o3 o4 : Option D) (E : Nx) : st1 g wf n df_law_text_at 59 (at1 b_law_text_at 0) [o0, o1, o2, o3, o4] E =
  E.nx [o0, o1, some (.str ""), o3, o4] := by kernel_rfl
theorem b_law_text_at_1 (g : List D → Res) (wf n : Nat) (o0 o1 o2 o3 o4 : Option D) (E : Nx) : st1 g wf n df_law_text_at 58 (at1 b_law_text_at 1) [o0, o1, o2, o3, o4] E =
  getS o0 fun d5 => getS o0 fun d1 => dLen d1 fun z2 => dAdd z2 (.int 1) fun z3 => asIK z3 fun i4 => ckK (smallI i4) (forC (fst g wf n df_law_text_at 58 (at1 b_law_text_at 1)) (rngL 0 (i4 : Int).toNat) [o0, o1, o2, o3, o4] E) := by kernel_rfl
theorem b_law_text_at_1x (g : List D → Res) (wf n : Nat) (x : D) (o0 o1 o2 o3 o4 : Option D) (E : Nx) : fst g wf n df_law_text_at 58 (at1 b_law_text_at 1) x [o0, o1, o2, o3, o4] E =
  stL g wf n df_law_text_at 58 (forB (at1 b_law_text_at 1)) [o0, o1, o2, some x, o4] E := by kernel_rfl
def b_law_text_at_1b : List Stmt := forB (at1 b_law_text_at 1)
theorem b_law_text_at_1b_eq : b_law_text_at_1b = [at1 b_law_text_at_1b 0, at1 b_law_text_at_1b 1, at1 b_law_text_at_1b 2, at1 b_law_text_at_1b 3] := by kernel_rfl
theorem b_law_text_at_1b_0 (g : List D → Res) (wf n : Nat) (o0 o1 o2 o3 o4 : Option D) (E : Nx) : st1 g wf n df_law_text_at 57 (at1 b_law_text_at_1b 0) [o0, o1, o2, o3, o4] E =
  getS o1 fun d1 => puK d1 (getS o0 fun d5 => getS o0 fun d2 => dLen d2 fun z3 => dLe z3 d1 fun c4 => (match c4 with | true => stL g wf n df_law_text_at 57 (ifT (at1 b_law_text_at_1b 0)) [o0, o1, o2, o3, o4] E | false => stL g wf n df_law_text_at 57 (ifF (at1 b_law_text_at_1b 0)) [o0, o1, o2, o3, o4] E)) := by kernel_rfl
def b_law_text_at_1b_0t : List Stmt := ifT (at1 b_law_text_at_1b 0)
theorem b_law_text_at_1b_0t_eq : b_law_text_at_1b_0t = [at1 b_law_text_at_1b_0t 0] := by kernel_rfl
theorem b_law_text_at_1b_0t_0 (g : List D → Res) (wf n : Nat) (o0 o1 o2 o3 o4 : Option D) (E : Nx) : st1 g wf n df_law_text_at 56 (at1 b_law_text_at_1b_0t 0) [o0, o1, o2, o3, o4] E =
  getS o0 fun d4 => getS o0 fun d1 => dLen d1 fun z2 => dNeg (.int 1) fun z3 => E.rt (.lst [z2, z3]) [o0, o1, o2, o3, o4] := by kernel_rfl
theorem b_law_text_at_1b_1 (g : List D → Res) (wf n : Nat) (o0 o1 o2 o3 o4 : Option D) (E : Nx) : st1 g wf n df_law_text_at 56 (at1 b_law_text_at_1b 1) [o0, o1, o2, o3, o4] E =
  getS o0 fun d1 => getS o1 fun d2 => getS o0 fun d3 => dIx d3 d2 fun z4 => puK z4 (E.nx [o0, o1, o2, o3, some z4]) := by kernel_rfl
theorem b_law_text_at_1b_2 (g : List D → Res) (wf n : Nat) (o0 o1 o2 o3 o4 : Option D) (E : Nx) : st1 g wf n df_law_text_at 55 (at1 b_law_text_at_1b 2) [o0, o1, o2, o3, o4] E =
  getS o4 fun d1 => dEq d1 (.str "\"") fun c2 => (match c2 with | true => stL g wf n df_law_text_at 55 (ifT (at1 b_law_text_at_1b 2)) [o0, o1, o2, o3, o4] E | false => stL g wf n df_law_text_at 55 (ifF (at1 b_law_text_at_1b 2)) [o0, o1, o2, o3, o4] E) := by kernel_rfl
def b_law_text_at_1b_2t : List Stmt := ifT (at1 b_law_text_at_1b 2)
theorem b_law_text_at_1b_2t_eq : b_law_text_at_1b_2t = [at1 b_law_text_at_1b_2t 0] := by kernel_rfl
theorem b_law_text_at_1b_2t_0 (g : List D → Res) (wf n : Nat) (o0 o1 o2 o3 o4 : Option D) (E : Nx) : st1 g wf n df_law_text_at 54 (at1 b_law_text_at_1b_2t 0) [o0, o1, o2, o3, o4] E =
  getS o2 fun d4 => getS o1 fun d1 => dAdd d1 (.int 1) fun z2 => getS o2 fun d3 => puK d3 (E.rt (.lst [d3, z2]) [o0, o1, o2, o3, o4]) := by kernel_rfl
theorem b_law_text_at_1b_3 (g : List D → Res) (wf n : Nat) (o0 o1 o2 o3 o4 : Option D) (E : Nx) : st1 g wf n df_law_text_at 54 (at1 b_law_text_at_1b 3) [o0, o1, o2, o3, o4] E =
  getS o4 fun d1 => dEq d1 (.str "\\") fun c2 => (match c2 with | true => stL g wf n df_law_text_at 54 (ifT (at1 b_law_text_at_1b 3)) [o0, o1, o2, o3, o4] E | false => stL g wf n df_law_text_at 54 (ifF (at1 b_law_text_at_1b 3)) [o0, o1, o2, o3, o4] E) := by kernel_rfl
def b_law_text_at_1b_3t : List Stmt := ifT (at1 b_law_text_at_1b 3)
theorem b_law_text_at_1b_3t_eq : b_law_text_at_1b_3t = [at1 b_law_text_at_1b_3t 0, at1 b_law_text_at_1b_3t 1, at1 b_law_text_at_1b_3t 2, at1 b_law_text_at_1b_3t 3] := by kernel_rfl
theorem b_law_text_at_1b_3t_0 (g : List D → Res) (wf n : Nat) (o0 o1 o2 o3 o4 : Option D) (E : Nx) : st1 g wf n df_law_text_at 53 (at1 b_law_text_at_1b_3t 0) [o0, o1, o2, o3, o4] E =
  getS o1 fun d1 => dAdd d1 (.int 1) fun z2 => getS o0 fun d6 => getS o0 fun d3 => dLen d3 fun z4 => dLe z4 z2 fun c5 => (match c5 with | true => stL g wf n df_law_text_at 53 (ifT (at1 b_law_text_at_1b_3t 0)) [o0, o1, o2, o3, o4] E | false => stL g wf n df_law_text_at 53 (ifF (at1 b_law_text_at_1b_3t 0)) [o0, o1, o2, o3, o4] E) := by kernel_rfl
def b_law_text_at_1b_3t_0t : List Stmt := ifT (at1 b_law_text_at_1b_3t 0)
theorem b_law_text_at_1b_3t_0t_eq : b_law_text_at_1b_3t_0t = [at1 b_law_text_at_1b_3t_0t 0] := by kernel_rfl
theorem b_law_text_at_1b_3t_0t_0 (g : List D → Res) (wf n : Nat) (o0 o1 o2 o3 o4 : Option D) (E : Nx) : st1 g wf n df_law_text_at 52 (at1 b_law_text_at_1b_3t_0t 0) [o0, o1, o2, o3, o4] E =
  getS o0 fun d4 => getS o0 fun d1 => dLen d1 fun z2 => dNeg (.int 1) fun z3 => E.rt (.lst [z2, z3]) [o0, o1, o2, o3, o4] := by kernel_rfl
theorem b_law_text_at_1b_3t_1 (g : List D → Res) (wf n : Nat) (o0 o1 o2 o3 o4 : Option D) (E : Nx) : st1 g wf n df_law_text_at 52 (at1 b_law_text_at_1b_3t 1) [o0, o1, o2, o3, o4] E =
  getS o0 fun d1 => getS o1 fun d2 => dAdd d2 (.int 1) fun z3 => getS o0 fun d4 => dIx d4 z3 fun z5 => dIn z5 (.str "\\\"n") fun c6 => (match (!c6) with | true => stL g wf n df_law_text_at 52 (ifT (at1 b_law_text_at_1b_3t 1)) [o0, o1, o2, o3, o4] E | false => stL g wf n df_law_text_at 52 (ifF (at1 b_law_text_at_1b_3t 1)) [o0, o1, o2, o3, o4] E) := by kernel_rfl
def b_law_text_at_1b_3t_1t : List Stmt := ifT (at1 b_law_text_at_1b_3t 1)
theorem b_law_text_at_1b_3t_1t_eq : b_law_text_at_1b_3t_1t = [at1 b_law_text_at_1b_3t_1t 0] := by kernel_rfl
theorem b_law_text_at_1b_3t_1t_0 (g : List D → Res) (wf n : Nat) (o0 o1 o2 o3 o4 : Option D) (E : Nx) : st1 g wf n df_law_text_at 51 (at1 b_law_text_at_1b_3t_1t 0) [o0, o1, o2, o3, o4] E =
  getS o1 fun d1 => dAdd d1 (.int 1) fun z2 => dNeg (.int 1) fun z3 => E.rt (.lst [z2, z3]) [o0, o1, o2, o3, o4] := by kernel_rfl
theorem b_law_text_at_1b_3t_2 (g : List D → Res) (wf n : Nat) (o0 o1 o2 o3 o4 : Option D) (E : Nx) : st1 g wf n df_law_text_at 51 (at1 b_law_text_at_1b_3t 2) [o0, o1, o2, o3, o4] E =
  getS o2 fun d1 => getS o0 fun d2 => getS o1 fun d3 => dAdd d3 (.int 1) fun z4 => getS o0 fun d5 => dIx d5 z4 fun z6 => getS o0 fun d7 => getS o1 fun d8 => dAdd d8 (.int 1) fun z9 => getS o0 fun d10 => dIx d10 z9 fun z11 => oK (keyD z6) fun k12 => puK z11 (getS o2 fun d13 => dAdd d13 ((dctGet [(.inr "n")] [(.str "\n")] k12).getD z11) fun z14 => E.nx [o0, o1, some z14, o3, o4]) := by kernel_rfl
theorem b_law_text_at_1b_3t_3 (g : List D → Res) (wf n : Nat) (o0 o1 o2 o3 o4 : Option D) (E : Nx) : st1 g wf n df_law_text_at 50 (at1 b_law_text_at_1b_3t 3) [o0, o1, o2, o3, o4] E =
  getS o1 fun d1 => dAdd d1 (.int 2) fun z2 => puK z2 (getS o1 fun d3 => puK d3 (E.nx [o0, some z2, o2, o3, o4])) := by kernel_rfl
def b_law_text_at_1b_3f : List Stmt := ifF (at1 b_law_text_at_1b 3)
theorem b_law_text_at_1b_3f_eq : b_law_text_at_1b_3f = [at1 b_law_text_at_1b_3f 0] := by kernel_rfl
theorem b_law_text_at_1b_3f_0 (g : List D → Res) (wf n : Nat) (o0 o1 o2 o3 o4 : Option D) (E : Nx) : st1 g wf n df_law_text_at 53 (at1 b_law_text_at_1b_3f 0) [o0, o1, o2, o3, o4] E =
  getS o4 fun d1 => dLt d1 (.str " ") fun c2 => (match c2 with | true => (match true with | true => stL g wf n df_law_text_at 53 (ifT (at1 b_law_text_at_1b_3f 0)) [o0, o1, o2, o3, o4] E | false => stL g wf n df_law_text_at 53 (ifF (at1 b_law_text_at_1b_3f 0)) [o0, o1, o2, o3, o4] E) | false => getS o4 fun d3 => dLt (.str "~") d3 fun c4 => (match c4 with | true => (match true with | true => stL g wf n df_law_text_at 53 (ifT (at1 b_law_text_at_1b_3f 0)) [o0, o1, o2, o3, o4] E | false => stL g wf n df_law_text_at 53 (ifF (at1 b_law_text_at_1b_3f 0)) [o0, o1, o2, o3, o4] E) | false => getS o4 fun d8 => getS o4 fun d5 => dOrd d5 fun z6 => dEq z6 (.int 37) fun c7 => (match c7 with | true => stL g wf n df_law_text_at 53 (ifT (at1 b_law_text_at_1b_3f 0)) [o0, o1, o2, o3, o4] E | false => stL g wf n df_law_text_at 53 (ifF (at1 b_law_text_at_1b_3f 0)) [o0, o1, o2, o3, o4] E))) := by kernel_rfl
def b_law_text_at_1b_3f_0t : List Stmt := ifT (at1 b_law_text_at_1b_3f 0)
theorem b_law_text_at_1b_3f_0t_eq : b_law_text_at_1b_3f_0t = [at1 b_law_text_at_1b_3f_0t 0] := by kernel_rfl
theorem b_law_text_at_1b_3f_0t_0 (g : List D → Res) (wf n : Nat) (o0 o1 o2 o3 o4 : Option D) (E : Nx) : st1 g wf n df_law_text_at 52 (at1 b_law_text_at_1b_3f_0t 0) [o0, o1, o2, o3, o4] E =
  getS o1 fun d3 => dNeg (.int 1) fun z1 => getS o1 fun d2 => puK d2 (E.rt (.lst [d2, z1]) [o0, o1, o2, o3, o4]) := by kernel_rfl
def b_law_text_at_1b_3f_0f : List Stmt := ifF (at1 b_law_text_at_1b_3f 0)
theorem b_law_text_at_1b_3f_0f_eq : b_law_text_at_1b_3f_0f = [at1 b_law_text_at_1b_3f_0f 0, at1 b_law_text_at_1b_3f_0f 1] := by kernel_rfl
theorem b_law_text_at_1b_3f_0f_0 (g : List D → Res) (wf n : Nat) (o0 o1 o2 o3 o4 : Option D) (E : Nx) : st1 g wf n df_law_text_at 52 (at1 b_law_text_at_1b_3f_0f 0) [o0, o1, o2, o3, o4] E =
  getS o2 fun d1 => getS o4 fun d2 => dAdd d1 d2 fun z3 => E.nx [o0, o1, some z3, o3, o4] := by kernel_rfl
theorem b_law_text_at_1b_3f_0f_1 (g : List D → Res) (wf n : Nat) (o0 o1 o2 o3 o4 : Option D) (E : Nx) : st1 g wf n df_law_text_at 51 (at1 b_law_text_at_1b_3f_0f 1) [o0, o1, o2, o3, o4] E =
  getS o1 fun d1 => dAdd d1 (.int 1) fun z2 => puK z2 (getS o1 fun d3 => puK d3 (E.nx [o0, some z2, o2, o3, o4])) := by kernel_rfl
theorem b_law_text_at_2 (g : List D → Res) (wf n : Nat) (o0 o1 o2 o3 o4 : Option D) (E : Nx) : st1 g wf n df_law_text_at 57 (at1 b_law_text_at 2) [o0, o1, o2, o3, o4] E =
  getS o0 fun d4 => getS o0 fun d1 => dLen d1 fun z2 => dNeg (.int 1) fun z3 => E.rt (.lst [z2, z3]) [o0, o1, o2, o3, o4] := by kernel_rfl
/-! ### _law_digits_at -/
def b_law_digits_at : List Stmt := df_law_digits_at.body
theorem b_law_digits_at_eq : b_law_digits_at = [at1 b_law_digits_at 0, at1 b_law_digits_at 1, at1 b_law_digits_at 2, at1 b_law_digits_at 3, at1 b_law_digits_at 4, at1 b_law_digits_at 5, at1 b_law_digits_at 6] := by kernel_rfl
theorem b_law_digits_at_0 (g : List D → Res) (wf n : Nat) (o0 o1 o2 o3 o4 : Option D) (E : Nx) : st1 g wf n df_law_digits_at 59 (at1 b_law_digits_at 0) [o0, o1, o2, o3, o4] E =
  getS o1 fun d1 => getS o0 fun d2 => getS o1 fun d3 => getS o0 fun d4 => dIx d4 d3 fun z5 => dEq z5 (.str "-") fun c6 => dInt 16777216 (.bl c6) fun z7 => getS o1 fun d8 => dAdd d8 z7 fun z9 => E.nx [o0, o1, some z9, o3, o4] := by kernel_rfl
theorem b_law_digits_at_1 (g : List D → Res) (wf n : Nat) (o0 o1 o2 o3 o4 : Option D) (E : Nx) : st1 g wf n df_law_digits_at 58 (at1 b_law_digits_at 1) [o0, o1, o2, o3, o4] E =
  getS o2 fun d1 => puK d1 (getS o0 fun d5 => getS o0 fun d2 => dLen d2 fun z3 => dLe z3 d1 fun c4 => (match c4 with | true => stL g wf n df_law_digits_at 58 (ifT (at1 b_law_digits_at 1)) [o0, o1, o2, o3, o4] E | false => stL g wf n df_law_digits_at 58 (ifF (at1 b_law_digits_at 1)) [o0, o1, o2, o3, o4] E)) := by kernel_rfl
def b_law_digits_at_1t : List Stmt := ifT (at1 b_law_digits_at 1)
theorem b_law_digits_at_1t_eq : b_law_digits_at_1t = [at1 b_law_digits_at_1t 0] := by kernel_rfl
theorem b_law_digits_at_1t_0 (g : List D → Res) (wf n : Nat) (o0 o1 o2 o3 o4 : Option D) (E : Nx) : st1 g wf n df_law_digits_at 57 (at1 b_law_digits_at_1t 0) [o0, o1, o2, o3, o4] E =
  getS o0 fun d4 => getS o0 fun d1 => dLen d1 fun z2 => dNeg (.int 1) fun z3 => E.rt (.lst [z2, z3]) [o0, o1, o2, o3, o4] := by kernel_rfl
theorem b_law_digits_at_2 (g : List D → Res) (wf n : Nat) (o0 o1 o2 o3 o4 : Option D) (E : Nx) : st1 g wf n df_law_digits_at 57 (at1 b_law_digits_at 2) [o0, o1, o2, o3, o4] E =
  getS o0 fun d1 => getS o2 fun d2 => getS o0 fun d3 => dIx d3 d2 fun z4 => dIn z4 (.str "0123456789") fun c5 => (match (!c5) with | true => stL g wf n df_law_digits_at 57 (ifT (at1 b_law_digits_at 2)) [o0, o1, o2, o3, o4] E | false => stL g wf n df_law_digits_at 57 (ifF (at1 b_law_digits_at 2)) [o0, o1, o2, o3, o4] E) := by kernel_rfl
def b_law_digits_at_2t : List Stmt := ifT (at1 b_law_digits_at 2)
theorem b_law_digits_at_2t_eq : b_law_digits_at_2t = [at1 b_law_digits_at_2t 0] := by kernel_rfl
theorem b_law_digits_at_2t_0 (g : List D → Res) (wf n : Nat) (o0 o1 o2 o3 o4 : Option D) (E : Nx) : st1 g wf n df_law_digits_at 56 (at1 b_law_digits_at_2t 0) [o0, o1, o2, o3, o4] E =
  getS o2 fun d3 => dNeg (.int 1) fun z1 => getS o2 fun d2 => puK d2 (E.rt (.lst [d2, z1]) [o0, o1, o2, o3, o4]) := by kernel_rfl
theorem b_law_digits_at_3 (g : List D → Res) (wf n : Nat) (o0 o1 o2 o3 o4 : Option D) (E : Nx) : st1 g wf n df_law_digits_at 56 (at1 b_law_digits_at 3) [o0, o1, o2, o3, o4] E =
  getS o0 fun d1 => getS o2 fun d2 => getS o0 fun d3 => dIx d3 d2 fun z4 => dEq z4 (.str "0") fun c5 => (match c5 with | true => stL g wf n df_law_digits_at 56 (ifT (at1 b_law_digits_at 3)) [o0, o1, o2, o3, o4] E | false => stL g wf n df_law_digits_at 56 (ifF (at1 b_law_digits_at 3)) [o0, o1, o2, o3, o4] E) := by kernel_rfl
def b_law_digits_at_3t : List Stmt := ifT (at1 b_law_digits_at 3)
theorem b_law_digits_at_3t_eq : b_law_digits_at_3t = [at1 b_law_digits_at_3t 0] := by kernel_rfl
theorem b_law_digits_at_3t_0 (g : List D → Res) (wf n : Nat) (o0 o1 o2 o3 o4 : Option D) (E : Nx) : st1 g wf n df_law_digits_at 55 (at1 b_law_digits_at_3t 0) [o0, o1, o2, o3, o4] E =
  getS o2 fun d1 => getS o1 fun d2 => dLt d2 d1 fun c3 => (match c3 with | true => getS o2 fun d6 => dNeg (.int 1) fun z4 => getS o2 fun d5 => puK d5 (E.rt (.lst [d5, z4]) [o0, o1, o2, o3, o4]) | false => getS o2 fun d7 => dAdd d7 (.int 1) fun z8 => E.rt (.lst [(.int 0), z8]) [o0, o1, o2, o3, o4]) := by kernel_rfl
theorem b_law_digits_at_4 (g : List D → Res) (wf n : Nat) (o0 o1 o2 o3 o4 : Option D) (E : Nx) : st1 g wf n df_law_digits_at 55 (at1 b_law_digits_at 4) [o0, o1, o2, o3, o4] E =
  getS o2 fun d1 => puK d1 (E.nx [o0, o1, o2, some d1, o4]) := by kernel_rfl
theorem b_law_digits_at_5 (g : List D → Res) (wf n : Nat) (o0 o1 o2 o3 o4 : Option D) (E : Nx) : st1 g wf n df_law_digits_at 54 (at1 b_law_digits_at 5) [o0, o1, o2, o3, o4] E =
  getS o0 fun d4 => getS o0 fun d1 => dLen d1 fun z2 => asIK z2 fun i3 => ckK (smallI i3) (forC (fst g wf n df_law_digits_at 54 (at1 b_law_digits_at 5)) (rngL 0 (i3 : Int).toNat) [o0, o1, o2, o3, o4] E) := by kernel_rfl
theorem b_law_digits_at_5x (g : List D → Res) (wf n : Nat) (x : D) (o0 o1 o2 o3 o4 : Option D) (E : Nx) : fst g wf n df_law_digits_at 54 (at1 b_law_digits_at 5) x [o0, o1, o2, o3, o4] E =
  stL g wf n df_law_digits_at 54 (forB (at1 b_law_digits_at 5)) [o0, o1, o2, o3, some x] E := by kernel_rfl
def b_law_digits_at_5b : List Stmt := forB (at1 b_law_digits_at 5)
theorem b_law_digits_at_5b_eq : b_law_digits_at_5b = [at1 b_law_digits_at_5b 0] := by kernel_rfl
theorem b_law_digits_at_5b_0 (g : List D → Res) (wf n : Nat) (o0 o1 o2 o3 o4 : Option D) (E : Nx) : st1 g wf n df_law_digits_at 53 (at1 b_law_digits_at_5b 0) [o0, o1, o2, o3, o4] E =
  getS o3 fun d1 => puK d1 (getS o0 fun d10 => getS o0 fun d2 => dLen d2 fun z3 => dLt d1 z3 fun c4 => (match c4 with | true => getS o0 fun d5 => getS o3 fun d6 => getS o0 fun d7 => dIx d7 d6 fun z8 => dIn z8 (.str "0123456789") fun c9 => (match c9 with | true => stL g wf n df_law_digits_at 53 (ifT (at1 b_law_digits_at_5b 0)) [o0, o1, o2, o3, o4] E | false => stL g wf n df_law_digits_at 53 (ifF (at1 b_law_digits_at_5b 0)) [o0, o1, o2, o3, o4] E) | false => (match false with | true => stL g wf n df_law_digits_at 53 (ifT (at1 b_law_digits_at_5b 0)) [o0, o1, o2, o3, o4] E | false => stL g wf n df_law_digits_at 53 (ifF (at1 b_law_digits_at_5b 0)) [o0, o1, o2, o3, o4] E))) := by kernel_rfl
def b_law_digits_at_5b_0t : List Stmt := ifT (at1 b_law_digits_at_5b 0)
theorem b_law_digits_at_5b_0t_eq : b_law_digits_at_5b_0t = [at1 b_law_digits_at_5b_0t 0, at1 b_law_digits_at_5b_0t 1] := by kernel_rfl
theorem b_law_digits_at_5b_0t_0 (g : List D → Res) (wf n : Nat) (o0 o1 o2 o3 o4 : Option D) (E : Nx) : st1 g wf n df_law_digits_at 52 (at1 b_law_digits_at_5b_0t 0) [o0, o1, o2, o3, o4] E =
  getS o3 fun d1 => getS o2 fun d2 => dSub d1 d2 fun z3 => dEq z3 (.int 2000) fun c4 => (match c4 with | true => stL g wf n df_law_digits_at 52 (ifT (at1 b_law_digits_at_5b_0t 0)) [o0, o1, o2, o3, o4] E | false => stL g wf n df_law_digits_at 52 (ifF (at1 b_law_digits_at_5b_0t 0)) [o0, o1, o2, o3, o4] E) := by kernel_rfl
def b_law_digits_at_5b_0t_0t : List Stmt := ifT (at1 b_law_digits_at_5b_0t 0)
theorem b_law_digits_at_5b_0t_0t_eq : b_law_digits_at_5b_0t_0t = [at1 b_law_digits_at_5b_0t_0t 0] := by kernel_rfl
theorem b_law_digits_at_5b_0t_0t_0 (g : List D → Res) (wf n : Nat) (o0 o1 o2 o3 o4 : Option D) (E : Nx) : st1 g wf n df_law_digits_at 51 (at1 b_law_digits_at_5b_0t_0t 0) [o0, o1, o2, o3, o4] E =
  getS o3 fun d3 => dNeg (.int 1) fun z1 => getS o3 fun d2 => puK d2 (E.rt (.lst [d2, z1]) [o0, o1, o2, o3, o4]) := by kernel_rfl
theorem b_law_digits_at_5b_0t_1 (g : List D → Res) (wf n : Nat) (o0 o1 o2 o3 o4 : Option D) (E : Nx) : st1 g wf n df_law_digits_at 51 (at1 b_law_digits_at_5b_0t 1) [o0, o1, o2, o3, o4] E =
  getS o3 fun d1 => dAdd d1 (.int 1) fun z2 => E.nx [o0, o1, o2, some z2, o4] := by kernel_rfl
theorem b_law_digits_at_6 (g : List D → Res) (wf n : Nat) (o0 o1 o2 o3 o4 : Option D) (E : Nx) : st1 g wf n df_law_digits_at 53 (at1 b_law_digits_at 6) [o0, o1, o2, o3, o4] E =
  getS o0 fun d1 => puK d1 (getS o1 fun d2 => asIK d2 fun i3 => getS o3 fun d4 => asIK d4 fun i5 => dSl d1 (some i3) (some i5) fun z6 => dInt 16777216 z6 fun z7 => getS o3 fun d9 => getS o3 fun d8 => puK d8 (E.rt (.lst [z7, d8]) [o0, o1, o2, o3, o4])) := by kernel_rfl
/-! ### _law_value_at -/
def b_law_value_at : List Stmt := df_law_value_at.body
theorem b_law_value_at_eq : b_law_value_at = [at1 b_law_value_at 0, at1 b_law_value_at 1, at1 b_law_value_at 2, at1 b_law_value_at 3, at1 b_law_value_at 4, at1 b_law_value_at 5, at1 b_law_value_at 6, at1 b_law_value_at 7, at1 b_law_value_at 8, at1 b_law_value_at 9, at1 b_law_value_at 10] := by kernel_rfl
theorem b_law_value_at_0 (g : List D → Res) (wf n : Nat) (o0 o1 o2 o3 o4 o5 o6 o7 : Option D) (E : Nx) : st1 g wf n df_law_value_at 59 (at1 b_law_value_at 0) [o0, o1, o2, o3, o4, o5, o6, o7] E =
  getS o1 fun d1 => puK d1 (getS o0 fun d5 => getS o0 fun d2 => dLen d2 fun z3 => dLe z3 d1 fun c4 => (match c4 with | true => stL g wf n df_law_value_at 59 (ifT (at1 b_law_value_at 0)) [o0, o1, o2, o3, o4, o5, o6, o7] E | false => stL g wf n df_law_value_at 59 (ifF (at1 b_law_value_at 0)) [o0, o1, o2, o3, o4, o5, o6, o7] E)) := by kernel_rfl
def b_law_value_at_0t : List Stmt := ifT (at1 b_law_value_at 0)
theorem b_law_value_at_0t_eq : b_law_value_at_0t = [at1 b_law_value_at_0t 0] := by kernel_rfl
theorem b_law_value_at_0t_0 (g : List D → Res) (wf n : Nat) (o0 o1 o2 o3 o4 o5 o6 o7 : Option D) (E : Nx) : st1 g wf n df_law_value_at 58 (at1 b_law_value_at_0t 0) [o0, o1, o2, o3, o4, o5, o6, o7] E =
  getS o0 fun d4 => getS o0 fun d1 => dLen d1 fun z2 => dNeg (.int 1) fun z3 => E.rt (.lst [z2, z3]) [o0, o1, o2, o3, o4, o5, o6, o7] := by kernel_rfl
theorem b_law_value_at_1 (g : List D → Res) (wf n : Nat) (o0 o1 o2 o3 o4 o5 o6 o7 : Option D) (E : Nx) : st1 g wf n df_law_value_at 58 (at1 b_law_value_at 1) [o0, o1, o2, o3, o4, o5, o6, o7] E =
  getS o0 fun d1 => getS o1 fun d2 => getS o0 fun d3 => dIx d3 d2 fun z4 => puK z4 (E.nx [o0, o1, o2, some z4, o4, o5, o6, o7]) := by kernel_rfl
theorem b_law_value_at_2 (g : List D → Res) (wf n : Nat) (o0 o1 o2 o3 o4 o5 o6 o7 : Option D) (E : Nx) : st1 g wf n df_law_value_at 57 (at1 b_law_value_at 2) [o0, o1, o2, o3, o4, o5, o6, o7] E =
  getS o3 fun d1 => dIn d1 (.str "TFN") fun c2 => (match c2 with | true => stL g wf n df_law_value_at 57 (ifT (at1 b_law_value_at 2)) [o0, o1, o2, o3, o4, o5, o6, o7] E | false => stL g wf n df_law_value_at 57 (ifF (at1 b_law_value_at 2)) [o0, o1, o2, o3, o4, o5, o6, o7] E) := by kernel_rfl
def b_law_value_at_2t : List Stmt := ifT (at1 b_law_value_at 2)
theorem b_law_value_at_2t_eq : b_law_value_at_2t = [at1 b_law_value_at_2t 0] := by kernel_rfl
theorem b_law_value_at_2t_0 (g : List D → Res) (wf n : Nat) (o0 o1 o2 o3 o4 o5 o6 o7 : Option D) (E : Nx) : st1 g wf n df_law_value_at 56 (at1 b_law_value_at_2t 0) [o0, o1, o2, o3, o4, o5, o6, o7] E =
  getS o3 fun d1 => oK (keyD d1) fun k2 => oK (dctGet [(.inr "T"), (.inr "F"), (.inr "N")] [(.bl true), (.bl false), .non] k2) fun z3 => puK z3 (getS o1 fun d4 => dAdd d4 (.int 1) fun z5 => E.rt (.lst [z3, z5]) [o0, o1, o2, o3, o4, o5, o6, o7]) := by kernel_rfl
theorem b_law_value_at_3 (g : List D → Res) (wf n : Nat) (o0 o1 o2 o3 o4 o5 o6 o7 : Option D) (E : Nx) : st1 g wf n df_law_value_at 56 (at1 b_law_value_at 3) [o0, o1, o2, o3, o4, o5, o6, o7] E =
  getS o3 fun d1 => dEq d1 (.str "\"") fun c2 => (match c2 with | true => stL g wf n df_law_value_at 56 (ifT (at1 b_law_value_at 3)) [o0, o1, o2, o3, o4, o5, o6, o7] E | false => stL g wf n df_law_value_at 56 (ifF (at1 b_law_value_at 3)) [o0, o1, o2, o3, o4, o5, o6, o7] E) := by kernel_rfl
def b_law_value_at_3t : List Stmt := ifT (at1 b_law_value_at 3)
theorem b_law_value_at_3t_eq : b_law_value_at_3t = [at1 b_law_value_at_3t 0] := by kernel_rfl
theorem b_law_value_at_3t_0 (g : List D → Res) (wf n : Nat) (o0 o1 o2 o3 o4 o5 o6 o7 : Option D) (E : Nx) : st1 g wf n df_law_value_at 55 (at1 b_law_value_at_3t 0) [o0, o1, o2, o3, o4, o5, o6, o7] E =
  getS o0 fun d6 => getS o1 fun d1 => dAdd d1 (.int 1) fun z2 => getS o0 fun d3 => onRet (cl g wf n "_law_text_at" [d3, z2]) (fun r4 f5 => E.rt r4 [unlend d3 f5[0]?, o1, o2, o3, o4, o5, o6, o7]) exX := by kernel_rfl
theorem b_law_value_at_4 (g : List D → Res) (wf n : Nat) (o0 o1 o2 o3 o4 o5 o6 o7 : Option D) (E : Nx) : st1 g wf n df_law_value_at 55 (at1 b_law_value_at 4) [o0, o1, o2, o3, o4, o5, o6, o7] E =
  getS o3 fun d1 => dIn d1 (.str "-0123456789") fun c2 => (match c2 with | true => stL g wf n df_law_value_at 55 (ifT (at1 b_law_value_at 4)) [o0, o1, o2, o3, o4, o5, o6, o7] E | false => stL g wf n df_law_value_at 55 (ifF (at1 b_law_value_at 4)) [o0, o1, o2, o3, o4, o5, o6, o7] E) := by kernel_rfl
def b_law_value_at_4t : List Stmt := ifT (at1 b_law_value_at 4)
theorem b_law_value_at_4t_eq : b_law_value_at_4t = [at1 b_law_value_at_4t 0] := by kernel_rfl
theorem b_law_value_at_4t_0 (g : List D → Res) (wf n : Nat) (o0 o1 o2 o3 o4 o5 o6 o7 : Option D) (E : Nx) : st1 g wf n df_law_value_at 54 (at1 b_law_value_at_4t 0) [o0, o1, o2, o3, o4, o5, o6, o7] E =
  getS o0 fun d6 => getS o1 fun d5 => getS o0 fun d1 => getS o1 fun d2 => onRet (cl g wf n "_law_digits_at" [d1, d2]) (fun r3 f4 => E.rt r3 [unlend d1 f4[0]?, unlend d2 f4[1]?, o2, o3, o4, o5, o6, o7]) exX := by kernel_rfl
theorem b_law_value_at_5 (g : List D → Res) (wf n : Nat) (o0 o1 o2 o3 o4 o5 o6 o7 : Option D) (E : Nx) : st1 g wf n df_law_value_at 54 (at1 b_law_value_at 5) [o0, o1, o2, o3, o4, o5, o6, o7] E =
  getS o3 fun d1 => dEq d1 (.str "(") fun c2 => (match (!c2) with | true => (match true with | true => stL g wf n df_law_value_at 54 (ifT (at1 b_law_value_at 5)) [o0, o1, o2, o3, o4, o5, o6, o7] E | false => stL g wf n df_law_value_at 54 (ifF (at1 b_law_value_at 5)) [o0, o1, o2, o3, o4, o5, o6, o7] E) | false => getS o2 fun d3 => dEq d3 (.int 40) fun c4 => (match c4 with | true => stL g wf n df_law_value_at 54 (ifT (at1 b_law_value_at 5)) [o0, o1, o2, o3, o4, o5, o6, o7] E | false => stL g wf n df_law_value_at 54 (ifF (at1 b_law_value_at 5)) [o0, o1, o2, o3, o4, o5, o6, o7] E)) := by kernel_rfl
def b_law_value_at_5t : List Stmt := ifT (at1 b_law_value_at 5)
theorem b_law_value_at_5t_eq : b_law_value_at_5t = [at1 b_law_value_at_5t 0] := by kernel_rfl
theorem b_law_value_at_5t_0 (g : List D → Res) (wf n : Nat) (o0 o1 o2 o3 o4 o5 o6 o7 : Option D) (E : Nx) : st1 g wf n df_law_value_at 53 (at1 b_law_value_at_5t 0) [o0, o1, o2, o3, o4, o5, o6, o7] E =
  getS o1 fun d3 => dNeg (.int 1) fun z1 => getS o1 fun d2 => puK d2 (E.rt (.lst [d2, z1]) [o0, o1, o2, o3, o4, o5, o6, o7]) := by kernel_rfl
theorem b_law_value_at_6 (g : List D → Res) (wf n : Nat) (o0 o1 o2 o3 o4 o5 o6 o7 : Option D) (E : Nx) : st1 g wf n df_law_value_at 53 (at1 b_law_value_at 6) [o0, o1, o2, o3, o4, o5, o6, o7] E =
  E.nx [o0, o1, o2, o3, some (.tup []), o5, o6, o7] := by kernel_rfl
theorem b_law_value_at_7 (g : List D → Res) (wf n : Nat) (o0 o1 o2 o3 o4 o5 o6 o7 : Option D) (E : Nx) : st1 g wf n df_law_value_at 52 (at1 b_law_value_at 7) [o0, o1, o2, o3, o4, o5, o6, o7] E =
  getS o1 fun d1 => dAdd d1 (.int 1) fun z2 => puK z2 (getS o1 fun d3 => puK d3 (E.nx [o0, some z2, o2, o3, o4, o5, o6, o7])) := by kernel_rfl
theorem b_law_value_at_8 (g : List D → Res) (wf n : Nat) (o0 o1 o2 o3 o4 o5 o6 o7 : Option D) (E : Nx) : st1 g wf n df_law_value_at 51 (at1 b_law_value_at 8) [o0, o1, o2, o3, o4, o5, o6, o7] E =
  getS o1 fun d1 => puK d1 (getS o0 fun d10 => getS o0 fun d2 => dLen d2 fun z3 => dLt d1 z3 fun c4 => (match c4 with | true => getS o0 fun d5 => getS o1 fun d6 => getS o0 fun d7 => dIx d7 d6 fun z8 => dEq z8 (.str ")") fun c9 => (match c9 with | true => stL g wf n df_law_value_at 51 (ifT (at1 b_law_value_at 8)) [o0, o1, o2, o3, o4, o5, o6, o7] E | false => stL g wf n df_law_value_at 51 (ifF (at1 b_law_value_at 8)) [o0, o1, o2, o3, o4, o5, o6, o7] E) | false => (match false with | true => stL g wf n df_law_value_at 51 (ifT (at1 b_law_value_at 8)) [o0, o1, o2, o3, o4, o5, o6, o7] E | false => stL g wf n df_law_value_at 51 (ifF (at1 b_law_value_at 8)) [o0, o1, o2, o3, o4, o5, o6, o7] E))) := by kernel_rfl
def b_law_value_at_8t : List Stmt := ifT (at1 b_law_value_at 8)
theorem b_law_value_at_8t_eq : b_law_value_at_8t = [at1 b_law_value_at_8t 0] := by kernel_rfl
theorem b_law_value_at_8t_0 (g : List D → Res) (wf n : Nat) (o0 o1 o2 o3 o4 o5 o6 o7 : Option D) (E : Nx) : st1 g wf n df_law_value_at 50 (at1 b_law_value_at_8t 0) [o0, o1, o2, o3, o4, o5, o6, o7] E =
  getS o1 fun d1 => dAdd d1 (.int 1) fun z2 => E.rt (.lst [(.tup []), z2]) [o0, o1, o2, o3, o4, o5, o6, o7] := by kernel_rfl
theorem b_law_value_at_9 (g : List D → Res) (wf n : Nat) (o0 o1 o2 o3 o4 o5 o6 o7 : Option D) (E : Nx) : st1 g wf n df_law_value_at 50 (at1 b_law_value_at 9) [o0, o1, o2, o3, o4, o5, o6, o7] E =
  getS o0 fun d5 => getS o0 fun d1 => dLen d1 fun z2 => dAdd z2 (.int 1) fun z3 => asIK z3 fun i4 => ckK (smallI i4) (forC (fst g wf n df_law_value_at 50 (at1 b_law_value_at 9)) (rngL 0 (i4 : Int).toNat) [o0, o1, o2, o3, o4, o5, o6, o7] E) := by kernel_rfl
theorem b_law_value_at_9x (g : List D → Res) (wf n : Nat) (x : D) (o0 o1 o2 o3 o4 o5 o6 o7 : Option D) (E : Nx) : fst g wf n df_law_value_at 50 (at1 b_law_value_at 9) x [o0, o1, o2, o3, o4, o5, o6, o7] E =
  stL g wf n df_law_value_at 50 (forB (at1 b_law_value_at 9)) [o0, o1, o2, o3, o4, some x, o6, o7] E := by kernel_rfl
def b_law_value_at_9b : List Stmt := forB (at1 b_law_value_at 9)
theorem b_law_value_at_9b_eq : b_law_value_at_9b = [at1 b_law_value_at_9b 0, at1 b_law_value_at_9b 1, at1 b_law_value_at_9b 2, at1 b_law_value_at_9b 3, at1 b_law_value_at_9b 4, at1 b_law_value_at_9b 5, at1 b_law_value_at_9b 6] := by kernel_rfl
theorem b_law_value_at_9b_0 (g : List D → Res) (wf n : Nat) (o0 o1 o2 o3 o4 o5 o6 o7 : Option D) (E : Nx) : st1 g wf n df_law_value_at 49 (at1 b_law_value_at_9b 0) [o0, o1, o2, o3, o4, o5, o6, o7] E =
  getS o0 fun d13 => getS o1 fun d12 => getS o2 fun d1 => dAdd d1 (.int 1) fun z2 => getS o0 fun d3 => getS o1 fun d4 => onRet (cl g wf n "_law_value_at" [d3, d4, z2]) (fun r5 f6 => unpK 2 r5 fun l7 => consK l7 fun d8 l9 => consK l9 fun d10 l11 => nilK l11 (E.nx [unlend d3 f6[0]?, unlend d4 f6[1]?, o2, o3, o4, o5, some d8, some d10])) exX := by kernel_rfl
theorem b_law_value_at_9b_1 (g : List D → Res) (wf n : Nat) (o0 o1 o2 o3 o4 o5 o6 o7 : Option D) (E : Nx) : st1 g wf n df_law_value_at 48 (at1 b_law_value_at_9b 1) [o0, o1, o2, o3, o4, o5, o6, o7] E =
  getS o7 fun d1 => puK d1 (dNeg (.int 1) fun z2 => dEq d1 z2 fun c3 => (match c3 with | true => stL g wf n df_law_value_at 48 (ifT (at1 b_law_value_at_9b 1)) [o0, o1, o2, o3, o4, o5, o6, o7] E | false => stL g wf n df_law_value_at 48 (ifF (at1 b_law_value_at_9b 1)) [o0, o1, o2, o3, o4, o5, o6, o7] E)) := by kernel_rfl
def b_law_value_at_9b_1t : List Stmt := ifT (at1 b_law_value_at_9b 1)
theorem b_law_value_at_9b_1t_eq : b_law_value_at_9b_1t = [at1 b_law_value_at_9b_1t 0] := by kernel_rfl
theorem b_law_value_at_9b_1t_0 (g : List D → Res) (wf n : Nat) (o0 o1 o2 o3 o4 o5 o6 o7 : Option D) (E : Nx) : st1 g wf n df_law_value_at 47 (at1 b_law_value_at_9b_1t 0) [o0, o1, o2, o3, o4, o5, o6, o7] E =
  getS o6 fun d3 => dNeg (.int 1) fun z1 => getS o6 fun d2 => puK d2 (E.rt (.lst [d2, z1]) [o0, o1, o2, o3, o4, o5, o6, o7]) := by kernel_rfl
theorem b_law_value_at_9b_2 (g : List D → Res) (wf n : Nat) (o0 o1 o2 o3 o4 o5 o6 o7 : Option D) (E : Nx) : st1 g wf n df_law_value_at 47 (at1 b_law_value_at_9b 2) [o0, o1, o2, o3, o4, o5, o6, o7] E =
  getS o4 fun d1 => getS o6 fun d5 => getS o6 fun d2 => puK d2 (pusK [d2] (getS o4 fun d3 => dAdd d3 (.tup [d2]) fun z4 => E.nx [o0, o1, o2, o3, some z4, o5, o6, o7])) := by kernel_rfl
theorem b_law_value_at_9b_3 (g : List D → Res) (wf n : Nat) (o0 o1 o2 o3 o4 o5 o6 o7 : Option D) (E : Nx) : st1 g wf n df_law_value_at 46 (at1 b_law_value_at_9b 3) [o0, o1, o2, o3, o4, o5, o6, o7] E =
  getS o7 fun d1 => puK d1 (getS o0 fun d5 => getS o0 fun d2 => dLen d2 fun z3 => dLe z3 d1 fun c4 => (match c4 with | true => stL g wf n df_law_value_at 46 (ifT (at1 b_law_value_at_9b 3)) [o0, o1, o2, o3, o4, o5, o6, o7] E | false => stL g wf n df_law_value_at 46 (ifF (at1 b_law_value_at_9b 3)) [o0, o1, o2, o3, o4, o5, o6, o7] E)) := by kernel_rfl
def b_law_value_at_9b_3t : List Stmt := ifT (at1 b_law_value_at_9b 3)
theorem b_law_value_at_9b_3t_eq : b_law_value_at_9b_3t = [at1 b_law_value_at_9b_3t 0] := by kernel_rfl
theorem b_law_value_at_9b_3t_0 (g : List D → Res) (wf n : Nat) (o0 o1 o2 o3 o4 o5 o6 o7 : Option D) (E : Nx) : st1 g wf n df_law_value_at 45 (at1 b_law_value_at_9b_3t 0) [o0, o1, o2, o3, o4, o5, o6, o7] E =
  getS o0 fun d4 => getS o0 fun d1 => dLen d1 fun z2 => dNeg (.int 1) fun z3 => E.rt (.lst [z2, z3]) [o0, o1, o2, o3, o4, o5, o6, o7] := by kernel_rfl
theorem b_law_value_at_9b_4 (g : List D → Res) (wf n : Nat) (o0 o1 o2 o3 o4 o5 o6 o7 : Option D) (E : Nx) : st1 g wf n df_law_value_at 45 (at1 b_law_value_at_9b 4) [o0, o1, o2, o3, o4, o5, o6, o7] E =
  getS o0 fun d1 => getS o7 fun d2 => getS o0 fun d3 => dIx d3 d2 fun z4 => dEq z4 (.str ")") fun c5 => (match c5 with | true => stL g wf n df_law_value_at 45 (ifT (at1 b_law_value_at_9b 4)) [o0, o1, o2, o3, o4, o5, o6, o7] E | false => stL g wf n df_law_value_at 45 (ifF (at1 b_law_value_at_9b 4)) [o0, o1, o2, o3, o4, o5, o6, o7] E) := by kernel_rfl
def b_law_value_at_9b_4t : List Stmt := ifT (at1 b_law_value_at_9b 4)
theorem b_law_value_at_9b_4t_eq : b_law_value_at_9b_4t = [at1 b_law_value_at_9b_4t 0] := by kernel_rfl
theorem b_law_value_at_9b_4t_0 (g : List D → Res) (wf n : Nat) (o0 o1 o2 o3 o4 o5 o6 o7 : Option D) (E : Nx) : st1 g wf n df_law_value_at 44 (at1 b_law_value_at_9b_4t 0) [o0, o1, o2, o3, o4, o5, o6, o7] E =
  getS o4 fun d4 => getS o7 fun d1 => dAdd d1 (.int 1) fun z2 => getS o4 fun d3 => puK d3 (E.rt (.lst [d3, z2]) [o0, o1, o2, o3, o4, o5, o6, o7]) := by kernel_rfl
theorem b_law_value_at_9b_5 (g : List D → Res) (wf n : Nat) (o0 o1 o2 o3 o4 o5 o6 o7 : Option D) (E : Nx) : st1 g wf n df_law_value_at 44 (at1 b_law_value_at_9b 5) [o0, o1, o2, o3, o4, o5, o6, o7] E =
  getS o0 fun d1 => getS o7 fun d2 => getS o0 fun d3 => dIx d3 d2 fun z4 => dEq z4 (.str " ") fun c5 => (match (!c5) with | true => stL g wf n df_law_value_at 44 (ifT (at1 b_law_value_at_9b 5)) [o0, o1, o2, o3, o4, o5, o6, o7] E | false => stL g wf n df_law_value_at 44 (ifF (at1 b_law_value_at_9b 5)) [o0, o1, o2, o3, o4, o5, o6, o7] E) := by kernel_rfl
def b_law_value_at_9b_5t : List Stmt := ifT (at1 b_law_value_at_9b 5)
theorem b_law_value_at_9b_5t_eq : b_law_value_at_9b_5t = [at1 b_law_value_at_9b_5t 0] := by kernel_rfl
theorem b_law_value_at_9b_5t_0 (g : List D → Res) (wf n : Nat) (o0 o1 o2 o3 o4 o5 o6 o7 : Option D) (E : Nx) : st1 g wf n df_law_value_at 43 (at1 b_law_value_at_9b_5t 0) [o0, o1, o2, o3, o4, o5, o6, o7] E =
  getS o7 fun d3 => dNeg (.int 1) fun z1 => getS o7 fun d2 => puK d2 (E.rt (.lst [d2, z1]) [o0, o1, o2, o3, o4, o5, o6, o7]) := by kernel_rfl
theorem b_law_value_at_9b_6 (g : List D → Res) (wf n : Nat) (o0 o1 o2 o3 o4 o5 o6 o7 : Option D) (E : Nx) : st1 g wf n df_law_value_at 43 (at1 b_law_value_at_9b 6) [o0, o1, o2, o3, o4, o5, o6, o7] E =
  getS o7 fun d1 => dAdd d1 (.int 1) fun z2 => puK z2 (getS o1 fun d3 => puK d3 (E.nx [o0, some z2, o2, o3, o4, o5, o6, o7])) := by kernel_rfl
theorem b_law_value_at_10 (g : List D → Res) (wf n : Nat) (o0 o1 o2 o3 o4 o5 o6 o7 : Option D) (E : Nx) : st1 g wf n df_law_value_at 49 (at1 b_law_value_at 10) [o0, o1, o2, o3, o4, o5, o6, o7] E =
  getS o0 fun d4 => getS o0 fun d1 => dLen d1 fun z2 => dNeg (.int 1) fun z3 => E.rt (.lst [z2, z3]) [o0, o1, o2, o3, o4, o5, o6, o7] := by kernel_rfl
/-! ### _law_read -/
def b_law_read : List Stmt := df_law_read.body
theorem b_law_read_eq : b_law_read = [at1 b_law_read 0, at1 b_law_read 1, at1 b_law_read 2] := by kernel_rfl
theorem b_law_read_0 (g : List D → Res) (wf n : Nat) (o0 o1 o2 : Option D) (E : Nx) : st1 g wf n df_law_read 59 (at1 b_law_read 0) [o0, o1, o2] E =
  getS o0 fun d9 => getS o0 fun d1 => onRet (cl g wf n "_law_value_at" [d1, (.int 0), (.int 0)]) (fun r2 f3 => unpK 2 r2 fun l4 => consK l4 fun d5 l6 => consK l6 fun d7 l8 => nilK l8 (E.nx [unlend d1 f3[0]?, some d5, some d7])) exX := by kernel_rfl
theorem b_law_read_1 (g : List D → Res) (wf n : Nat) (o0 o1 o2 : Option D) (E : Nx) : st1 g wf n df_law_read 58 (at1 b_law_read 1) [o0, o1, o2] E =
  getS o2 fun d1 => puK d1 (dNeg (.int 1) fun z2 => dEq d1 z2 fun c3 => (match c3 with | true => stL g wf n df_law_read 58 (ifT (at1 b_law_read 1)) [o0, o1, o2] E | false => stL g wf n df_law_read 58 (ifF (at1 b_law_read 1)) [o0, o1, o2] E)) := by kernel_rfl
def b_law_read_1t : List Stmt := ifT (at1 b_law_read 1)
theorem b_law_read_1t_eq : b_law_read_1t = [at1 b_law_read_1t 0] := by kernel_rfl
theorem b_law_read_1t_0 (g : List D → Res) (wf n : Nat) (o0 o1 o2 : Option D) (E : Nx) : st1 g wf n df_law_read 57 (at1 b_law_read_1t 0) [o0, o1, o2] E =
  getS o1 fun d2 => getS o1 fun d1 => puK d1 (pusK [(.str "bad"), d1] (E.rt (.tup [(.str "bad"), d1]) [o0, o1, o2])) := by kernel_rfl
theorem b_law_read_2 (g : List D → Res) (wf n : Nat) (o0 o1 o2 : Option D) (E : Nx) : st1 g wf n df_law_read 57 (at1 b_law_read 2) [o0, o1, o2] E =
  getS o2 fun d1 => puK d1 (getS o0 fun d9 => getS o0 fun d2 => dLen d2 fun z3 => dEq d1 z3 fun c4 => (match c4 with | true => getS o1 fun d6 => getS o1 fun d5 => puK d5 (pusK [(.str "good"), d5] (E.rt (.tup [(.str "good"), d5]) [o0, o1, o2])) | false => getS o2 fun d8 => getS o2 fun d7 => puK d7 (pusK [(.str "bad"), d7] (E.rt (.tup [(.str "bad"), d7]) [o0, o1, o2])))) := by kernel_rfl
/-! ### _law_value -/
def b_law_value : List Stmt := df_law_value.body
theorem b_law_value_eq : b_law_value = [at1 b_law_value 0, at1 b_law_value 1, at1 b_law_value 2] := by kernel_rfl
theorem b_law_value_0 (g : List D → Res) (wf n : Nat) (o0 o1 o2 o3 : Option D) (E : Nx) : st1 g wf n df_law_value 59 (at1 b_law_value 0) [o0, o1, o2, o3] E =
  getS o0 fun d4 => getS o0 fun d1 => onRet (cl g wf n "_law_draw" [d1, (.int 6)]) (fun r2 f3 => E.nx [unlend d1 f3[0]?, o1, some r2, o3]) exX := by kernel_rfl
theorem b_law_value_1 (g : List D → Res) (wf n : Nat) (o0 o1 o2 o3 : Option D) (E : Nx) : st1 g wf n df_law_value 58 (at1 b_law_value 1) [o0, o1, o2, o3] E =
  getS o2 fun d1 => dLt d1 (.int 3) fun c2 => (match c2 with | true => getS o1 fun d3 => dLt (.int 0) d3 fun c4 => (match c4 with | true => stL g wf n df_law_value 58 (ifT (at1 b_law_value 1)) [o0, o1, o2, o3] E | false => stL g wf n df_law_value 58 (ifF (at1 b_law_value 1)) [o0, o1, o2, o3] E) | false => (match false with | true => stL g wf n df_law_value 58 (ifT (at1 b_law_value 1)) [o0, o1, o2, o3] E | false => stL g wf n df_law_value 58 (ifF (at1 b_law_value 1)) [o0, o1, o2, o3] E)) := by kernel_rfl
def b_law_value_1t : List Stmt := ifT (at1 b_law_value 1)
theorem b_law_value_1t_eq : b_law_value_1t = [at1 b_law_value_1t 0] := by kernel_rfl
def b_law_value_1t_0_lc1_e : Expr := lcAt 0 (at1 b_law_value_1t 0)
def b_law_value_1t_0_lc1 (g : List D → Res) (wf n : Nat) : D → TI.Env → (Option D → TI.Env → Res) → Res := lcs g wf n df_law_value 54 b_law_value_1t_0_lc1_e
theorem b_law_value_1t_0_lc1_x (g : List D → Res) (wf n : Nat) (x : D) (o0 o1 o2 o3 : Option D) (k2 : Option D → TI.Env → Res) : b_law_value_1t_0_lc1 g wf n x [o0, o1, o2, o3] k2 =
  getS o0 fun d6 => getS o1 fun d1 => dSub d1 (.int 1) fun z2 => getS o0 fun d3 => onRet (cl g wf n "_law_value" [d3, z2]) (fun r4 f5 => k2 (some r4) [unlend d3 f5[0]?, o1, o2, some x]) xst := by kernel_rfl
theorem b_law_value_1t_0 (g : List D → Res) (wf n : Nat) (o0 o1 o2 o3 : Option D) (E : Nx) : st1 g wf n df_law_value 57 (at1 b_law_value_1t 0) [o0, o1, o2, o3] E =
  getS o0 fun d8 => getS o0 fun d1 => onRet (cl g wf n "_law_draw" [d1, (.int 4)]) (fun r2 f3 => asIK r2 fun i4 => ckK (smallI i4) (ckK (hidOk [unlend d1 f3[0]?, o1, o2, o3] [3]) (lcC (b_law_value_1t_0_lc1 g wf n) (rngL 0 (i4 : Int).toNat) [] [unlend d1 f3[0]?, o1, o2, none] fun a5 r6 => dTup (.lst a5) fun z7 => E.rt z7 (wipeB r6 [unlend d1 f3[0]?, o1, o2, o3] [3])))) exX := by kernel_rfl
theorem b_law_value_2 (g : List D → Res) (wf n : Nat) (o0 o1 o2 o3 : Option D) (E : Nx) : st1 g wf n df_law_value 57 (at1 b_law_value 2) [o0, o1, o2, o3] E =
  dNeg (.int 7) fun z1 => getS o0 fun d8 => getS o0 fun d2 => onRet (cl g wf n "_law_draw" [d2, (.int 900)]) (fun r3 f4 => dInt 16777216 r3 fun z5 => dMod z5 (.int 11) fun z6 => dIx (.lst [.non, (.bl true), (.bl false), (.int 0), z1, (.int 120), (.str ""), (.str "a\"b"), (.str "x\ny"), (.str "\\"), (.str " (")]) z6 fun z7 => puK z7 (E.rt z7 [unlend d2 f4[0]?, o1, o2, o3])) exX := by kernel_rfl
/-! ### law -/
def b_law : List Stmt := df_law.body
theorem b_law_eq : b_law = [at1 b_law 0, at1 b_law 1, at1 b_law 2] := by kernel_rfl
theorem b_law_0 (g : List D → Res) (wf n : Nat) (o0 o1 o2 o3 o4 o5 o6 o7 o8 : Option D) (E : Nx) : st1 g wf n df_law 59 (at1 b_law 0) [o0, o1, o2, o3, o4, o5, o6, o7, o8] E =
  getS o0 fun d4 => getS o0 fun d1 => onRet (cl g wf n "_law_digits" [d1, (.int 0), (.int 63)]) (fun r2 f3 => E.nx [unlend d1 f3[0]?, some (.lst [r2, (.int 0)]), o2, o3, o4, o5, o6, o7, o8]) exX := by kernel_rfl
theorem b_law_1 (g : List D → Res) (wf n : Nat) (o0 o1 o2 o3 o4 o5 o6 o7 o8 : Option D) (E : Nx) : st1 g wf n df_law 58 (at1 b_law 1) [o0, o1, o2, o3, o4, o5, o6, o7, o8] E =
  ckK (smallI 6) (forC (fst g wf n df_law 58 (at1 b_law 1)) (rngL 0 (6 : Int).toNat) [o0, o1, o2, o3, o4, o5, o6, o7, o8] E) := by kernel_rfl
theorem b_law_1x (g : List D → Res) (wf n : Nat) (x : D) (o0 o1 o2 o3 o4 o5 o6 o7 o8 : Option D) (E : Nx) : fst g wf n df_law 58 (at1 b_law 1) x [o0, o1, o2, o3, o4, o5, o6, o7, o8] E =
  stL g wf n df_law 58 (forB (at1 b_law 1)) [o0, o1, some x, o3, o4, o5, o6, o7, o8] E := by kernel_rfl
def b_law_1b : List Stmt := forB (at1 b_law 1)
theorem b_law_1b_eq : b_law_1b = [at1 b_law_1b 0, at1 b_law_1b 1, at1 b_law_1b 2, at1 b_law_1b 3, at1 b_law_1b 4, at1 b_law_1b 5, at1 b_law_1b 6, at1 b_law_1b 7, at1 b_law_1b 8, at1 b_law_1b 9] := by kernel_rfl
theorem b_law_1b_0 (g : List D → Res) (wf n : Nat) (o0 o1 o2 o3 o4 o5 o6 o7 o8 : Option D) (E : Nx) : st1 g wf n df_law 57 (at1 b_law_1b 0) [o0, o1, o2, o3, o4, o5, o6, o7, o8] E =
  getS o1 fun d6 => getS o1 fun d1 => onRet (cl g wf n "_law_value" [d1, (.int 3)]) (fun r2 f3 => onRet (cl g wf n "_law_plain" [r2]) (fun r4 f5 => E.nx [o0, unlend d1 f3[0]?, o2, some r4, o4, o5, o6, o7, o8]) exX) exX := by kernel_rfl
theorem b_law_1b_1 (g : List D → Res) (wf n : Nat) (o0 o1 o2 o3 o4 o5 o6 o7 o8 : Option D) (E : Nx) : st1 g wf n df_law 56 (at1 b_law_1b 1) [o0, o1, o2, o3, o4, o5, o6, o7, o8] E =
  getS o1 fun d10 => getS o1 fun d1 => onRet (cl g wf n "_law_draw" [d1, (.int 900)]) (fun r2 f3 => dInt 16777216 r2 fun z4 => getS o3 fun d9 => getS o3 fun d5 => dLen d5 fun z6 => dAdd z6 (.int 1) fun z7 => dMod z4 z7 fun z8 => E.nx [o0, unlend d1 f3[0]?, o2, o3, some z8, o5, o6, o7, o8]) exX := by kernel_rfl
theorem b_law_1b_2 (g : List D → Res) (wf n : Nat) (o0 o1 o2 o3 o4 o5 o6 o7 o8 : Option D) (E : Nx) : st1 g wf n df_law 55 (at1 b_law_1b 2) [o0, o1, o2, o3, o4, o5, o6, o7, o8] E =
  getS o1 fun d7 => getS o1 fun d1 => onRet (cl g wf n "_law_draw" [d1, (.int 900)]) (fun r2 f3 => dInt 16777216 r2 fun z4 => dMod z4 (.int 17) fun z5 => dIx (.str "()\" TFN-0195\\n\nx~") z5 fun z6 => puK z6 (E.nx [o0, unlend d1 f3[0]?, o2, o3, o4, some z6, o6, o7, o8])) exX := by kernel_rfl
theorem b_law_1b_3 (g : List D → Res) (wf n : Nat) (o0 o1 o2 o3 o4 o5 o6 o7 o8 : Option D) (E : Nx) : st1 g wf n df_law 54 (at1 b_law_1b 3) [o0, o1, o2, o3, o4, o5, o6, o7, o8] E =
  getS o3 fun d1 => puK d1 (getS o4 fun d2 => asIK d2 fun i3 => dSl d1 none (some i3) fun z4 => getS o3 fun d5 => puK d5 (getS o4 fun d6 => asIK d6 fun i7 => dSl d5 none (some i7) fun z8 => getS o3 fun d9 => puK d9 (getS o4 fun d10 => dAdd d10 (.int 1) fun z11 => asIK z11 fun i12 => dSl d9 (some i12) none fun z13 => dAdd z8 z13 fun z14 => getS o3 fun d15 => puK d15 (getS o4 fun d16 => asIK d16 fun i17 => dSl d15 none (some i17) fun z18 => getS o5 fun d19 => dAdd z18 d19 fun z20 => getS o3 fun d21 => puK d21 (getS o4 fun d22 => asIK d22 fun i23 => dSl d21 (some i23) none fun z24 => dAdd z20 z24 fun z25 => getS o3 fun d26 => puK d26 (getS o4 fun d27 => asIK d27 fun i28 => dSl d26 none (some i28) fun z29 => getS o5 fun d30 => dAdd z29 d30 fun z31 => getS o3 fun d32 => puK d32 (getS o4 fun d33 => dAdd d33 (.int 1) fun z34 => asIK z34 fun i35 => dSl d32 (some i35) none fun z36 => dAdd z31 z36 fun z37 => getS o3 fun d38 => getS o5 fun d39 => dAdd d38 d39 fun z40 => E.nx [o0, o1, o2, o3, o4, o5, some (.lst [z4, z14, z25, z37, z40]), o7, o8]))))))) := by kernel_rfl
theorem b_law_1b_4 (g : List D → Res) (wf n : Nat) (o0 o1 o2 o3 o4 o5 o6 o7 o8 : Option D) (E : Nx) : st1 g wf n df_law 53 (at1 b_law_1b 4) [o0, o1, o2, o3, o4, o5, o6, o7, o8] E =
  dMul (.str "1") (.int 2001) fun z1 => dMul (.str "9") (.int 2001) fun z2 => dAdd (.str "-") z2 fun z3 => dMul (.str "(") (.int 41) fun z4 => dMul (.str ")") (.int 41) fun z5 => dAdd z4 z5 fun z6 => dMul (.str "(") (.int 40) fun z7 => dMul (.str ")") (.int 40) fun z8 => dAdd z7 z8 fun z9 => dMul (.str "1") (.int 2000) fun z10 => dMul (.str "9") (.int 2000) fun z11 => dAdd (.str "-") z11 fun z12 => E.nx [o0, o1, o2, o3, o4, o5, o6, some (.lst [z1, z3, z6, z9, (.str "(1  2)"), (.str "(1 )"), (.str "( 1)"), (.str "01"), (.str "-0"), (.str "--1"), (.str "T T"), (.str "\"a"), z10, z12]), o8] := by kernel_rfl
theorem b_law_1b_5 (g : List D → Res) (wf n : Nat) (o0 o1 o2 o3 o4 o5 o6 o7 o8 : Option D) (E : Nx) : st1 g wf n df_law 52 (at1 b_law_1b 5) [o0, o1, o2, o3, o4, o5, o6, o7, o8] E =
  getS o6 fun d1 => getS o7 fun d2 => getS o1 fun d13 => getS o1 fun d3 => onRet (cl g wf n "_law_draw" [d3, (.int 900)]) (fun r4 f5 => dInt 16777216 r4 fun z6 => dMod z6 (.int 8) fun z7 => dAdd (.int 4) z7 fun z8 => getS o7 fun d9 => dIx d9 z8 fun z10 => puK z10 (getS o6 fun d11 => dAdd d11 (.lst [z10]) fun z12 => E.nx [o0, unlend d3 f5[0]?, o2, o3, o4, o5, some z12, o7, o8])) exX := by kernel_rfl
theorem b_law_1b_6 (g : List D → Res) (wf n : Nat) (o0 o1 o2 o3 o4 o5 o6 o7 o8 : Option D) (E : Nx) : st1 g wf n df_law 51 (at1 b_law_1b 6) [o0, o1, o2, o3, o4, o5, o6, o7, o8] E =
  getS o2 fun d1 => dEq d1 (.int 0) fun c2 => (match c2 with | true => stL g wf n df_law 51 (ifT (at1 b_law_1b 6)) [o0, o1, o2, o3, o4, o5, o6, o7, o8] E | false => stL g wf n df_law 51 (ifF (at1 b_law_1b 6)) [o0, o1, o2, o3, o4, o5, o6, o7, o8] E) := by kernel_rfl
def b_law_1b_6t : List Stmt := ifT (at1 b_law_1b 6)
theorem b_law_1b_6t_eq : b_law_1b_6t = [at1 b_law_1b_6t 0] := by kernel_rfl
theorem b_law_1b_6t_0 (g : List D → Res) (wf n : Nat) (o0 o1 o2 o3 o4 o5 o6 o7 o8 : Option D) (E : Nx) : st1 g wf n df_law 50 (at1 b_law_1b_6t 0) [o0, o1, o2, o3, o4, o5, o6, o7, o8] E =
  getS o7 fun d1 => getS o1 fun d13 => getS o1 fun d2 => onRet (cl g wf n "_law_draw" [d2, (.int 900)]) (fun r3 f4 => dInt 16777216 r3 fun z5 => dMod z5 (.int 14) fun z6 => getS o7 fun d7 => dIx d7 z6 fun z8 => puK z8 (getS o6 fun d9 => getS o6 fun d10 => asLK d10 fun l11 => oK (ixN l11.length 5) fun m12 => E.nx [o0, unlend d2 f4[0]?, o2, o3, o4, o5, some (.lst (l11.set m12 z8)), o7, o8])) exX := by kernel_rfl
theorem b_law_1b_7 (g : List D → Res) (wf n : Nat) (o0 o1 o2 o3 o4 o5 o6 o7 o8 : Option D) (E : Nx) : st1 g wf n df_law 50 (at1 b_law_1b 7) [o0, o1, o2, o3, o4, o5, o6, o7, o8] E =
  getS o6 fun d1 => getS o1 fun d7 => getS o1 fun d2 => onRet (cl g wf n "_law_draw" [d2, (.int 6)]) (fun r3 f4 => getS o6 fun d5 => dIx d5 r3 fun z6 => puK z6 (E.nx [o0, unlend d2 f4[0]?, o2, some z6, o4, o5, o6, o7, o8])) exX := by kernel_rfl
theorem b_law_1b_8 (g : List D → Res) (wf n : Nat) (o0 o1 o2 o3 o4 o5 o6 o7 o8 : Option D) (E : Nx) : st1 g wf n df_law 49 (at1 b_law_1b 8) [o0, o1, o2, o3, o4, o5, o6, o7, o8] E =
  getS o3 fun d4 => getS o3 fun d1 => onRet (cl g wf n "_law_read" [d1]) (fun r2 f3 => E.nx [o0, o1, o2, unlend d1 f3[0]?, o4, o5, o6, o7, some r2]) exX := by kernel_rfl
theorem b_law_1b_9 (g : List D → Res) (wf n : Nat) (o0 o1 o2 o3 o4 o5 o6 o7 o8 : Option D) (E : Nx) : st1 g wf n df_law 48 (at1 b_law_1b 9) [o0, o1, o2, o3, o4, o5, o6, o7, o8] E =
  getS o3 fun d9 => getS o3 fun d1 => onRet (cl g wf n "_law_told" [d1]) (fun r2 f3 => getS o8 fun d8 => getS o8 fun d4 => onRet (cl g wf n "_law_same" [r2, d4]) (fun r5 f6 => dTru r5 fun c7 => (match (!c7) with | true => stL g wf n df_law 48 (ifT (at1 b_law_1b 9)) [o0, o1, o2, unlend d1 f3[0]?, o4, o5, o6, o7, unlend d4 f6[1]?] E | false => stL g wf n df_law 48 (ifF (at1 b_law_1b 9)) [o0, o1, o2, unlend d1 f3[0]?, o4, o5, o6, o7, unlend d4 f6[1]?] E)) exX) exX := by kernel_rfl
def b_law_1b_9t : List Stmt := ifT (at1 b_law_1b 9)
theorem b_law_1b_9t_eq : b_law_1b_9t = [at1 b_law_1b_9t 0] := by kernel_rfl
theorem b_law_1b_9t_0 (g : List D → Res) (wf n : Nat) (o0 o1 o2 o3 o4 o5 o6 o7 o8 : Option D) (E : Nx) : st1 g wf n df_law 47 (at1 b_law_1b_9t 0) [o0, o1, o2, o3, o4, o5, o6, o7, o8] E =
  E.rt (.bl false) [o0, o1, o2, o3, o4, o5, o6, o7, o8] := by kernel_rfl
theorem b_law_2 (g : List D → Res) (wf n : Nat) (o0 o1 o2 o3 o4 o5 o6 o7 o8 : Option D) (E : Nx) : st1 g wf n df_law 57 (at1 b_law 2) [o0, o1, o2, o3, o4, o5, o6, o7, o8] E =
  E.rt (.bl true) [o0, o1, o2, o3, o4, o5, o6, o7, o8] := by kernel_rfl
end K29
set_option Elab.async false
set_option linter.all false
set_option maxRecDepth 100000
set_option maxHeartbeats 4000000
/-! the defs of the text, as the evaluator runs them -/
namespace K29
open PySem PySem.Spec PyProof.Rows L2 TI
/-! BODY -/
theorem b_read_plain_q : df_read_plain.body = [at1 b_read_plain 0, at1 b_read_plain 1, at1 b_read_plain 2] := b_read_plain_eq
theorem b_read_plain_1t_q : ifT (at1 b_read_plain 1) = [at1 b_read_plain_1t 0] := b_read_plain_1t_eq
theorem b_value_q : df_value.body = [at1 b_value 0, at1 b_value 1, at1 b_value 2, at1 b_value 3, at1 b_value 4] := b_value_eq
theorem b_value_1t_q : ifT (at1 b_value 1) = [at1 b_value_1t 0] := b_value_1t_eq
theorem b_value_2t_q : ifT (at1 b_value 2) = [at1 b_value_2t 0] := b_value_2t_eq
theorem b_value_3t_q : ifT (at1 b_value 3) = [at1 b_value_3t 0] := b_value_3t_eq
theorem b_members_q : df_members.body = [at1 b_members 0, at1 b_members 1, at1 b_members 2] := b_members_eq
theorem b_members_0t_q : ifT (at1 b_members 0) = [at1 b_members_0t 0] := b_members_0t_eq
theorem b_members_2b_q : whB (at1 b_members 2) = [at1 b_members_2b 0, at1 b_members_2b 1, at1 b_members_2b 2, at1 b_members_2b 3, at1 b_members_2b 4, at1 b_members_2b 5] := b_members_2b_eq
theorem b_members_2b_3t_q : ifT (at1 b_members_2b 3) = [at1 b_members_2b_3t 0] := b_members_2b_3t_eq
theorem b_members_2b_4t_q : ifT (at1 b_members_2b 4) = [at1 b_members_2b_4t 0] := b_members_2b_4t_eq
theorem b_integer_q : df_integer.body = [at1 b_integer 0, at1 b_integer 1, at1 b_integer 2, at1 b_integer 3, at1 b_integer 4, at1 b_integer 5, at1 b_integer 6, at1 b_integer 7, at1 b_integer 8] := b_integer_eq
theorem b_integer_4t_q : ifT (at1 b_integer 4) = [at1 b_integer_4t 0] := b_integer_4t_eq
theorem b_integer_5t_q : ifT (at1 b_integer 5) = [at1 b_integer_5t 0] := b_integer_5t_eq
theorem b_integer_6t_q : ifT (at1 b_integer 6) = [at1 b_integer_6t 0] := b_integer_6t_eq
theorem b_unquoted_q : df_unquoted.body = [at1 b_unquoted 0, at1 b_unquoted 1] := b_unquoted_eq
theorem b_unquoted_1b_q : whB (at1 b_unquoted 1) = [at1 b_unquoted_1b 0, at1 b_unquoted_1b 1, at1 b_unquoted_1b 2, at1 b_unquoted_1b 3, at1 b_unquoted_1b 4, at1 b_unquoted_1b 5, at1 b_unquoted_1b 6, at1 b_unquoted_1b 7, at1 b_unquoted_1b 8] := b_unquoted_1b_eq
theorem b_unquoted_1b_3t_q : ifT (at1 b_unquoted_1b 3) = [at1 b_unquoted_1b_3t 0] := b_unquoted_1b_3t_eq
theorem b_unquoted_1b_4t_q : ifT (at1 b_unquoted_1b 4) = [at1 b_unquoted_1b_4t 0] := b_unquoted_1b_4t_eq
theorem b_unquoted_1b_6t_q : ifT (at1 b_unquoted_1b 6) = [at1 b_unquoted_1b_6t 0] := b_unquoted_1b_6t_eq
theorem b_first_of_q : df_first_of.body = [at1 b_first_of 0, at1 b_first_of 1, at1 b_first_of 2] := b_first_of_eq
theorem b_first_of_1b_q : forB (at1 b_first_of 1) = [at1 b_first_of_1b 0, at1 b_first_of_1b 1] := b_first_of_1b_eq
theorem b_first_of_1b_1t_q : ifT (at1 b_first_of_1b 1) = [at1 b_first_of_1b_1t 0] := b_first_of_1b_1t_eq
theorem b_law_cell_q : df_law_cell.body = [at1 b_law_cell 0, at1 b_law_cell 1] := b_law_cell_eq
theorem b_law_cell_0t_q : ifT (at1 b_law_cell 0) = [at1 b_law_cell_0t 0] := b_law_cell_0t_eq
theorem b_law_digits_q : df_law_digits.body = [at1 b_law_digits 0, at1 b_law_digits 1, at1 b_law_digits 2] := b_law_digits_eq
theorem b_law_digits_1b_q : forB (at1 b_law_digits 1) = [at1 b_law_digits_1b 0, at1 b_law_digits_1b 1, at1 b_law_digits_1b 2, at1 b_law_digits_1b 3] := b_law_digits_1b_eq
theorem b_law_digits_1b_0t_q : ifT (at1 b_law_digits_1b 0) = [at1 b_law_digits_1b_0t 0] := b_law_digits_1b_0t_eq
theorem b_law_digits_1b_2t_q : ifT (at1 b_law_digits_1b 2) = [at1 b_law_digits_1b_2t 0] := b_law_digits_1b_2t_eq
theorem b_law_digits_1b_3t_q : ifT (at1 b_law_digits_1b 3) = [at1 b_law_digits_1b_3t 0] := b_law_digits_1b_3t_eq
theorem b_law_digits_1b_3t_0b_q : forB (at1 b_law_digits_1b_3t 0) = [at1 b_law_digits_1b_3t_0b 0] := b_law_digits_1b_3t_0b_eq
theorem b_law_digits_1b_3t_0b_0t_q : ifT (at1 b_law_digits_1b_3t_0b 0) = [at1 b_law_digits_1b_3t_0b_0t 0, at1 b_law_digits_1b_3t_0b_0t 1] := b_law_digits_1b_3t_0b_0t_eq
theorem b_law_digits_1b_3f_q : ifF (at1 b_law_digits_1b 3) = [at1 b_law_digits_1b_3f 0, at1 b_law_digits_1b_3f 1] := b_law_digits_1b_3f_eq
theorem b_law_digits_1b_3f_1b_q : forB (at1 b_law_digits_1b_3f 1) = [at1 b_law_digits_1b_3f_1b 0, at1 b_law_digits_1b_3f_1b 1] := b_law_digits_1b_3f_1b_eq
theorem b_law_draw_q : df_law_draw.body = [at1 b_law_draw 0, at1 b_law_draw 1, at1 b_law_draw 2, at1 b_law_draw 3] := b_law_draw_eq
theorem b_law_draw_2t_q : ifT (at1 b_law_draw 2) = [at1 b_law_draw_2t 0] := b_law_draw_2t_eq
theorem b_law_same_q : df_law_same.body = [at1 b_law_same 0, at1 b_law_same 1, at1 b_law_same 2, at1 b_law_same 3, at1 b_law_same 4, at1 b_law_same 5] := b_law_same_eq
theorem b_law_same_0t_q : ifT (at1 b_law_same 0) = [at1 b_law_same_0t 0, at1 b_law_same_0t 1, at1 b_law_same_0t 2] := b_law_same_0t_eq
theorem b_law_same_0t_0t_q : ifT (at1 b_law_same_0t 0) = [at1 b_law_same_0t_0t 0] := b_law_same_0t_0t_eq
theorem b_law_same_0t_1b_q : forB (at1 b_law_same_0t 1) = [at1 b_law_same_0t_1b 0] := b_law_same_0t_1b_eq
theorem b_law_same_0t_1b_0t_q : ifT (at1 b_law_same_0t_1b 0) = [at1 b_law_same_0t_1b_0t 0] := b_law_same_0t_1b_0t_eq
theorem b_law_same_1t_q : ifT (at1 b_law_same 1) = [at1 b_law_same_1t 0] := b_law_same_1t_eq
theorem b_law_same_2t_q : ifT (at1 b_law_same 2) = [at1 b_law_same_2t 0] := b_law_same_2t_eq
theorem b_law_same_3t_q : ifT (at1 b_law_same 3) = [at1 b_law_same_3t 0] := b_law_same_3t_eq
theorem b_law_same_4t_q : ifT (at1 b_law_same 4) = [at1 b_law_same_4t 0] := b_law_same_4t_eq
theorem b_law_plain_q : df_law_plain.body = [at1 b_law_plain 0, at1 b_law_plain 1, at1 b_law_plain 2, at1 b_law_plain 3, at1 b_law_plain 4, at1 b_law_plain 5] := b_law_plain_eq
theorem b_law_plain_0t_q : ifT (at1 b_law_plain 0) = [at1 b_law_plain_0t 0] := b_law_plain_0t_eq
theorem b_law_plain_1t_q : ifT (at1 b_law_plain 1) = [at1 b_law_plain_1t 0] := b_law_plain_1t_eq
theorem b_law_plain_2t_q : ifT (at1 b_law_plain 2) = [at1 b_law_plain_2t 0] := b_law_plain_2t_eq
theorem b_law_plain_3t_q : ifT (at1 b_law_plain 3) = [at1 b_law_plain_3t 0] := b_law_plain_3t_eq
theorem b_law_plain_4t_q : ifT (at1 b_law_plain 4) = [at1 b_law_plain_4t 0] := b_law_plain_4t_eq
theorem b_law_text_at_q : df_law_text_at.body = [at1 b_law_text_at 0, at1 b_law_text_at 1, at1 b_law_text_at 2] := b_law_text_at_eq
theorem b_law_text_at_1b_q : forB (at1 b_law_text_at 1) = [at1 b_law_text_at_1b 0, at1 b_law_text_at_1b 1, at1 b_law_text_at_1b 2, at1 b_law_text_at_1b 3] := b_law_text_at_1b_eq
theorem b_law_text_at_1b_0t_q : ifT (at1 b_law_text_at_1b 0) = [at1 b_law_text_at_1b_0t 0] := b_law_text_at_1b_0t_eq
theorem b_law_text_at_1b_2t_q : ifT (at1 b_law_text_at_1b 2) = [at1 b_law_text_at_1b_2t 0] := b_law_text_at_1b_2t_eq
theorem b_law_text_at_1b_3t_q : ifT (at1 b_law_text_at_1b 3) = [at1 b_law_text_at_1b_3t 0, at1 b_law_text_at_1b_3t 1, at1 b_law_text_at_1b_3t 2, at1 b_law_text_at_1b_3t 3] := b_law_text_at_1b_3t_eq
theorem b_law_text_at_1b_3t_0t_q : ifT (at1 b_law_text_at_1b_3t 0) = [at1 b_law_text_at_1b_3t_0t 0] := b_law_text_at_1b_3t_0t_eq
theorem b_law_text_at_1b_3t_1t_q : ifT (at1 b_law_text_at_1b_3t 1) = [at1 b_law_text_at_1b_3t_1t 0] := b_law_text_at_1b_3t_1t_eq
theorem b_law_text_at_1b_3f_q : ifF (at1 b_law_text_at_1b 3) = [at1 b_law_text_at_1b_3f 0] := b_law_text_at_1b_3f_eq
theorem b_law_text_at_1b_3f_0t_q : ifT (at1 b_law_text_at_1b_3f 0) = [at1 b_law_text_at_1b_3f_0t 0] := b_law_text_at_1b_3f_0t_eq
theorem b_law_text_at_1b_3f_0f_q : ifF (at1 b_law_text_at_1b_3f 0) = [at1 b_law_text_at_1b_3f_0f 0, at1 b_law_text_at_1b_3f_0f 1] := b_law_text_at_1b_3f_0f_eq
theorem b_law_digits_at_q : df_law_digits_at.body = [at1 b_law_digits_at 0, at1 b_law_digits_at 1, at1 b_law_digits_at 2, at1 b_law_digits_at 3, at1 b_law_digits_at 4, at1 b_law_digits_at 5, at1 b_law_digits_at 6] := b_law_digits_at_eq
theorem b_law_digits_at_1t_q : ifT (at1 b_law_digits_at 1) = [at1 b_law_digits_at_1t 0] := b_law_digits_at_1t_eq
theorem b_law_digits_at_2t_q : ifT (at1 b_law_digits_at 2) = [at1 b_law_digits_at_2t 0] := b_law_digits_at_2t_eq
theorem b_law_digits_at_3t_q : ifT (at1 b_law_digits_at 3) = [at1 b_law_digits_at_3t 0] := b_law_digits_at_3t_eq
theorem b_law_digits_at_5b_q : forB (at1 b_law_digits_at 5) = [at1 b_law_digits_at_5b 0] := b_law_digits_at_5b_eq
theorem b_law_digits_at_5b_0t_q : ifT (at1 b_law_digits_at_5b 0) = [at1 b_law_digits_at_5b_0t 0, at1 b_law_digits_at_5b_0t 1] := b_law_digits_at_5b_0t_eq
theorem b_law_digits_at_5b_0t_0t_q : ifT (at1 b_law_digits_at_5b_0t 0) = [at1 b_law_digits_at_5b_0t_0t 0] := b_law_digits_at_5b_0t_0t_eq
theorem b_law_value_at_q : df_law_value_at.body = [at1 b_law_value_at 0, at1 b_law_value_at 1, at1 b_law_value_at 2, at1 b_law_value_at 3, at1 b_law_value_at 4, at1 b_law_value_at 5, at1 b_law_value_at 6, at1 b_law_value_at 7, at1 b_law_value_at 8, at1 b_law_value_at 9, at1 b_law_value_at 10] := b_law_value_at_eq
theorem b_law_value_at_0t_q : ifT (at1 b_law_value_at 0) = [at1 b_law_value_at_0t 0] := b_law_value_at_0t_eq
theorem b_law_value_at_2t_q : ifT (at1 b_law_value_at 2) = [at1 b_law_value_at_2t 0] := b_law_value_at_2t_eq
theorem b_law_value_at_3t_q : ifT (at1 b_law_value_at 3) = [at1 b_law_value_at_3t 0] := b_law_value_at_3t_eq
theorem b_law_value_at_4t_q : ifT (at1 b_law_value_at 4) = [at1 b_law_value_at_4t 0] := b_law_value_at_4t_eq
theorem b_law_value_at_5t_q : ifT (at1 b_law_value_at 5) = [at1 b_law_value_at_5t 0] := b_law_value_at_5t_eq
theorem b_law_value_at_8t_q : ifT (at1 b_law_value_at 8) = [at1 b_law_value_at_8t 0] := b_law_value_at_8t_eq
theorem b_law_value_at_9b_q : forB (at1 b_law_value_at 9) = [at1 b_law_value_at_9b 0, at1 b_law_value_at_9b 1, at1 b_law_value_at_9b 2, at1 b_law_value_at_9b 3, at1 b_law_value_at_9b 4, at1 b_law_value_at_9b 5, at1 b_law_value_at_9b 6] := b_law_value_at_9b_eq
theorem b_law_value_at_9b_1t_q : ifT (at1 b_law_value_at_9b 1) = [at1 b_law_value_at_9b_1t 0] := b_law_value_at_9b_1t_eq
theorem b_law_value_at_9b_3t_q : ifT (at1 b_law_value_at_9b 3) = [at1 b_law_value_at_9b_3t 0] := b_law_value_at_9b_3t_eq
theorem b_law_value_at_9b_4t_q : ifT (at1 b_law_value_at_9b 4) = [at1 b_law_value_at_9b_4t 0] := b_law_value_at_9b_4t_eq
theorem b_law_value_at_9b_5t_q : ifT (at1 b_law_value_at_9b 5) = [at1 b_law_value_at_9b_5t 0] := b_law_value_at_9b_5t_eq
theorem b_law_read_q : df_law_read.body = [at1 b_law_read 0, at1 b_law_read 1, at1 b_law_read 2] := b_law_read_eq
theorem b_law_read_1t_q : ifT (at1 b_law_read 1) = [at1 b_law_read_1t 0] := b_law_read_1t_eq
theorem b_law_value_q : df_law_value.body = [at1 b_law_value 0, at1 b_law_value 1, at1 b_law_value 2] := b_law_value_eq
theorem b_law_value_1t_q : ifT (at1 b_law_value 1) = [at1 b_law_value_1t 0] := b_law_value_1t_eq
theorem b_law_q : df_law.body = [at1 b_law 0, at1 b_law 1, at1 b_law 2] := b_law_eq
theorem b_law_1b_q : forB (at1 b_law 1) = [at1 b_law_1b 0, at1 b_law_1b 1, at1 b_law_1b 2, at1 b_law_1b 3, at1 b_law_1b 4, at1 b_law_1b 5, at1 b_law_1b 6, at1 b_law_1b 7, at1 b_law_1b 8, at1 b_law_1b 9] := b_law_1b_eq
theorem b_law_1b_6t_q : ifT (at1 b_law_1b 6) = [at1 b_law_1b_6t 0] := b_law_1b_6t_eq
theorem b_law_1b_9t_q : ifT (at1 b_law_1b 9) = [at1 b_law_1b_9t 0] := b_law_1b_9t_eq
theorem b_first_of_1b_1f_q : ifF (at1 b_first_of_1b 1) = [] := by kernel_rfl
theorem b_integer_4f_q : ifF (at1 b_integer 4) = [] := by kernel_rfl
theorem b_integer_5f_q : ifF (at1 b_integer 5) = [] := by kernel_rfl
theorem b_integer_6f_q : ifF (at1 b_integer 6) = [] := by kernel_rfl
theorem b_law_1b_6f_q : ifF (at1 b_law_1b 6) = [] := by kernel_rfl
theorem b_law_1b_9f_q : ifF (at1 b_law_1b 9) = [] := by kernel_rfl
theorem b_law_cell_0f_q : ifF (at1 b_law_cell 0) = [] := by kernel_rfl
theorem b_law_digits_1b_0f_q : ifF (at1 b_law_digits_1b 0) = [] := by kernel_rfl
theorem b_law_digits_1b_2f_q : ifF (at1 b_law_digits_1b 2) = [] := by kernel_rfl
theorem b_law_digits_1b_3t_0b_0f_q : ifF (at1 b_law_digits_1b_3t_0b 0) = [] := by kernel_rfl
theorem b_law_digits_at_1f_q : ifF (at1 b_law_digits_at 1) = [] := by kernel_rfl
theorem b_law_digits_at_2f_q : ifF (at1 b_law_digits_at 2) = [] := by kernel_rfl
theorem b_law_digits_at_3f_q : ifF (at1 b_law_digits_at 3) = [] := by kernel_rfl
theorem b_law_digits_at_5b_0f_q : ifF (at1 b_law_digits_at_5b 0) = [] := by kernel_rfl
theorem b_law_digits_at_5b_0t_0f_q : ifF (at1 b_law_digits_at_5b_0t 0) = [] := by kernel_rfl
theorem b_law_draw_2f_q : ifF (at1 b_law_draw 2) = [] := by kernel_rfl
theorem b_law_plain_0f_q : ifF (at1 b_law_plain 0) = [] := by kernel_rfl
theorem b_law_plain_1f_q : ifF (at1 b_law_plain 1) = [] := by kernel_rfl
theorem b_law_plain_2f_q : ifF (at1 b_law_plain 2) = [] := by kernel_rfl
theorem b_law_plain_3f_q : ifF (at1 b_law_plain 3) = [] := by kernel_rfl
theorem b_law_plain_4f_q : ifF (at1 b_law_plain 4) = [] := by kernel_rfl
theorem b_law_read_1f_q : ifF (at1 b_law_read 1) = [] := by kernel_rfl
theorem b_law_same_0f_q : ifF (at1 b_law_same 0) = [] := by kernel_rfl
theorem b_law_same_1f_q : ifF (at1 b_law_same 1) = [] := by kernel_rfl
theorem b_law_same_2f_q : ifF (at1 b_law_same 2) = [] := by kernel_rfl
theorem b_law_same_3f_q : ifF (at1 b_law_same 3) = [] := by kernel_rfl
theorem b_law_same_4f_q : ifF (at1 b_law_same 4) = [] := by kernel_rfl
theorem b_law_same_0t_0f_q : ifF (at1 b_law_same_0t 0) = [] := by kernel_rfl
theorem b_law_same_0t_1b_0f_q : ifF (at1 b_law_same_0t_1b 0) = [] := by kernel_rfl
theorem b_law_text_at_1b_0f_q : ifF (at1 b_law_text_at_1b 0) = [] := by kernel_rfl
theorem b_law_text_at_1b_2f_q : ifF (at1 b_law_text_at_1b 2) = [] := by kernel_rfl
theorem b_law_text_at_1b_3t_0f_q : ifF (at1 b_law_text_at_1b_3t 0) = [] := by kernel_rfl
theorem b_law_text_at_1b_3t_1f_q : ifF (at1 b_law_text_at_1b_3t 1) = [] := by kernel_rfl
theorem b_law_value_1f_q : ifF (at1 b_law_value 1) = [] := by kernel_rfl
theorem b_law_value_at_0f_q : ifF (at1 b_law_value_at 0) = [] := by kernel_rfl
theorem b_law_value_at_2f_q : ifF (at1 b_law_value_at 2) = [] := by kernel_rfl
theorem b_law_value_at_3f_q : ifF (at1 b_law_value_at 3) = [] := by kernel_rfl
theorem b_law_value_at_4f_q : ifF (at1 b_law_value_at 4) = [] := by kernel_rfl
theorem b_law_value_at_5f_q : ifF (at1 b_law_value_at 5) = [] := by kernel_rfl
theorem b_law_value_at_8f_q : ifF (at1 b_law_value_at 8) = [] := by kernel_rfl
theorem b_law_value_at_9b_1f_q : ifF (at1 b_law_value_at_9b 1) = [] := by kernel_rfl
theorem b_law_value_at_9b_3f_q : ifF (at1 b_law_value_at_9b 3) = [] := by kernel_rfl
theorem b_law_value_at_9b_4f_q : ifF (at1 b_law_value_at_9b 4) = [] := by kernel_rfl
theorem b_law_value_at_9b_5f_q : ifF (at1 b_law_value_at_9b 5) = [] := by kernel_rfl
theorem b_members_0f_q : ifF (at1 b_members 0) = [] := by kernel_rfl
theorem b_members_2b_3f_q : ifF (at1 b_members_2b 3) = [] := by kernel_rfl
theorem b_members_2b_4f_q : ifF (at1 b_members_2b 4) = [] := by kernel_rfl
theorem b_read_plain_1f_q : ifF (at1 b_read_plain 1) = [] := by kernel_rfl
theorem b_unquoted_1b_3f_q : ifF (at1 b_unquoted_1b 3) = [] := by kernel_rfl
theorem b_unquoted_1b_4f_q : ifF (at1 b_unquoted_1b 4) = [] := by kernel_rfl
theorem b_unquoted_1b_6f_q : ifF (at1 b_unquoted_1b 6) = [] := by kernel_rfl
theorem b_value_1f_q : ifF (at1 b_value 1) = [] := by kernel_rfl
theorem b_value_2f_q : ifF (at1 b_value 2) = [] := by kernel_rfl
theorem b_value_3f_q : ifF (at1 b_value 3) = [] := by kernel_rfl
end K29
set_option Elab.async false
set_option linter.all false
set_option maxRecDepth 100000
set_option maxHeartbeats 4000000
/-! the defs of the text, as the evaluator runs them -/
namespace K29
open PySem PySem.Spec PyProof.Rows L2 TI
/-! BODY -/
/-! ### small laws -/
abbrev emp : Str := ⟨#[]⟩
def sg (x : Str) (p : Nat) : Str := match (Ls x)[p]? with
  | some c => one c
  | none => emp
theorem sg_some {x : Str} {p c : Nat} (h : (Ls x)[p]? = some c) : sg x p = one c := by unfold sg; rw [h]
theorem sg_none {x : Str} {p : Nat} (h : x.length ≤ p) : sg x p = emp := by
  unfold sg
  rw [List.getElem?_eq_none (by rw [Ls_len]; exact h)]
theorem cs_sg (x : Str) (p : Nat) : cutS x (some (p : Int)) (some ((p + 1 : Nat) : Int)) = sg x p := by
  rcases Nat.lt_or_ge p x.length with h | h
  · have hl : p < (Ls x).length := by rw [Ls_len]; exact h
    have e : Ls x = (Ls x).take p ++ (Ls x)[p] :: (Ls x).drop (p + 1) := by
      rw [← List.drop_eq_getElem_cons hl, List.take_append_drop]
    have hp : ((Ls x).take p).length = p := by rw [List.length_take]; omega
    have := cut_one e
    rw [hp] at this
    rw [sg_some (List.getElem?_eq_getElem hl)]
    exact this
  · rw [sg_none h]
    exact cut_end h
theorem ck_true (r : Res) : ckK true r = r := rfl
theorem asI_i (i : Int) (k : Int → Res) : asIK (.int i) k = k i := rfl
theorem asL_l (l : List D) (k : List D → Res) : asLK (.lst l) k = k l := rfl
theorem add_ii (a b : Int) (k : D → Res) : dAdd (.int a) (.int b) k = k (.int (a + b)) := rfl
theorem add_ss (a b : Str) (k : D → Res) : dAdd (.str a) (.str b) k = ckK (decide (a.length + b.length ≤ szLine)) (k (.str (a ++ b))) := rfl
theorem add_tt (a b : List D) (k : D → Res) : dAdd (.tup a) (.tup b) k = ckK (decide (a.length + b.length ≤ szLine)) (k (.tup (a ++ b))) := rfl
theorem sub_ii (a b : Int) (k : D → Res) : dSub (.int a) (.int b) k = k (.int (a - b)) := rfl
theorem neg_i (a : Int) (k : D → Res) : dNeg (.int a) k = k (.int (-a)) := rfl
theorem sl_s (x : Str) (lo hi : Option Int) (k : D → Res) : dSl (.str x) lo hi k = ckK (decide (x.length ≤ szLine)) (k (.str (cutS x lo hi))) := rfl
theorem len_s (x : Str) (k : D → Res) : dLen (.str x) k = ckK (decide (x.length ≤ szLine)) (k (.int ((x.length : Nat) : Int))) := rfl
theorem eq_ss (a b : Str) (k : Bool → Res) : dEq (.str a) (.str b) k = k (decide (a = b)) := rfl
theorem eq_ii (a b : Int) (k : Bool → Res) : dEq (.int a) (.int b) k = k (decide (a = b)) := rfl
theorem lt_ii (a b : Int) (k : Bool → Res) : dLt (.int a) (.int b) k = k (decide (a < b)) := rfl
theorem lt_ss (a b : Str) (k : Bool → Res) : dLt (.str a) (.str b) k = k (decide (Ls a < Ls b)) := rfl
theorem le_ii (a b : Int) (k : Bool → Res) : dLe (.int a) (.int b) k = k (decide (a ≤ b)) := rfl
theorem tru_b (b : Bool) (k : Bool → Res) : dTru (.bl b) k = k b := rfl
theorem ord_o (c : Nat) (k : D → Res) : dOrd (.str (one c)) k = k (.int (c : Int)) := rfl
theorem in_o (c : Nat) (z : Str) (k : Bool → Res) : dIn (.str (one c)) (.str z) k = k (decide (c ∈ Ls z)) := rfl
theorem int_b (l : Nat) (b : Bool) (k : D → Res) : dInt l (.bl b) k = k (.int (if b then 1 else 0)) := rfl
theorem int_i (l : Nat) (i : Int) (k : D → Res) : dInt l (.int i) k = k (.int i) := rfl
theorem pu_i (i : Int) (r : Res) : puK (.int i) r = r := rfl
theorem pu_s (i : Str) (r : Res) : puK (.str i) r = r := rfl
theorem pu_b (i : Bool) (r : Res) : puK (.bl i) r = r := rfl
theorem pu_t (i : List D) (r : Res) : puK (.tup i) r = r := rfl
theorem pu_n (r : Res) : puK .non r = r := rfl
theorem puK_t {d : D} (h : d.pu = true) (r : Res) : puK d r = r := by unfold puK; rw [h]
theorem pusK_t {d : List D} (h : D.pus d = true) (r : Res) : pusK d r = r := by unfold pusK; rw [h]
theorem pus_1 {d : D} (h : d.pu = true) (r : Res) : pusK [d] r = r := pusK_t (by show (d.pu && true) = true; rw [h]; rfl) r
theorem pus_2i {d : D} (h : d.pu = true) (i : Int) (r : Res) : pusK [d, .int i] r = r := pusK_t (by show (d.pu && true) = true; rw [h]; rfl) r
theorem pus_i (i : Int) (r : Res) : pusK [.int i] r = r := rfl
theorem pus_si (x : Str) (i : Int) (r : Res) : pusK [.str x, .int i] r = r := rfl
theorem pus_ii (x : Int) (i : Int) (r : Res) : pusK [.int x, .int i] r = r := rfl
theorem pus_ti (x : List D) (i : Int) (r : Res) : pusK [.tup x, .int i] r = r := rfl
theorem aug_i (a b : Int) (k : D → Res) : augD .Add (.int a) (.int b) k = k (.int (a + b)) := rfl
theorem asS_s (x : Str) (k : Str → Res) : oK (asS [.str x]) k = k x := rfl
theorem asSII_s (x : Str) (i j : Int) (k : Str × Int × Int → Res) : oK (asSII [.str x, .int i, .int j]) k = k (x, i, j) := rfl
theorem unl_s (x : Str) (o : Option (Option D)) : unlend (.str x) o = some (.str x) := rfl
theorem unl_i (x : Int) (o : Option (Option D)) : unlend (.int x) o = some (.int x) := rfl
theorem unlend_t {d : D} (h : d.pu = true) (o : Option (Option D)) : unlend d o = some d := by unfold unlend; rw [h]
theorem nat1 (p : Nat) : (p : Int) + 1 = ((p + 1 : Nat) : Int) := rfl
theorem nat2 (p : Nat) : (p : Int) + 2 = ((p + 2 : Nat) : Int) := rfl
theorem leI (a b : Nat) : ((a : Int) ≤ (b : Int)) = (a ≤ b) := propext Int.ofNat_le
theorem ltI (a b : Nat) : ((a : Int) < (b : Int)) = (a < b) := propext Int.ofNat_lt
theorem eqI (a b : Nat) : ((a : Int) = (b : Int)) = (a = b) := propext Int.ofNat_inj
theorem szl (x : Str) (hz : x.length ≤ szLine) : decide (x.length ≤ szLine) = true := decide_eq_true hz
theorem one_inj {a b : Nat} : (one a = one b) ↔ a = b := by
  constructor
  · intro h
    have := congrArg (fun s : Str => s.cps[0]?) h
    simpa [one] using this
  · rintro rfl; rfl
theorem c34 : (("\"" : Str)) = one 34 := by decide +kernel
theorem c92 : (("\\" : Str)) = one 92 := by decide +kernel
theorem c10 : (("\n" : Str)) = one 10 := by decide +kernel
theorem c110 : (("n" : Str)) = one 110 := by decide +kernel
theorem c41 : ((")" : Str)) = one 41 := by decide +kernel
theorem c40 : (("(" : Str)) = one 40 := by decide +kernel
theorem c32 : ((" " : Str)) = one 32 := by decide +kernel
theorem c126 : (("~" : Str)) = one 126 := by decide +kernel
theorem c45 : (("-" : Str)) = one 45 := by decide +kernel
theorem c48 : (("0" : Str)) = one 48 := by decide +kernel
theorem cT : (("T" : Str)) = one 84 := by decide +kernel
theorem cF : (("F" : Str)) = one 70 := by decide +kernel
theorem cN : (("N" : Str)) = one 78 := by decide +kernel
theorem c1 : (("1" : Str)) = one 49 := by decide +kernel
theorem c9 : (("9" : Str)) = one 57 := by decide +kernel
theorem cemp : (("" : Str)) = emp := by decide +kernel
theorem e_o (a b : Nat) : (one a = one b) = (a = b) := propext one_inj
theorem e_e (b : Nat) : (emp = one b) = False := by
  refine eq_false fun h => ?_
  have : (0 : Nat) = 1 := congrArg (fun s : Str => s.cps.size) h
  cases this
theorem ix_sg {x : Str} {p : Nat} (h : p < x.length) (hz : x.length ≤ szLine) (k : D → Res) : dIx (.str x) (.int (p : Int)) k = k (.str (sg x p)) := by
  show ckK (decide (x.length ≤ szLine)) (match atI x.cps.toList (p : Int) with | some c => k (.str ⟨#[c]⟩) | none => .stuck) = _
  have hl : p < (Ls x).length := by rw [Ls_len]; exact h
  have e : atI (Ls x) (p : Int) = some ((Ls x)[p]) := by
    unfold atI ixN
    rw [if_pos (by omega), if_pos (by omega)]
    show (Ls x)[((p : Int)).toNat]? = _
    rw [Int.toNat_natCast, List.getElem?_eq_getElem hl]
  rw [szl x hz, ck_true, show atI x.cps.toList (p : Int) = _ from e, sg_some (List.getElem?_eq_getElem hl)]
  rfl
theorem forC_cons (step : D → TI.Env → Nx → Res) (d : D) (ds : List D) (ρ : TI.Env) (E : Nx) : forC step (d :: ds) ρ E = step d ρ { nx := fun ρ1 => forC step ds ρ1 E, bk := E.nx, ct := fun ρ1 => forC step ds ρ1 E, rt := E.rt } := rfl
theorem forC_nil (step : D → TI.Env → Nx → Res) (ρ : TI.Env) (E : Nx) : forC step [] ρ E = E.nx ρ := rfl
theorem rngL_nat (n : Nat) : rngL 0 n = (List.range' 0 n).map fun (i : Nat) => D.int (i : Int) := by
  unfold rngL
  rw [List.range_eq_range']
  refine List.map_congr_left fun i _ => ?_
  rw [Int.zero_add]
theorem drop_get {L r : List Nat} {p c : Nat} (h : L.drop p = c :: r) : L[p]? = some c ∧ L.drop (p + 1) = r ∧ p < L.length := by
  have hl : p < L.length := by
    rcases Nat.lt_or_ge p L.length with q | q
    · exact q
    · rw [List.drop_of_length_le q] at h; cases h
  rw [List.drop_eq_getElem_cons hl] at h
  injection h with h1 h2
  exact ⟨by rw [List.getElem?_eq_getElem hl, h1], h2, hl⟩
theorem drop_nil {L : List Nat} {p : Nat} (h : L.drop p = []) : L.length ≤ p := List.drop_eq_nil_iff.mp h
theorem bnot_t : (!true) = false := rfl
theorem bnot_f : (!false) = true := rfl
/-! ### a quoted text -/
inductive TQ | ok (cs : List Nat) (k : Nat) | no (k : Nat)
def TQ.sh (cs : List Nat) (m : Nat) : TQ → TQ
  | .ok ds k => .ok (cs ++ ds) (k + m)
  | .no k => .no (k + m)
def unE (b : Nat) : Nat := if b = 110 then 10 else b
def tq : List Nat → TQ
  | [] => .no 0
  | c :: r => if c = 34 then .ok [] 1 else if c = 92 then (match r with
      | [] => .no 1
      | b :: r2 => if b = 92 ∨ b = 34 ∨ b = 110 then (tq r2).sh [unE b] 2 else .no 1)
    else if c = 10 then .no 0 else (tq r).sh [c] 1
def Alp (x : Str) : Prop := ∀ c ∈ Ls x, c = 10 ∨ (32 ≤ c ∧ c ≤ 126 ∧ c ≠ 37)
/-- what the law's reader says of a text -/
def LT (p : Nat) (fs : List Nat) : TQ → D
  | .ok cs k => .lst [.str ⟨(fs ++ cs).toArray⟩, .int ((p + k : Nat) : Int)]
  | .no k => .lst [.int ((p + k : Nat) : Int), .int (-1)]
theorem LT_sh (p m : Nat) (fs cs : List Nat) (t : TQ) : LT (p + m) (fs ++ cs) t = LT p fs (t.sh cs m) := by
  cases t with
  | ok ds k => unfold TQ.sh LT; dsimp only; rw [List.append_assoc, show p + m + k = p + (k + m) from by omega]
  | no k => unfold TQ.sh LT; dsimp only; rw [show p + m + k = p + (k + m) from by omega]
theorem mk_app (fs : List Nat) (c : Nat) : ((⟨fs.toArray⟩ : Str) ++ one c) = ⟨(fs ++ [c]).toArray⟩ := by
  apply Str_ext
  rw [Ls_append]
  show (fs.toArray).toList ++ [c] = ((fs ++ [c]).toArray).toList
  simp
theorem mk_len (fs : List Nat) : (⟨fs.toArray⟩ : Str).length = fs.length := by rw [← Ls_len]
theorem esc_get (b : Nat) (h : b = 92 ∨ b = 34 ∨ b = 110) : (dctGet [(.inr ("n" : Str))] [(.str ("\n" : Str))] (.inr (one b))).getD (.str (one b)) = .str (one (unE b)) := by
  unfold dctGet
  rw [show decide ((Sum.inr ("n" : Str) : Key) = .inr (one b)) = decide (b = 110) from by rcases h with rfl | rfl | rfl <;> decide +kernel]
  rcases h with rfl | rfl | rfl <;> rfl
theorem in_esc (b : Nat) : (b ∈ Ls ("\\\"n" : Str)) = (b = 92 ∨ b = 34 ∨ b = 110) := by
  rw [show Ls ("\\\"n" : Str) = [92, 34, 110] from by decide +kernel]
  simp
theorem lt_sp (c : Nat) : (Ls (one c) < Ls (one 32)) = (c < 32) := by
  refine propext ?_
  show [c] < [32] ↔ _
  simp [List.cons_lt_cons_iff]
theorem lt_ti (c : Nat) : (Ls (one 126) < Ls (one c)) = (126 < c) := by
  refine propext ?_
  show [126] < [c] ↔ _
  simp [List.cons_lt_cons_iff]
end K29
set_option Elab.async false
set_option linter.all false
set_option maxRecDepth 100000
set_option maxHeartbeats 4000000
/-! the defs of the text, as the evaluator runs them -/
namespace K29
open PySem PySem.Spec PyProof.Rows L2 TI
/-! BODY -/
/-! the law's reader of a quoted text -/
theorem lt_step (g : List D → Res) (wf n : Nat) (x : Str) (hz : x.length ≤ szLine) (hA : Alp x) (p : Nat) (fs : List Nat) (hf : fs.length + 1 ≤ szLine) (d : D) (o3 o4 : Option D) (E : Nx) (c : Nat) (hc : (Ls x)[p]? = some c) (h34 : c ≠ 34) (h92 : c ≠ 92) (h10 : c ≠ 10) :
    ∃ o4', fst g wf n df_law_text_at 58 (at1 b_law_text_at 1) d [some (.str x), some (.int p), some (.str ⟨fs.toArray⟩), o3, o4] E = E.nx [some (.str x), some (.int ((p + 1 : Nat) : Int)), some (.str ⟨(fs ++ [c]).toArray⟩), some d, o4'] := by
  have hp : p < x.length := by rw [← Ls_len]; exact (List.getElem?_eq_some_iff.mp hc).1
  have hsg := sg_some hc
  have hp' : ¬ x.length ≤ p := by omega
  have hal := hA c (List.mem_of_getElem? hc)
  have h32 : ¬ c < 32 := by omega
  have h126 : ¬ 126 < c := by omega
  have h37 : ¬ c = 37 := by omega
  have h37' : ((c : Int) = 37) = False := eq_false (by omega)
  have hl1 : (one c).length = 1 := rfl
  refine ⟨some (.str (one c)), ?_⟩
  simp only [b_law_text_at_q, b_law_text_at_1b_q, b_law_text_at_1b_0t_q, b_law_text_at_1b_2t_q, b_law_text_at_1b_3t_q, b_law_text_at_1b_3t_0t_q, b_law_text_at_1b_3t_1t_q, b_law_text_at_1b_3f_q, b_law_text_at_1b_3f_0t_q, b_law_text_at_1b_3f_0f_q, b_law_text_at_1b_0f_q, b_law_text_at_1b_2f_q, b_law_text_at_1b_3t_0f_q, b_law_text_at_1b_3t_1f_q, b_law_text_at_0, b_law_text_at_1, b_law_text_at_1x, b_law_text_at_1b_0, b_law_text_at_1b_0t_0, b_law_text_at_1b_1, b_law_text_at_1b_2, b_law_text_at_1b_2t_0, b_law_text_at_1b_3, b_law_text_at_1b_3t_0, b_law_text_at_1b_3t_0t_0, b_law_text_at_1b_3t_1, b_law_text_at_1b_3t_1t_0, b_law_text_at_1b_3t_2, b_law_text_at_1b_3t_3, b_law_text_at_1b_3f_0, b_law_text_at_1b_3f_0t_0, b_law_text_at_1b_3f_0f_0, b_law_text_at_1b_3f_0f_1, b_law_text_at_2, stL_cons, stL_nil, getS_some, ck_true, asI_i, add_ii, add_ss, neg_i, len_s, eq_ss, eq_ii, lt_ss, le_ii, pu_i, pu_s, ord_o, in_o, szl x hz, ix_sg hp hz, hsg, nat1, nat2, leI, ltI, eqI, hp', c34, c92, c32, c126, e_o, h34, h92, lt_sp, lt_ti, h32, h126, h37', decide_false, decide_true, bnot_t, bnot_f, mk_len, hl1, hf, mk_app]
theorem tq_q (r : List Nat) : tq (34 :: r) = .ok [] 1 := by cases r <;> simp [tq]
theorem tq_n (r : List Nat) : tq (10 :: r) = .no 0 := by cases r <;> simp [tq]
theorem tq_e0 : tq [92] = .no 1 := by simp [tq]
theorem tq_e1 (b : Nat) (r : List Nat) (h : b = 92 ∨ b = 34 ∨ b = 110) : tq (92 :: b :: r) = (tq r).sh [unE b] 2 := by simp [tq, h]
theorem tq_e2 (b : Nat) (r : List Nat) (h : ¬ (b = 92 ∨ b = 34 ∨ b = 110)) : tq (92 :: b :: r) = .no 1 := by simp [tq, h]
theorem tq_plain (c : Nat) (r : List Nat) (h34 : c ≠ 34) (h92 : c ≠ 92) (h10 : c ≠ 10) : tq (c :: r) = (tq r).sh [c] 1 := by
  cases r <;> simp [tq, h34, h92, h10]
theorem neg1 : (-(1 : Int)) = -1 := rfl
theorem lt_loop (g : List D → Res) (wf n : Nat) (x : Str) (hz : x.length + 1 ≤ szLine) (hA : Alp x) : ∀ (N : Nat) (r : List Nat), r.length ≤ N → ∀ (p : Nat) (fs : List Nat) (j i : Nat) (o3 o4 : Option D) (E : Nx), (Ls x).drop p = r → p ≤ x.length → r.length < j → fs.length ≤ p →
    ∃ ρ, forC (fst g wf n df_law_text_at 58 (at1 b_law_text_at 1)) ((List.range' i j).map fun (i : Nat) => D.int (i : Int)) [some (.str x), some (.int p), some (.str ⟨fs.toArray⟩), o3, o4] E = E.rt (LT p fs (tq r)) ρ := by
  have hz' : x.length ≤ szLine := by omega
  intro N
  induction N using Nat.strongRecOn with
  | _ N ih =>
    intro r hN p fs j i o3 o4 E hr hpl hj hf
    obtain ⟨j, rfl⟩ : ∃ j', j = j' + 1 := ⟨j - 1, by omega⟩
    rw [List.range'_succ, List.map_cons, forC_cons]
    cases r with
    | nil =>
      have hp : x.length ≤ p := by have := drop_nil hr; rw [Ls_len] at this; exact this
      have e : p = x.length := by omega
      simp only [b_law_text_at_q, b_law_text_at_1b_q, b_law_text_at_1b_0t_q, b_law_text_at_1b_2t_q, b_law_text_at_1b_3t_q, b_law_text_at_1b_3t_0t_q, b_law_text_at_1b_3t_1t_q, b_law_text_at_1b_3f_q, b_law_text_at_1b_3f_0t_q, b_law_text_at_1b_3f_0f_q, b_law_text_at_1b_0f_q, b_law_text_at_1b_2f_q, b_law_text_at_1b_3t_0f_q, b_law_text_at_1b_3t_1f_q, b_law_text_at_0, b_law_text_at_1, b_law_text_at_1x, b_law_text_at_1b_0, b_law_text_at_1b_0t_0, b_law_text_at_1b_1, b_law_text_at_1b_2, b_law_text_at_1b_2t_0, b_law_text_at_1b_3, b_law_text_at_1b_3t_0, b_law_text_at_1b_3t_0t_0, b_law_text_at_1b_3t_1, b_law_text_at_1b_3t_1t_0, b_law_text_at_1b_3t_2, b_law_text_at_1b_3t_3, b_law_text_at_1b_3f_0, b_law_text_at_1b_3f_0t_0, b_law_text_at_1b_3f_0f_0, b_law_text_at_1b_3f_0f_1, b_law_text_at_2, stL_cons, stL_nil, getS_some, ck_true, asI_i, add_ii, add_ss, neg_i, len_s, eq_ss, eq_ii, lt_ss, le_ii, pu_i, pu_s, szl x hz', nat1, nat2, leI, ltI, eqI, hp, decide_false, decide_true]
      rw [show tq [] = TQ.no 0 from rfl, show LT p fs (.no 0) = .lst [.int ((x.length : Nat) : Int), .int (-1)] from by unfold LT; dsimp only; rw [e]; rfl]
      exact ⟨_, rfl⟩
    | cons c r =>
      obtain ⟨hc, hr2, hpl2⟩ := drop_get hr
      rw [Ls_len] at hpl2
      have hsg := sg_some hc
      have hp' : ¬ x.length ≤ p := by omega
      by_cases h34 : c = 34
      · subst h34
        simp only [b_law_text_at_q, b_law_text_at_1b_q, b_law_text_at_1b_0t_q, b_law_text_at_1b_2t_q, b_law_text_at_1b_3t_q, b_law_text_at_1b_3t_0t_q, b_law_text_at_1b_3t_1t_q, b_law_text_at_1b_3f_q, b_law_text_at_1b_3f_0t_q, b_law_text_at_1b_3f_0f_q, b_law_text_at_1b_0f_q, b_law_text_at_1b_2f_q, b_law_text_at_1b_3t_0f_q, b_law_text_at_1b_3t_1f_q, b_law_text_at_0, b_law_text_at_1, b_law_text_at_1x, b_law_text_at_1b_0, b_law_text_at_1b_0t_0, b_law_text_at_1b_1, b_law_text_at_1b_2, b_law_text_at_1b_2t_0, b_law_text_at_1b_3, b_law_text_at_1b_3t_0, b_law_text_at_1b_3t_0t_0, b_law_text_at_1b_3t_1, b_law_text_at_1b_3t_1t_0, b_law_text_at_1b_3t_2, b_law_text_at_1b_3t_3, b_law_text_at_1b_3f_0, b_law_text_at_1b_3f_0t_0, b_law_text_at_1b_3f_0f_0, b_law_text_at_1b_3f_0f_1, b_law_text_at_2, stL_cons, stL_nil, getS_some, ck_true, asI_i, add_ii, add_ss, neg_i, len_s, eq_ss, eq_ii, lt_ss, le_ii, pu_i, pu_s, szl x hz', ix_sg hpl2 hz', hsg, nat1, nat2, leI, ltI, eqI, hp', c34, c92, c32, c126, e_o, decide_false, decide_true]
        rw [tq_q r, show LT p fs (.ok [] 1) = .lst [.str ⟨fs.toArray⟩, .int ((p + 1 : Nat) : Int)] from by unfold LT; dsimp only; rw [List.append_nil]]
        exact ⟨_, rfl⟩
      by_cases h92 : c = 92
      · subst h92
        cases r with
        | nil =>
          have hp1 : x.length ≤ p + 1 := by have := drop_nil hr2; rw [Ls_len] at this; exact this
          have e : p + 1 = x.length := by omega
          simp only [b_law_text_at_q, b_law_text_at_1b_q, b_law_text_at_1b_0t_q, b_law_text_at_1b_2t_q, b_law_text_at_1b_3t_q, b_law_text_at_1b_3t_0t_q, b_law_text_at_1b_3t_1t_q, b_law_text_at_1b_3f_q, b_law_text_at_1b_3f_0t_q, b_law_text_at_1b_3f_0f_q, b_law_text_at_1b_0f_q, b_law_text_at_1b_2f_q, b_law_text_at_1b_3t_0f_q, b_law_text_at_1b_3t_1f_q, b_law_text_at_0, b_law_text_at_1, b_law_text_at_1x, b_law_text_at_1b_0, b_law_text_at_1b_0t_0, b_law_text_at_1b_1, b_law_text_at_1b_2, b_law_text_at_1b_2t_0, b_law_text_at_1b_3, b_law_text_at_1b_3t_0, b_law_text_at_1b_3t_0t_0, b_law_text_at_1b_3t_1, b_law_text_at_1b_3t_1t_0, b_law_text_at_1b_3t_2, b_law_text_at_1b_3t_3, b_law_text_at_1b_3f_0, b_law_text_at_1b_3f_0t_0, b_law_text_at_1b_3f_0f_0, b_law_text_at_1b_3f_0f_1, b_law_text_at_2, stL_cons, stL_nil, getS_some, ck_true, asI_i, add_ii, add_ss, neg_i, len_s, eq_ss, eq_ii, lt_ss, le_ii, pu_i, pu_s, szl x hz', ix_sg hpl2 hz', hsg, nat1, nat2, leI, ltI, eqI, hp', hp1, c34, c92, c32, c126, e_o, h34, decide_false, decide_true]
          rw [tq_e0, show LT p fs (.no 1) = .lst [.int ((x.length : Nat) : Int), .int (-1)] from by unfold LT; dsimp only; rw [e]]
          exact ⟨_, rfl⟩
        | cons b r2 =>
          obtain ⟨hb, hr3, hpl3⟩ := drop_get hr2
          rw [Ls_len] at hpl3
          have hsb := sg_some hb
          have hp1 : ¬ x.length ≤ p + 1 := by omega
          by_cases hbe : b = 92 ∨ b = 34 ∨ b = 110
          · have hl1 : (one (unE b)).length = 1 := rfl
            have hfl : fs.length + 1 ≤ szLine := by omega
            simp only [b_law_text_at_q, b_law_text_at_1b_q, b_law_text_at_1b_0t_q, b_law_text_at_1b_2t_q, b_law_text_at_1b_3t_q, b_law_text_at_1b_3t_0t_q, b_law_text_at_1b_3t_1t_q, b_law_text_at_1b_3f_q, b_law_text_at_1b_3f_0t_q, b_law_text_at_1b_3f_0f_q, b_law_text_at_1b_0f_q, b_law_text_at_1b_2f_q, b_law_text_at_1b_3t_0f_q, b_law_text_at_1b_3t_1f_q, b_law_text_at_0, b_law_text_at_1, b_law_text_at_1x, b_law_text_at_1b_0, b_law_text_at_1b_0t_0, b_law_text_at_1b_1, b_law_text_at_1b_2, b_law_text_at_1b_2t_0, b_law_text_at_1b_3, b_law_text_at_1b_3t_0, b_law_text_at_1b_3t_0t_0, b_law_text_at_1b_3t_1, b_law_text_at_1b_3t_1t_0, b_law_text_at_1b_3t_2, b_law_text_at_1b_3t_3, b_law_text_at_1b_3f_0, b_law_text_at_1b_3f_0t_0, b_law_text_at_1b_3f_0f_0, b_law_text_at_1b_3f_0f_1, b_law_text_at_2, stL_cons, stL_nil, getS_some, ck_true, asI_i, add_ii, add_ss, neg_i, len_s, eq_ss, eq_ii, lt_ss, le_ii, pu_i, pu_s, szl x hz', ix_sg hpl2 hz', ix_sg hpl3 hz', hsg, hsb, nat1, nat2, leI, ltI, eqI, hp', hp1, c34, c92, c32, c126, e_o, h34, decide_false, decide_true, in_o, in_esc, hbe, bnot_t, bnot_f]
            rw [show oK (keyD (.str (one b))) = fun k => k (.inr (one b)) from rfl]
            dsimp only
            rw [esc_get b hbe, add_ss, mk_len, hl1, decide_eq_true hfl, ck_true, mk_app]
            obtain ⟨ρ, e⟩ := ih r2.length (by simp at hN; omega) r2 (Nat.le_refl _) (p + 2) (fs ++ [unE b]) j (i + 1) (some (.int (i : Int))) (some (.str (one 92))) E hr3 (by omega) (by simp at hj; omega) (by rw [List.length_append]; simp; omega)
            refine ⟨ρ, ?_⟩
            rw [tq_e1 b r2 hbe, ← LT_sh]
            exact e
          · simp only [b_law_text_at_q, b_law_text_at_1b_q, b_law_text_at_1b_0t_q, b_law_text_at_1b_2t_q, b_law_text_at_1b_3t_q, b_law_text_at_1b_3t_0t_q, b_law_text_at_1b_3t_1t_q, b_law_text_at_1b_3f_q, b_law_text_at_1b_3f_0t_q, b_law_text_at_1b_3f_0f_q, b_law_text_at_1b_0f_q, b_law_text_at_1b_2f_q, b_law_text_at_1b_3t_0f_q, b_law_text_at_1b_3t_1f_q, b_law_text_at_0, b_law_text_at_1, b_law_text_at_1x, b_law_text_at_1b_0, b_law_text_at_1b_0t_0, b_law_text_at_1b_1, b_law_text_at_1b_2, b_law_text_at_1b_2t_0, b_law_text_at_1b_3, b_law_text_at_1b_3t_0, b_law_text_at_1b_3t_0t_0, b_law_text_at_1b_3t_1, b_law_text_at_1b_3t_1t_0, b_law_text_at_1b_3t_2, b_law_text_at_1b_3t_3, b_law_text_at_1b_3f_0, b_law_text_at_1b_3f_0t_0, b_law_text_at_1b_3f_0f_0, b_law_text_at_1b_3f_0f_1, b_law_text_at_2, stL_cons, stL_nil, getS_some, ck_true, asI_i, add_ii, add_ss, neg_i, len_s, eq_ss, eq_ii, lt_ss, le_ii, pu_i, pu_s, szl x hz', ix_sg hpl2 hz', ix_sg hpl3 hz', hsg, hsb, nat1, nat2, leI, ltI, eqI, hp', hp1, c34, c92, c32, c126, e_o, h34, decide_false, decide_true, in_o, in_esc, hbe, bnot_t, bnot_f]
            rw [tq_e2 b r2 hbe]
            exact ⟨_, rfl⟩
      by_cases h10 : c = 10
      · subst h10
        have h32 : (10 : Nat) < 32 := by decide
        simp only [b_law_text_at_q, b_law_text_at_1b_q, b_law_text_at_1b_0t_q, b_law_text_at_1b_2t_q, b_law_text_at_1b_3t_q, b_law_text_at_1b_3t_0t_q, b_law_text_at_1b_3t_1t_q, b_law_text_at_1b_3f_q, b_law_text_at_1b_3f_0t_q, b_law_text_at_1b_3f_0f_q, b_law_text_at_1b_0f_q, b_law_text_at_1b_2f_q, b_law_text_at_1b_3t_0f_q, b_law_text_at_1b_3t_1f_q, b_law_text_at_0, b_law_text_at_1, b_law_text_at_1x, b_law_text_at_1b_0, b_law_text_at_1b_0t_0, b_law_text_at_1b_1, b_law_text_at_1b_2, b_law_text_at_1b_2t_0, b_law_text_at_1b_3, b_law_text_at_1b_3t_0, b_law_text_at_1b_3t_0t_0, b_law_text_at_1b_3t_1, b_law_text_at_1b_3t_1t_0, b_law_text_at_1b_3t_2, b_law_text_at_1b_3t_3, b_law_text_at_1b_3f_0, b_law_text_at_1b_3f_0t_0, b_law_text_at_1b_3f_0f_0, b_law_text_at_1b_3f_0f_1, b_law_text_at_2, stL_cons, stL_nil, getS_some, ck_true, asI_i, add_ii, add_ss, neg_i, len_s, eq_ss, eq_ii, lt_ss, le_ii, pu_i, pu_s, szl x hz', ix_sg hpl2 hz', hsg, nat1, nat2, leI, ltI, eqI, hp', c34, c92, c32, c126, e_o, h34, h92, lt_sp, h32, decide_false, decide_true]
        rw [tq_n r]
        exact ⟨_, rfl⟩
      obtain ⟨o4', e⟩ := lt_step g wf n x hz' hA p fs (by omega) (.int (i : Int)) o3 o4 { nx := fun ρ1 => forC (fst g wf n df_law_text_at 58 (at1 b_law_text_at 1)) ((List.range' (i + 1) j).map fun (i : Nat) => D.int (i : Int)) ρ1 E, bk := E.nx, ct := fun ρ1 => forC (fst g wf n df_law_text_at 58 (at1 b_law_text_at 1)) ((List.range' (i + 1) j).map fun (i : Nat) => D.int (i : Int)) ρ1 E, rt := E.rt } c hc h34 h92 h10
      rw [e]
      obtain ⟨ρ, e2⟩ := ih r.length (by simp at hN; omega) r (Nat.le_refl _) (p + 1) (fs ++ [c]) j (i + 1) (some (.int (i : Int))) o4' E hr2 (by omega) (by simp at hj; omega) (by rw [List.length_append]; simp; omega)
      refine ⟨ρ, ?_⟩
      rw [tq_plain c r h34 h92 h10, ← LT_sh]
      exact e2
theorem szB : (4611686018427387904 : Nat) > szLine + 1 := by unfold szLine; omega
theorem small_len (a : Nat) (h : a ≤ szLine + 1) : smallI ((a : Nat) : Int) = true := decide_eq_true (by have := szB; rw [Int.natAbs_natCast]; omega)
theorem lt_run (g : List D → Res) (wf n : Nat) (x : Str) (hz : x.length + 1 ≤ szLine) (hA : Alp x) (p : Nat) (hp : p ≤ x.length) : ∃ fin, cl g wf (n + 1) "_law_text_at" [.str x, .int (p : Int)] = .ret (LT p [] (tq ((Ls x).drop p))) fin := by
  have hz' : x.length ≤ szLine := by omega
  rw [cl_run g wf n "_law_text_at" df_law_text_at _ (by kernel_rfl), show env0 df_law_text_at [.str x, .int (p : Int)] = [some (.str x), some (.int p), none, none, none] from rfl]
  simp only [b_law_text_at_q, b_law_text_at_0, b_law_text_at_1, stL_cons, stL_nil, getS_some, ck_true, asI_i, add_ii, len_s, szl x hz', nat1, small_len (x.length + 1) (by omega), Int.toNat_natCast, rngL_nat]
  have hl : ((Ls x).drop p).length < x.length + 1 := by rw [List.length_drop, Ls_len]; omega
  obtain ⟨ρ, e⟩ := lt_loop g wf n x hz hA _ _ (Nat.le_refl _) p [] (x.length + 1) 0 none none ⟨fun ρ1 => stL g wf n df_law_text_at 58 [at1 b_law_text_at 2] ρ1 (nx0 df_law_text_at.np), (nx0 df_law_text_at.np).bk, (nx0 df_law_text_at.np).ct, (nx0 df_law_text_at.np).rt⟩ rfl hp hl (by simp)
  exact ⟨_, e⟩
end K29
set_option Elab.async false
set_option linter.all false
set_option maxRecDepth 100000
set_option maxHeartbeats 4000000
/-! the defs of the text, as the evaluator runs them -/
namespace K29
open PySem PySem.Spec PyProof.Rows L2 TI
/-! BODY -/
/-! the program's reader of a quoted text -/
def fstep (x : Str) (c : Nat) (p s : Nat) : Nat := if 0 ≤ Txt.findIn x (one c) p s then (Txt.findIn x (one c) p s).toNat else s
theorem o_s2 (g : List D → Res) (wf n : Nat) (x : Str) (c : Str) (cc : Nat) (hc : c = one cc) (p s : Nat) (o3 o4 : Option D) (E : Nx) : ∃ o3' o4', fst g wf n df_first_of 58 (at1 b_first_of 1) (.str c) [some (.str x), some (.int p), some (.int s), o3, o4] E = E.nx [some (.str x), some (.int p), some (.int (fstep x cc p s : Nat)), o3', o4'] := by
  subst hc
  unfold fstep
  by_cases h : 0 ≤ Txt.findIn x (one cc) p s
  · rw [if_pos h, Int.toNat_of_nonneg h]
    simp only [b_first_of_q, b_first_of_1b_q, b_first_of_1b_1t_q, b_first_of_1b_1f_q, b_first_of_0, b_first_of_1, b_first_of_1x, b_first_of_1b_0, b_first_of_1b_1, b_first_of_1b_1t_0, b_first_of_2, stL_cons, stL_nil, getS_some, asS_s, asSII_s, le_ii, h, decide_true, pu_i]
    exact ⟨_, _, rfl⟩
  · rw [if_neg h]
    simp only [b_first_of_q, b_first_of_1b_q, b_first_of_1b_1t_q, b_first_of_1b_1f_q, b_first_of_0, b_first_of_1, b_first_of_1x, b_first_of_1b_0, b_first_of_1b_1, b_first_of_1b_1t_0, b_first_of_2, stL_cons, stL_nil, getS_some, asS_s, asSII_s, le_ii, h, decide_false, pu_i]
    exact ⟨_, _, rfl⟩
theorem fstep_at {x : Str} {c p s k : Nat} (hpk : p ≤ k) (hks : k < s) (hs : s ≤ x.length) (hc : (Ls x)[k]? = some c) (hno : ∀ i, p ≤ i → i < k → (Ls x)[i]? ≠ some c) : fstep x c p s = k := by
  unfold fstep
  rw [find_at hpk hks hs hc hno, if_pos (by omega)]
  simp
theorem fstep_no {x : Str} {c p s : Nat} (hp : p ≤ s) (hs : s ≤ x.length) (hno : ∀ i, p ≤ i → i < s → (Ls x)[i]? ≠ some c) : fstep x c p s = s := by
  unfold fstep
  rw [find_no hp hs hno, if_neg (by omega)]
theorem fstep_le {x : Str} {c p s : Nat} (hp : p ≤ s) (hs : s ≤ x.length) (k : Nat) (hk : k ≤ s) (hpk : p ≤ k) (hno : ∀ i, p ≤ i → i < k → (Ls x)[i]? ≠ some c) : k ≤ fstep x c p s ∧ fstep x c p s ≤ s := by
  by_cases h : ∃ i, p ≤ i ∧ i < s ∧ (Ls x)[i]? = some c
  · have : ∃ m, p ≤ m ∧ m < s ∧ (Ls x)[m]? = some c ∧ ∀ i, p ≤ i → i < m → (Ls x)[i]? ≠ some c := by
      obtain ⟨i, h1, h2, h3⟩ := h
      induction i using Nat.strongRecOn with
      | _ i ih =>
        by_cases hl : ∃ j, p ≤ j ∧ j < i ∧ (Ls x)[j]? = some c
        · obtain ⟨j, a, b, cc⟩ := hl
          exact ih j b a (by omega) cc
        · exact ⟨i, h1, h2, h3, fun j a b cc => hl ⟨j, a, b, cc⟩⟩
    obtain ⟨m, m1, m2, m3, m4⟩ := this
    rw [fstep_at m1 m2 hs m3 m4]
    refine ⟨?_, by omega⟩
    rcases Nat.lt_or_ge m k with q | q
    · exact absurd m3 (hno m m1 q)
    · exact q
  · rw [fstep_no hp hs fun i a b cc => h ⟨i, a, b, cc⟩]
    exact ⟨hk, Nat.le_refl _⟩
theorem fstep_hit {x : Str} {c p s q : Nat} (hpq : p ≤ q) (hqs : q ≤ s) (hs : s ≤ x.length) (hc : (Ls x)[q]? = some c) (hno : ∀ i, p ≤ i → i < q → (Ls x)[i]? ≠ some c) : fstep x c p s = q := by
  rcases Nat.lt_or_ge q s with h | h
  · exact fstep_at hpq h hs hc hno
  · have : s = q := by omega
    subst this
    exact fstep_no hpq hs hno
theorem pq_seq (a b c : Str) (k : List D → Res) : pusK [.str a, .str b, .str c] (seqV false (.tup [.str a, .str b, .str c]) k) = k [.str a, .str b, .str c] := rfl
theorem first_run (g : List D → Res) (wf n : Nat) (x : Str) (p : Nat) (hz : x.length ≤ szLine) : ∃ fin, cl g wf (n + 1) "_first_of" [.str x, .int p] = .ret (.int (fstep x 10 p (fstep x 92 p (fstep x 34 p x.length)) : Nat)) fin := by
  rw [cl_run g wf n "_first_of" df_first_of _ (by kernel_rfl), show env0 df_first_of [.str x, .int p] = [some (.str x), some (.int p), none, none, none] from rfl]
  simp only [b_first_of_q, b_first_of_0, b_first_of_1, stL_cons, stL_nil, getS_some, ck_true, len_s, szl x hz, pq_seq]
  rw [forC_cons]
  obtain ⟨a1, b1, e1⟩ := o_s2 g wf n x "\"" 34 c34 p x.length none none _
  rw [e1]
  dsimp only
  rw [forC_cons]
  obtain ⟨a2, b2, e2⟩ := o_s2 g wf n x "\\" 92 c92 p (fstep x 34 p x.length) a1 b1 _
  rw [e2]
  dsimp only
  rw [forC_cons]
  obtain ⟨a3, b3, e3⟩ := o_s2 g wf n x "\n" 10 c10 p (fstep x 92 p (fstep x 34 p x.length)) a2 b2 _
  rw [e3]
  dsimp only
  rw [forC_nil]
  simp only [b_first_of_2, getS_some]
  exact ⟨_, rfl⟩
def plainC (a : Nat) : Bool := !(a == 92) && !(a == 34) && !(a == 10)
theorem plain_ne {a : Nat} (h : plainC a = true) : a ≠ 34 ∧ a ≠ 92 ∧ a ≠ 10 := by
  unfold plainC at h
  simp at h
  simp [h]
theorem plain_no {a : Nat} (h : plainC a = false) : a = 34 ∨ a = 92 ∨ a = 10 := by
  unfold plainC at h
  by_cases e1 : a = 92
  · exact .inr (.inl e1)
  · by_cases e2 : a = 34
    · exact .inl e2
    · by_cases e3 : a = 10
      · exact .inr (.inr e3)
      · simp [e1, e2, e3] at h
theorem split_plain : ∀ (cs : List Nat), ∃ mid rest, cs = mid ++ rest ∧ (∀ a ∈ mid, plainC a = true) ∧ (rest = [] ∨ ∃ s r, rest = s :: r ∧ plainC s = false)
  | [] => ⟨[], [], rfl, by simp, .inl rfl⟩
  | a :: cs => by
    cases h : plainC a with
    | false => exact ⟨[], a :: cs, rfl, by simp, .inr ⟨a, cs, rfl, h⟩⟩
    | true =>
      obtain ⟨mid, rest, e, hm, hr⟩ := split_plain cs
      exact ⟨a :: mid, rest, by rw [e]; rfl, fun b hb => by
        rcases List.mem_cons.mp hb with rfl | hb
        · exact h
        · exact hm b hb, hr⟩
/-- a stretch ends at its end -/
theorem first_at (g : List D → Res) (wf n : Nat) {x : Str} {p : Nat} {mid rest : List Nat} (hp : p ≤ x.length) (hx : (Ls x).drop p = mid ++ rest) (hm : ∀ a ∈ mid, plainC a = true) (hr : rest = [] ∨ ∃ s r, rest = s :: r ∧ plainC s = false) (hz : x.length ≤ szLine) :
    ∃ fin, cl g wf (n + 1) "_first_of" [.str x, .int (p : Int)] = .ret (.int ((p + mid.length : Nat) : Int)) fin := by
  obtain ⟨fin, e⟩ := first_run g wf n x p hz
  refine ⟨fin, ?_⟩
  rw [e]
  have hlen : x.length = p + mid.length + rest.length := by
    have := congrArg List.length hx
    rw [List.length_drop, Ls_len, List.length_append] at this
    omega
  have hat : ∀ i, (Ls x)[p + i]? = (mid ++ rest)[i]? := fun i => by rw [← hx, List.getElem?_drop]
  have hno : ∀ c, c = 34 ∨ c = 92 ∨ c = 10 → ∀ i, p ≤ i → i < p + mid.length → (Ls x)[i]? ≠ some c := fun c hc i h1 h2 h3 => by
    obtain ⟨j, rfl⟩ : ∃ j, i = p + j := ⟨i - p, by omega⟩
    rw [hat, List.getElem?_append_left (by omega)] at h3
    have := plain_ne (hm c (List.mem_of_getElem? h3))
    omega
  have h1 := fstep_le (c := 34) (p := p) (s := x.length) (x := x) (by omega) (Nat.le_refl _) (p + mid.length) (by omega) (by omega) (hno 34 (.inl rfl))
  have h2 := fstep_le (c := 92) (p := p) (s := fstep x 34 p x.length) (x := x) (by omega) (by omega) (p + mid.length) (by omega) (by omega) (hno 92 (.inr (.inl rfl)))
  have h3 := fstep_le (c := 10) (p := p) (s := fstep x 92 p (fstep x 34 p x.length)) (x := x) (by omega) (by omega) (p + mid.length) (by omega) (by omega) (hno 10 (.inr (.inr rfl)))
  have key : fstep x 10 p (fstep x 92 p (fstep x 34 p x.length)) = p + mid.length := by
    rcases hr with rfl | ⟨s, r, rfl, hs⟩
    · rw [List.length_nil] at hlen; omega
    · have hq : (Ls x)[p + mid.length]? = some s := by rw [hat, List.getElem?_append_right (Nat.le_refl _), Nat.sub_self]; rfl
      rcases plain_no hs with rfl | rfl | rfl
      · have := fstep_hit (c := 34) (p := p) (s := x.length) (x := x) (q := p + mid.length) (by omega) (by omega) (Nat.le_refl _) hq (hno 34 (.inl rfl))
        omega
      · have := fstep_hit (c := 92) (p := p) (s := fstep x 34 p x.length) (x := x) (q := p + mid.length) (by omega) (by omega) (by omega) hq (hno 92 (.inr (.inl rfl)))
        omega
      · have := fstep_hit (c := 10) (p := p) (s := fstep x 92 p (fstep x 34 p x.length)) (x := x) (q := p + mid.length) (by omega) (by omega) (by omega) hq (hno 10 (.inr (.inr rfl)))
        omega
  rw [key]
theorem sh_sh (t : TQ) (a b : List Nat) (m n : Nat) : (t.sh a m).sh b n = t.sh (b ++ a) (m + n) := by
  cases t with
  | ok ds k => unfold TQ.sh; dsimp only; rw [List.append_assoc, Nat.add_assoc]
  | no k => unfold TQ.sh; dsimp only; rw [Nat.add_assoc]
theorem sh_0 (t : TQ) : t.sh [] 0 = t := by cases t <;> rfl
theorem tq_mid : ∀ (mid rest : List Nat), (∀ a ∈ mid, plainC a = true) → tq (mid ++ rest) = (tq rest).sh mid mid.length
  | [], rest, _ => (sh_0 _).symm
  | c :: mid, rest, h => by
    have hc := plain_ne (h c List.mem_cons_self)
    rw [List.cons_append, tq_plain c _ hc.1 hc.2.1 hc.2.2, tq_mid mid rest fun a ha => h a (List.mem_cons_of_mem _ ha), sh_sh]
    rfl
theorem kE (b : Nat) : kdGet kd_ESCAPES (one b) = if b = 92 ∨ b = 34 ∨ b = 110 then some (.str (one (unE b))) else none := by
  by_cases h : b = 92 ∨ b = 34 ∨ b = 110
  · rw [if_pos h]
    rcases h with rfl | rfl | rfl
    · show _ = some (D.str (one 92)); rw [← c92]; rfl
    · show _ = some (D.str (one 34)); rw [← c34]; rfl
    · show _ = some (D.str (one 10)); rw [← c10, ← c110]; rfl
  · rw [if_neg h]
    unfold kdGet kd_ESCAPES
    have ne : ∀ c, b ≠ c → ((one b == one c) = false) := fun c hc => by
      rw [beq_eq_false_iff_ne]
      exact fun q => hc (one_inj.mp q)
    rw [c34, c92, c110, List.lookup_cons, List.lookup_cons, List.lookup_cons, ne 34 (by omega), ne 92 (by omega), ne 110 (by omega)]
    rfl
theorem kE0 : kdGet kd_ESCAPES emp = none := rfl

theorem strsD_snoc (ms : List D) (ys : List Str) (y : Str) (h : strsD ms = some ys) : strsD (ms ++ [.str y]) = some (ys ++ [y]) := by
  induction ms generalizing ys with
  | nil => cases h; rfl
  | cons m ms ih =>
    cases m with
    | str z =>
      have h' : (strsD ms).map (z :: ·) = some ys := h
      cases q : strsD ms with
      | none => rw [q] at h'; cases h'
      | some zs =>
        rw [q] at h'
        cases h'
        show (strsD (ms ++ [.str y])).map (z :: ·) = _
        rw [ih zs q]
        rfl
    | _ => cases h
def sumL (ys : List Str) : Nat := (ys.map (·.length)).sum
theorem sumL_snoc (ys : List Str) (y : Str) : sumL (ys ++ [y]) = sumL ys + y.length := by simp [sumL]
open Builtin Builtin.Str PySem.StrLaws in
theorem join_list (ys : List Str) : Ls (Txt.join "" ys) = ys.flatMap Ls := by
  show (Builtin.Str.glued "" ys).cps.toList = _
  rw [glued_gl]
  have e : (("" : Str)).cps.toList = [] := by decide +kernel
  rw [e]
  cases ys with
  | nil => rfl
  | cons y ys => simp [gl, List.flatMap_map]
theorem join_mk (ys : List Str) : Txt.join "" ys = ⟨(ys.flatMap Ls).toArray⟩ := by
  apply Str_ext
  rw [join_list]
def PT (E : Nx) (p : Nat) (fs : List Nat) (t : TQ) (res : Res) : Prop := match t with
  | .ok cs k => ∃ ρ, res = E.rt (.tup [.str ⟨(fs ++ cs).toArray⟩, .int ((p + k : Nat) : Int)]) ρ
  | .no k => res = .exc "BadPlain" [("place", .int ((p + k : Nat) : Int))]
theorem PT_sh (E : Nx) (p m : Nat) (fs cs : List Nat) (t : TQ) (res : Res) : PT E (p + m) (fs ++ cs) t res = PT E p fs (t.sh cs m) res := by
  cases t with
  | ok ds k => unfold TQ.sh PT; dsimp only; rw [List.append_assoc, show p + m + k = p + (k + m) from by omega]
  | no k => unfold TQ.sh PT; dsimp only; rw [show p + m + k = p + (k + m) from by omega]
theorem kES (b : Nat) : (kdGet kd_ESCAPES (one b)).isSome = decide (b = 92 ∨ b = 34 ∨ b = 110) := by
  rw [kE]
  by_cases h : b = 92 ∨ b = 34 ∨ b = 110
  · rw [if_pos h, decide_eq_true h]; rfl
  · rw [if_neg h, decide_eq_false h]; rfl
theorem kE0S : (kdGet kd_ESCAPES emp).isSome = false := rfl
theorem oK_s {α : Type} (a : α) (k : α → Res) : oK (some a) k = k a := rfl
theorem join_d (ms : List D) (ys : List Str) (h : strsD ms = some ys) (hs : sumL ys ≤ szLine) (k : D → Res) : dJoin emp (.lst ms) k = k (.str ⟨(ys.flatMap Ls).toArray⟩) := by
  unfold dJoin
  dsimp only
  rw [h]
  dsimp only
  rw [show (emp : Str).length = 0 from rfl, Nat.mul_zero, Nat.add_zero, show (ys.map (·.length)).sum = sumL ys from rfl, decide_eq_true hs, ck_true, ← cemp, join_mk]
theorem cut_mid {x : Str} {p : Nat} {mid rest : List Nat} (hx : (Ls x).drop p = mid ++ rest) : cutS x (some (p : Int)) (some ((p + mid.length : Nat) : Int)) = ⟨mid.toArray⟩ := by
  apply Str_ext
  rw [cut_nat x _ _ (by omega), hx, show p + mid.length - p = mid.length from by omega, List.take_left]
theorem u_loop (g : List D → Res) (wf n : Nat) (x : Str) (hz : x.length + 2 ≤ szLine) : ∀ (N : Nat) (r : List Nat), r.length ≤ N → ∀ (p : Nat) (ms : List D) (ys : List Str) (W : Nat) (o3 o4 o5 : Option D) (E : Nx), (Ls x).drop p = r → p ≤ x.length → r.length < W → strsD ms = some ys → ms.length ≤ p → sumL ys ≤ p →
    PT E p (ys.flatMap Ls) (tq r) (whC g wf (n + 1) df_unquoted 58 (at1 b_unquoted 1) W [some (.str x), some (.int p), some (.lst ms), o3, o4, o5] E) := by
  have hz' : x.length ≤ szLine := by omega
  intro N
  induction N using Nat.strongRecOn with
  | _ N ih =>
    intro r hN p ms ys W o3 o4 o5 E hr hpl hj hys hms hsum
    obtain ⟨W, rfl⟩ : ∃ j', W = j' + 1 := ⟨W - 1, by omega⟩
    obtain ⟨mid, rest, rfl, hm, hre⟩ := split_plain r
    obtain ⟨fin, hf⟩ := first_at g wf n hpl hr hm hre hz'
    have hlen : x.length = p + mid.length + rest.length := by
      have := congrArg List.length hr
      rw [List.length_drop, Ls_len, List.length_append] at this
      omega
    have hmsl : ms.length < szLine := by omega
    have hdq : (Ls x).drop (p + mid.length) = rest := by rw [← List.drop_drop, hr, List.drop_left]
    have hys2 := strsD_snoc ms ys ⟨mid.toArray⟩ hys
    have hsum2 : sumL (ys ++ [⟨mid.toArray⟩]) ≤ p + mid.length := by rw [sumL_snoc, mk_len]; omega
    have hfl : (ys ++ [(⟨mid.toArray⟩ : Str)]).flatMap Ls = ys.flatMap Ls ++ mid := by simp
    rw [tq_mid mid rest hm, ← PT_sh, ← hfl]
    rw [b_unquoted_1w, tru_b]
    dsimp only
    generalize hE : (⟨fun ρ2 => whC g wf (n + 1) df_unquoted 58 (at1 b_unquoted 1) W ρ2 E, E.nx, fun ρ2 => whC g wf (n + 1) df_unquoted 58 (at1 b_unquoted 1) W ρ2 E, E.rt⟩ : Nx) = E1
    have hrt : E1.rt = E.rt := by rw [← hE]
    have hnx : E1.nx = fun ρ2 => whC g wf (n + 1) df_unquoted 58 (at1 b_unquoted 1) W ρ2 E := by rw [← hE]
    rw [b_unquoted_1b_q, stL_cons, b_unquoted_1b_0, getS_some, getS_some, getS_some, getS_some, hf, onRet_ret, unl_s, unl_i]
    dsimp only
    rw [stL_cons, b_unquoted_1b_1, getS_some, asL_l, getS_some, pu_s, getS_some, asI_i, getS_some, asI_i, sl_s, szl x hz', ck_true, getS_some, asL_l, decide_eq_true hmsl, ck_true, cut_mid hr]
    dsimp only
    rw [stL_cons, b_unquoted_1b_2]
    simp only [getS_some, pu_s, asI_i, add_ii, nat1, sl_s, szl x hz', ck_true, cs_sg]
    generalize hq : p + mid.length = q at *
    rcases hre with rfl | ⟨s, r2, rfl, hs⟩
    · have hql : x.length ≤ q := by rw [hlen]; simp
      rw [sg_none hql]
      simp only [b_unquoted_q, b_unquoted_1b_q, b_unquoted_1b_3t_q, b_unquoted_1b_4t_q, b_unquoted_1b_6t_q, b_unquoted_1b_3f_q, b_unquoted_1b_4f_q, b_unquoted_1b_6f_q, b_unquoted_0, b_unquoted_1, b_unquoted_1w, b_unquoted_1b_0, b_unquoted_1b_1, b_unquoted_1b_2, b_unquoted_1b_3, b_unquoted_1b_3t_0, b_unquoted_1b_4, b_unquoted_1b_4t_0, b_unquoted_1b_5, b_unquoted_1b_6, b_unquoted_1b_6t_0, b_unquoted_1b_7, b_unquoted_1b_8, stL_cons, stL_nil, getS_some, ck_true, eq_ss, c34, c92, e_e, decide_false, bnot_t, bnot_f, pu_i, pus_i]
      rfl
    · obtain ⟨hc, hr3, hq2⟩ := drop_get hdq
      rw [Ls_len] at hq2
      rw [sg_some hc]
      by_cases h34 : s = 34
      · subst h34
        have hss : sumL (ys ++ [(⟨mid.toArray⟩ : Str)]) ≤ szLine := by omega
        simp only [b_unquoted_q, b_unquoted_1b_q, b_unquoted_1b_3t_q, b_unquoted_1b_4t_q, b_unquoted_1b_6t_q, b_unquoted_1b_3f_q, b_unquoted_1b_4f_q, b_unquoted_1b_6f_q, b_unquoted_0, b_unquoted_1, b_unquoted_1w, b_unquoted_1b_0, b_unquoted_1b_1, b_unquoted_1b_2, b_unquoted_1b_3, b_unquoted_1b_3t_0, b_unquoted_1b_4, b_unquoted_1b_4t_0, b_unquoted_1b_5, b_unquoted_1b_6, b_unquoted_1b_6t_0, b_unquoted_1b_7, b_unquoted_1b_8, stL_cons, stL_nil, getS_some, ck_true, eq_ss, c34, c92, e_o, decide_true, decide_false, bnot_t, bnot_f, pu_i, pus_i, asS_s, cemp, join_d _ _ hys2 hss, add_ii, nat1, pus_si]
        rw [tq_q, hrt]
        unfold PT
        dsimp only
        rw [List.append_nil]
        exact ⟨_, rfl⟩
      by_cases h92 : s = 92
      · subst h92
        have e92 : ((92 : Nat) = 34) = False := eq_false (by decide)
        have hcs : cutS x (some ((q + 1 : Nat) : Int)) (some ((q + 2 : Nat) : Int)) = sg x (q + 1) := cs_sg x (q + 1)
        cases r2 with
        | nil =>
          have hp1 : x.length ≤ q + 1 := by have := drop_nil hr3; rw [Ls_len] at this; exact this
          simp only [b_unquoted_q, b_unquoted_1b_q, b_unquoted_1b_3t_q, b_unquoted_1b_4t_q, b_unquoted_1b_6t_q, b_unquoted_1b_3f_q, b_unquoted_1b_4f_q, b_unquoted_1b_6f_q, b_unquoted_0, b_unquoted_1, b_unquoted_1w, b_unquoted_1b_0, b_unquoted_1b_1, b_unquoted_1b_2, b_unquoted_1b_3, b_unquoted_1b_3t_0, b_unquoted_1b_4, b_unquoted_1b_4t_0, b_unquoted_1b_5, b_unquoted_1b_6, b_unquoted_1b_6t_0, b_unquoted_1b_7, b_unquoted_1b_8, stL_cons, stL_nil, getS_some, ck_true, eq_ss, c34, c92, e_o, e92, decide_true, decide_false, bnot_t, bnot_f, pu_i, pu_s, pus_i, asS_s, add_ii, nat1, nat2, asI_i, sl_s, szl x hz', hcs, sg_none hp1, kE0S]
          rw [tq_e0]
          rfl
        | cons b r2 =>
          obtain ⟨hb, hr4, hq3⟩ := drop_get hr3
          rw [Ls_len] at hq3
          have hsb := sg_some hb
          by_cases hbe : b = 92 ∨ b = 34 ∨ b = 110
          · have hml : (ms ++ [D.str ⟨mid.toArray⟩]).length < szLine := by rw [List.length_append]; simp; omega
            have hkk : kdGet kd_ESCAPES (one b) = some (.str (one (unE b))) := by rw [kE, if_pos hbe]
            simp only [b_unquoted_q, b_unquoted_1b_q, b_unquoted_1b_3t_q, b_unquoted_1b_4t_q, b_unquoted_1b_6t_q, b_unquoted_1b_3f_q, b_unquoted_1b_4f_q, b_unquoted_1b_6f_q, b_unquoted_0, b_unquoted_1, b_unquoted_1w, b_unquoted_1b_0, b_unquoted_1b_1, b_unquoted_1b_2, b_unquoted_1b_3, b_unquoted_1b_3t_0, b_unquoted_1b_4, b_unquoted_1b_4t_0, b_unquoted_1b_5, b_unquoted_1b_6, b_unquoted_1b_6t_0, b_unquoted_1b_7, b_unquoted_1b_8, stL_cons, stL_nil, getS_some, ck_true, eq_ss, c34, c92, e_o, e92, decide_true, decide_false, bnot_t, bnot_f, pu_i, pu_s, pus_i, asS_s, asL_l, add_ii, nat1, nat2, asI_i, sl_s, szl x hz', hcs, hsb, kES, hbe, hkk, oK_s, hml, hnx]
            have h1 : (one (unE b)).length = 1 := rfl
            have hfl2 : (ys ++ [(⟨mid.toArray⟩ : Str)] ++ [one (unE b)]).flatMap Ls = (ys ++ [(⟨mid.toArray⟩ : Str)]).flatMap Ls ++ [unE b] := by rw [List.flatMap_append]; rfl
            have hih := ih r2.length (by simp at hN; omega) r2 (Nat.le_refl _) (q + 2) (ms ++ [.str ⟨mid.toArray⟩] ++ [.str (one (unE b))]) (ys ++ [⟨mid.toArray⟩] ++ [one (unE b)]) W (some (.int (q : Int))) (some (.str (one 92))) (some (.str (one b))) E hr4 (by omega) (by simp at hj; omega) (strsD_snoc _ _ _ hys2) (by rw [List.length_append, List.length_append]; simp; omega) (by rw [sumL_snoc, h1]; omega)
            rw [tq_e1 b r2 hbe, ← PT_sh, ← hfl2]
            exact hih
          · simp only [b_unquoted_q, b_unquoted_1b_q, b_unquoted_1b_3t_q, b_unquoted_1b_4t_q, b_unquoted_1b_6t_q, b_unquoted_1b_3f_q, b_unquoted_1b_4f_q, b_unquoted_1b_6f_q, b_unquoted_0, b_unquoted_1, b_unquoted_1w, b_unquoted_1b_0, b_unquoted_1b_1, b_unquoted_1b_2, b_unquoted_1b_3, b_unquoted_1b_3t_0, b_unquoted_1b_4, b_unquoted_1b_4t_0, b_unquoted_1b_5, b_unquoted_1b_6, b_unquoted_1b_6t_0, b_unquoted_1b_7, b_unquoted_1b_8, stL_cons, stL_nil, getS_some, ck_true, eq_ss, c34, c92, e_o, e92, decide_true, decide_false, bnot_t, bnot_f, pu_i, pu_s, pus_i, asS_s, asL_l, add_ii, nat1, nat2, asI_i, sl_s, szl x hz', hcs, hsb, kES, hbe]
            rw [tq_e2 b r2 hbe]
            rfl
      · have h10 : s = 10 := by rcases plain_no hs with h | h | h <;> omega
        subst h10
        simp only [b_unquoted_q, b_unquoted_1b_q, b_unquoted_1b_3t_q, b_unquoted_1b_4t_q, b_unquoted_1b_6t_q, b_unquoted_1b_3f_q, b_unquoted_1b_4f_q, b_unquoted_1b_6f_q, b_unquoted_0, b_unquoted_1, b_unquoted_1w, b_unquoted_1b_0, b_unquoted_1b_1, b_unquoted_1b_2, b_unquoted_1b_3, b_unquoted_1b_3t_0, b_unquoted_1b_4, b_unquoted_1b_4t_0, b_unquoted_1b_5, b_unquoted_1b_6, b_unquoted_1b_6t_0, b_unquoted_1b_7, b_unquoted_1b_8, stL_cons, stL_nil, getS_some, ck_true, eq_ss, c34, c92, e_o, h34, h92, decide_true, decide_false, bnot_t, bnot_f, pu_i, pus_i]
        rw [tq_n]
        rfl
theorem u_run (g : List D → Res) (wf n : Nat) (x : Str) (hz : x.length + 2 ≤ szLine) (hw : x.length < wf) (p : Nat) (hp : p ≤ x.length) : PT (nx0 2) p [] (tq ((Ls x).drop p)) (cl g wf (n + 2) "_unquoted" [.str x, .int (p : Int)]) := by
  rw [cl_run g wf (n + 1) "_unquoted" df_unquoted _ (by kernel_rfl), show env0 df_unquoted [.str x, .int (p : Int)] = [some (.str x), some (.int p), none, none, none, none] from rfl]
  simp only [b_unquoted_q, b_unquoted_0, b_unquoted_1, stL_cons, stL_nil]
  have hl : ((Ls x).drop p).length < wf := by rw [List.length_drop, Ls_len]; omega
  have e := u_loop g wf n x hz _ _ (Nat.le_refl _) p [] [] wf none none none (nx0 df_unquoted.np) rfl hp hl rfl (by simp) (by simp [sumL])
  exact e
end K29
set_option Elab.async false
set_option linter.all false
set_option maxRecDepth 100000
set_option maxHeartbeats 4000000
/-! the defs of the text, as the evaluator runs them -/
namespace K29
open PySem PySem.Spec PyProof.Rows L2 TI
/-! BODY -/
/-! integers -/
open PySem.NumText
inductive R | good (v : D) (e : Nat) | bad (p : Nat)
abbrev isD (c : Nat) : Prop := 48 ≤ c ∧ c ≤ 57
def PE (E : Nx) (r : R) (res : Res) : Prop := match r with
  | .good v e => ∃ ρ, res = E.rt (.tup [v, .int ((e : Nat) : Int)]) ρ
  | .bad p => res = .exc "BadPlain" [("place", .int ((p : Nat) : Int))]
def LA (x : Str) (r : R) (d : D) : Prop := match r with
  | .good v e => d = .lst [v, .int ((e : Nat) : Int)]
  | .bad p => d = .lst [.int ((p : Nat) : Int), .int (-1)] ∨ ∃ v, v.pu = true ∧ d = .lst [v, .int ((p : Nat) : Int)] ∧ ∃ c, (Ls x)[p]? = some c ∧ isD c
def LE (E : Nx) (x : Str) (r : R) (res : Res) : Prop := ∃ d ρ, res = E.rt d ρ ∧ LA x r d
def iqR (s : Nat) (neg : Bool) (ds : List Nat) : R :=
  if ds = [] then .bad s
  else if ds.head? = some 48 then (if neg then .bad s else if ds.length = 1 then .good (.int 0) (s + 1) else .bad (s + 1))
  else if 2000 < ds.length then .bad (s + 2000)
  else .good (.int (if neg then -((digitsVal ds : Nat) : Int) else ((digitsVal ds : Nat) : Int))) (s + ds.length)
theorem cut_to (x : Str) (s : Nat) (h : s ≤ x.length) : Ls (cutS x none (some (s : Int))) = (Ls x).take s := by
  unfold cutS
  rw [HT.sIx_none, HT.sIx_nat]
  show ((x.cps.toList.drop 0).take _).toArray.toList = _
  rw [List.toList_toArray, List.drop_zero, Nat.min_eq_left h]
  rfl
theorem dig_cont (c : Nat) : (("0123456789" : Str)).cps.contains c = decide (48 ≤ c ∧ c ≤ 57) := by
  by_cases h : c < 58
  · have : ∀ d : Nat, d < 58 → (("0123456789" : Str)).cps.contains d = decide (48 ≤ d ∧ d ≤ 57) := by decide +kernel
    exact this c h
  · rw [decide_eq_false (by omega)]
    have : c ∉ (("0123456789" : Str)).cps.toList := by
      rw [show (("0123456789" : Str)).cps.toList = [48, 49, 50, 51, 52, 53, 54, 55, 56, 57] from by decide +kernel]
      simp; omega
    cases q : (("0123456789" : Str)).cps.contains c with
    | false => rfl
    | true =>
      rw [Array.contains_eq_mem] at q
      exact absurd (Array.mem_toList_iff.mpr (of_decide_eq_true q)) this
theorem in_dig (c : Nat) : (c ∈ Ls ("0123456789" : Str)) = (48 ≤ c ∧ c ≤ 57) := by
  rw [show Ls ("0123456789" : Str) = [48, 49, 50, 51, 52, 53, 54, 55, 56, 57] from by decide +kernel]
  refine propext ?_
  simp; omega
theorem dropW_all : ∀ (ds r : List Nat), AllDigits ds → (r = [] ∨ ∃ c l, r = c :: l ∧ ¬ isD c) → (ds ++ r).dropWhile (("0123456789" : Str)).cps.contains = r
  | [], r, _, hr => by
    rcases hr with rfl | ⟨c, l, rfl, h⟩
    · rfl
    · rw [List.nil_append, List.dropWhile_cons, dig_cont, decide_eq_false h]; rfl
  | d :: ds, r, h, hr => by
    rw [List.cons_append, List.dropWhile_cons, dig_cont, decide_eq_true h.head]
    exact dropW_all ds r h.tail hr
theorem split_dig : ∀ (cs : List Nat), ∃ ds r, cs = ds ++ r ∧ AllDigits ds ∧ (r = [] ∨ ∃ c l, r = c :: l ∧ ¬ isD c)
  | [] => ⟨[], [], rfl, fun _ h => by simp at h, .inl rfl⟩
  | c :: cs => by
    by_cases h : isD c
    · obtain ⟨ds, r, e, hd, hr⟩ := split_dig cs
      exact ⟨c :: ds, r, by rw [e]; rfl, fun b hb => by
        rcases List.mem_cons.mp hb with rfl | hb
        · exact h
        · exact hd b hb, hr⟩
    · exact ⟨[], c :: cs, rfl, fun _ h => by simp at h, .inr ⟨c, cs, rfl, h⟩⟩
theorem ix_0 {x : Str} {c : Nat} {l : List Nat} (h : Ls x = c :: l) (hz : x.length ≤ szLine) (k : D → Res) : dIx (.str x) (.int 0) k = k (.str (one c)) := by
  have hl : 0 < x.length := by rw [← Ls_len, h]; simp
  have := ix_sg hl hz k
  rw [show ((0 : Nat) : Int) = 0 from rfl] at this
  rw [this, sg_some (c := c) (by rw [h]; rfl)]
theorem int_s (l : Nat) (x : Str) (n : Int) (h : x.length ≤ l) (hn : intText? x = some n) (k : D → Res) : dInt l (.str x) k = k (.int n) := by
  show ckK (decide (x.length ≤ l)) (match intText? x with | some n => k (.int n) | none => .stuck) = _
  rw [decide_eq_true h, ck_true, hn]
theorem nat2001 (s : Nat) : (s : Int) + 2000 + 1 = ((s + 2001 : Nat) : Int) := by omega
theorem nat2000 (s : Nat) : (s : Int) + 2000 = ((s + 2000 : Nat) : Int) := by omega
theorem sub_nat (a b : Nat) (h : b ≤ a) : (a : Int) - (b : Int) = ((a - b : Nat) : Int) := by omega
theorem add_nat (a b : Nat) : (a : Int) + (b : Int) = ((a + b : Nat) : Int) := by omega
theorem int_tail (g : List D → Res) (wf n : Nat) (x : Str) (hz : x.length + 2001 ≤ szLine) (p : Int) (s : Nat) (ds r : List Nat) (hr : (Ls x).drop s = ds ++ r) (hd : AllDigits ds) (hr' : r = [] ∨ ∃ c l, r = c :: l ∧ ¬ isD c) (neg : Bool) (E : Nx) :
    PE E (iqR s neg ds) (stL g wf n df_integer 58 [at1 b_integer 2, at1 b_integer 3, at1 b_integer 4, at1 b_integer 5, at1 b_integer 6, at1 b_integer 7, at1 b_integer 8] [some (.str x), some (.int p), some (.bl neg), some (.int (s : Int)), none, none, none] E) := by
  have hz' : x.length ≤ szLine := by omega
  have htl : Ls (cutS x (some (s : Int)) (some ((s + 2001 : Nat) : Int))) = ds.take 2001 ++ r.take (2001 - ds.length) := by
    rw [cut_nat x _ _ (by omega), hr, show s + 2001 - s = 2001 from by omega, List.take_append]
  rw [stL_cons, b_integer_2]
  simp only [getS_some, pu_s, asI_i, add_ii, nat2001, sl_s, szl x hz', ck_true]
  generalize cutS x (some (s : Int)) (some ((s + 2001 : Nat) : Int)) = tl at htl ⊢
  have htll : tl.length ≤ 2001 := by
    rw [← Ls_len, htl, List.length_append, List.length_take, List.length_take]; omega
  have htz : tl.length ≤ szLine := by omega
  have hls : Ls (Txt.lstripChars tl "0123456789") = r.take (2001 - ds.length) := by
    rw [lstrip_eq, htl]
    rcases Nat.lt_or_ge ds.length 2001 with h | h
    · rw [List.take_of_length_le (show ds.length ≤ 2001 by omega)]
      refine dropW_all _ _ hd ?_
      rcases hr' with rfl | ⟨c, l, rfl, hc⟩
      · left; simp
      · right
        refine ⟨c, l.take (2000 - ds.length), ?_, hc⟩
        rw [show 2001 - ds.length = 2000 - ds.length + 1 from by omega, List.take_succ_cons]
    · rw [show 2001 - ds.length = 0 from by omega, List.take_zero]
      exact dropW_all _ _ (fun c hc => hd c (List.mem_of_mem_take hc)) (.inl rfl)
  have hlsl : (Txt.lstripChars tl "0123456789").length = (r.take (2001 - ds.length)).length := by rw [← Ls_len, hls]
  have hlsz : (Txt.lstripChars tl "0123456789").length ≤ szLine := by rw [hlsl, List.length_take]; omega
  have hdl : tl.length = (ds.take 2001).length + (r.take (2001 - ds.length)).length := by rw [← Ls_len, htl, List.length_append]
  have hsub : ((tl.length : Nat) : Int) - (((Txt.lstripChars tl "0123456789").length : Nat) : Int) = (((ds.take 2001).length : Nat) : Int) := by rw [hlsl, hdl]; omega
  rw [stL_cons, b_integer_3]
  simp only [getS_some, pu_s, len_s, szl tl htz, ck_true, asS_s, szl _ hlsz, sub_ii, hsub, asI_i, sl_s]
  have hdg : Ls (cutS tl none (some (((ds.take 2001).length : Nat) : Int))) = ds.take 2001 := by
    rw [cut_to tl _ (by omega), htl, List.take_left]
  generalize cutS tl none (some (((ds.take 2001).length : Nat) : Int)) = dg at hdg ⊢
  have hdgl : dg.length = (ds.take 2001).length := by rw [← Ls_len, hdg]
  have hdgz : dg.length ≤ szLine := by rw [hdgl, List.length_take]; omega
  cases ds with
  | nil =>
    have he : dg = emp := Str_ext (by rw [hdg]; rfl)
    subst he
    rw [stL_cons]
    simp only [b_integer_q, b_integer_4t_q, b_integer_5t_q, b_integer_6t_q, b_integer_4f_q, b_integer_5f_q, b_integer_6f_q, b_integer_0, b_integer_1, b_integer_2, b_integer_3, b_integer_4, b_integer_4t_0, b_integer_5, b_integer_5t_0, b_integer_6, b_integer_6t_0, b_integer_7, b_integer_8, stL_cons, stL_nil, getS_some, ck_true, eq_ss, cemp, decide_true, pu_i, pus_i]
    unfold iqR
    rw [if_pos rfl]
    rfl
  | cons c l =>
    have hcl : Ls dg = c :: l.take 2000 := by rw [hdg]; rfl
    have hne : (dg = emp) = False := eq_false fun h => by rw [h] at hcl; cases hcl
    have h1l : dg.length = l.length + 1 ∨ (2001 = dg.length ∧ 2000 < l.length + 1) := by
      rw [← Ls_len, hcl, List.length_cons, List.length_take]; omega
    unfold iqR
    rw [if_neg (by simp)]
    rw [stL_cons]
    by_cases h48 : c = 48
    · subst h48
      rw [if_pos (show (48 :: l).head? = some 48 from rfl)]
      cases neg with
      | true =>
        simp only [b_integer_q, b_integer_4t_q, b_integer_5t_q, b_integer_6t_q, b_integer_4f_q, b_integer_5f_q, b_integer_6f_q, b_integer_0, b_integer_1, b_integer_2, b_integer_3, b_integer_4, b_integer_4t_0, b_integer_5, b_integer_5t_0, b_integer_6, b_integer_6t_0, b_integer_7, b_integer_8, stL_cons, stL_nil, getS_some, ck_true, eq_ss, cemp, hne, decide_true, decide_false, tru_b, ix_0 hcl hdgz, c48, pu_i, pus_i]
        rfl
      | false =>
        rw [if_neg (by decide)]
        cases l with
        | nil =>
          have hl1 : dg.length = 1 := by rw [← Ls_len, hcl]; rfl
          have e1 : ((1 : Int) < ((1 : Nat) : Int)) = False := eq_false (by decide)
          have e2 : ((2000 : Int) < ((1 : Nat) : Int)) = False := eq_false (by decide)
          have hi : intText? dg = some 0 := by
            have hall : AllDigits dg.cps.toList := by show AllDigits (Ls dg); rw [hcl]; exact hd
            have := intText_digits hall (by show Ls dg ≠ []; rw [hcl]; simp) (by omega)
            rw [this]
            show some ((digitsVal (Ls dg) : Nat) : Int) = _
            rw [hcl]; rfl
          simp only [b_integer_q, b_integer_4t_q, b_integer_5t_q, b_integer_6t_q, b_integer_4f_q, b_integer_5f_q, b_integer_6f_q, b_integer_0, b_integer_1, b_integer_2, b_integer_3, b_integer_4, b_integer_4t_0, b_integer_5, b_integer_5t_0, b_integer_6, b_integer_6t_0, b_integer_7, b_integer_8, stL_cons, stL_nil, getS_some, ck_true, eq_ss, cemp, hne, decide_true, decide_false, tru_b, ix_0 hcl hdgz, c48, pu_i, pus_i, len_s, hl1, szl dg hdgz, lt_ii, e1, e2, int_s 16777216 dg 0 (by rw [hl1]; decide) hi, add_ii, pus_ii, decide_eq_true (show 1 ≤ szLine by omega)]
          exact ⟨_, rfl⟩
        | cons b l =>
          have e1 : ((1 : Int) < ((dg.length : Nat) : Int)) = True := eq_true (by rw [← Ls_len, hcl, List.length_cons, List.length_take]; simp; omega)
          simp only [b_integer_q, b_integer_4t_q, b_integer_5t_q, b_integer_6t_q, b_integer_4f_q, b_integer_5f_q, b_integer_6f_q, b_integer_0, b_integer_1, b_integer_2, b_integer_3, b_integer_4, b_integer_4t_0, b_integer_5, b_integer_5t_0, b_integer_6, b_integer_6t_0, b_integer_7, b_integer_8, stL_cons, stL_nil, getS_some, ck_true, eq_ss, cemp, hne, decide_true, decide_false, tru_b, ix_0 hcl hdgz, c48, pu_i, pus_i, len_s, szl dg hdgz, lt_ii, e1, add_ii, pus_ii, nat1]
          rfl
    · rw [if_neg (by simp; exact h48)]
      have h48' : (c = 48) = False := eq_false h48
      by_cases h2 : 2000 < (c :: l).length
      · rw [if_pos h2]
        have e2 : ((2000 : Int) < ((dg.length : Nat) : Int)) = True := eq_true (by rw [List.length_cons] at h2; omega)
        cases neg <;>
        · simp only [b_integer_q, b_integer_4t_q, b_integer_5t_q, b_integer_6t_q, b_integer_4f_q, b_integer_5f_q, b_integer_6f_q, b_integer_0, b_integer_1, b_integer_2, b_integer_3, b_integer_4, b_integer_4t_0, b_integer_5, b_integer_5t_0, b_integer_6, b_integer_6t_0, b_integer_7, b_integer_8, stL_cons, stL_nil, getS_some, ck_true, eq_ss, cemp, hne, decide_true, decide_false, tru_b, ix_0 hcl hdgz, c48, e_o, h48', pu_i, pus_i, len_s, szl dg hdgz, lt_ii, e2, add_ii, pus_ii, nat2000]
          rfl
      · rw [if_neg h2]
        rw [List.length_cons] at h2
        have hlt : l.take 2000 = l := List.take_of_length_le (by omega)
        rw [hlt] at hcl
        have hl1 : dg.length = (c :: l).length := by rw [← Ls_len, hcl]
        have e2 : ((2000 : Int) < ((dg.length : Nat) : Int)) = False := eq_false (by rw [hl1, List.length_cons]; omega)
        have hi : intText? dg = some ((digitsVal (c :: l) : Nat) : Int) := by
          have hall : AllDigits dg.cps.toList := by show AllDigits (Ls dg); rw [hcl]; exact hd
          have := intText_digits hall (by show Ls dg ≠ []; rw [hcl]; simp) (by rw [hl1, List.length_cons]; omega)
          rw [this]
          show some ((digitsVal (Ls dg) : Nat) : Int) = _
          rw [hcl]
        cases neg with
        | true =>
          simp only [b_integer_q, b_integer_4t_q, b_integer_5t_q, b_integer_6t_q, b_integer_4f_q, b_integer_5f_q, b_integer_6f_q, b_integer_0, b_integer_1, b_integer_2, b_integer_3, b_integer_4, b_integer_4t_0, b_integer_5, b_integer_5t_0, b_integer_6, b_integer_6t_0, b_integer_7, b_integer_8, stL_cons, stL_nil, getS_some, ck_true, eq_ss, cemp, hne, decide_true, decide_false, tru_b, ix_0 hcl hdgz, c48, e_o, h48', pu_i, pus_i, len_s, szl dg hdgz, lt_ii, e2, add_ii, pus_ii, int_s 16777216 dg _ hdgz hi, neg_i, add_nat]
          rw [hl1]
          exact ⟨_, rfl⟩
        | false =>
          simp only [b_integer_q, b_integer_4t_q, b_integer_5t_q, b_integer_6t_q, b_integer_4f_q, b_integer_5f_q, b_integer_6f_q, b_integer_0, b_integer_1, b_integer_2, b_integer_3, b_integer_4, b_integer_4t_0, b_integer_5, b_integer_5t_0, b_integer_6, b_integer_6t_0, b_integer_7, b_integer_8, stL_cons, stL_nil, getS_some, ck_true, eq_ss, cemp, hne, decide_true, decide_false, tru_b, ix_0 hcl hdgz, c48, e_o, h48', pu_i, pus_i, len_s, szl dg hdgz, lt_ii, e2, add_ii, pus_ii, int_s 16777216 dg _ hdgz hi, neg_i, add_nat]
          rw [hl1]
          exact ⟨_, rfl⟩
theorem int_run (g : List D → Res) (wf n : Nat) (x : Str) (hz : x.length + 2001 ≤ szLine) (p : Nat) (neg : Bool) (hn : decide (sg x p = one 45) = neg) (ds r : List Nat) (hr : (Ls x).drop (if neg then p + 1 else p) = ds ++ r) (hd : AllDigits ds) (hr' : r = [] ∨ ∃ c l, r = c :: l ∧ ¬ isD c) :
    PE (nx0 2) (iqR (if neg then p + 1 else p) neg ds) (cl g wf (n + 1) "_integer" [.str x, .int (p : Int)]) := by
  have hz' : x.length ≤ szLine := by omega
  rw [cl_run g wf n "_integer" df_integer _ (by kernel_rfl), show env0 df_integer [.str x, .int (p : Int)] = [some (.str x), some (.int p), none, none, none, none, none] from rfl]
  rw [b_integer_q, stL_cons, b_integer_0]
  simp only [getS_some, pu_s, asI_i, add_ii, nat1, sl_s, szl x hz', ck_true, cs_sg, eq_ss, c45, hn]
  rw [stL_cons, b_integer_1]
  cases neg with
  | true =>
    simp only [getS_some, tru_b, add_ii, nat1, pu_i]
    exact int_tail g wf n x hz _ _ _ _ hr hd hr' true _
  | false =>
    simp only [getS_some, tru_b, add_ii, nat1, pu_i]
    exact int_tail g wf n x hz _ _ _ _ hr hd hr' false _
end K29
set_option Elab.async false
set_option linter.all false
set_option maxRecDepth 100000
set_option maxHeartbeats 4000000
/-! the defs of the text, as the evaluator runs them -/
namespace K29
open PySem PySem.Spec PyProof.Rows L2 TI
/-! BODY -/
/-! the law's reader of integers -/
open PySem.NumText
theorem sub_s (s m : Nat) : ((s + m : Nat) : Int) - (s : Int) = (m : Int) := by omega
theorem dl_loop (g : List D → Res) (wf n : Nat) (x : Str) (hz : x.length ≤ szLine) (p : Int) (s : Nat) (ds r : List Nat) (hr : (Ls x).drop s = ds ++ r) (hd : AllDigits ds) (hr' : r = [] ∨ ∃ c l, r = c :: l ∧ ¬ isD c) (E : Nx) : ∀ (j i m : Nat) (o4 : Option D), m ≤ ds.length → m ≤ 2000 → ds.length - m ≤ j →
    (ds.length ≤ 2000 → ∃ o4', forC (fst g wf n df_law_digits_at 54 (at1 b_law_digits_at 5)) ((List.range' i j).map fun (i : Nat) => D.int (i : Int)) [some (.str x), some (.int p), some (.int (s : Int)), some (.int ((s + m : Nat) : Int)), o4] E = E.nx [some (.str x), some (.int p), some (.int (s : Int)), some (.int ((s + ds.length : Nat) : Int)), o4']) ∧
    (2000 < ds.length → ∃ ρ, forC (fst g wf n df_law_digits_at 54 (at1 b_law_digits_at 5)) ((List.range' i j).map fun (i : Nat) => D.int (i : Int)) [some (.str x), some (.int p), some (.int (s : Int)), some (.int ((s + m : Nat) : Int)), o4] E = E.rt (.lst [.int ((s + 2000 : Nat) : Int), .int (-1)]) ρ) := by
  have hat : ∀ i, (Ls x)[s + i]? = (ds ++ r)[i]? := fun i => by rw [← hr, List.getElem?_drop]
  intro j
  induction j with
  | zero =>
    intro i m o4 h1 h2 h3
    have : m = ds.length := by omega
    subst this
    exact ⟨fun _ => ⟨o4, rfl⟩, fun h => by omega⟩
  | succ j ih =>
    intro i m o4 h1 h2 h3
    rw [List.range'_succ, List.map_cons, forC_cons]
    rcases Nat.lt_or_ge m ds.length with h | h
    · have hc : (Ls x)[s + m]? = some ds[m] := by rw [hat, List.getElem?_append_left h, List.getElem?_eq_getElem h]
      have hdg := hd ds[m] (List.getElem_mem h)
      have hlt : s + m < x.length := by rw [← Ls_len]; exact (List.getElem?_eq_some_iff.mp hc).1
      by_cases e : m = 2000
      · subst e
        have e1 : (((2000 : Nat) : Int) = 2000) = True := eq_true rfl
        refine ⟨fun q => by omega, fun _ => ?_⟩
        simp only [b_law_digits_at_q, b_law_digits_at_1t_q, b_law_digits_at_2t_q, b_law_digits_at_3t_q, b_law_digits_at_5b_q, b_law_digits_at_5b_0t_q, b_law_digits_at_5b_0t_0t_q, b_law_digits_at_1f_q, b_law_digits_at_2f_q, b_law_digits_at_3f_q, b_law_digits_at_5b_0f_q, b_law_digits_at_5b_0t_0f_q, b_law_digits_at_0, b_law_digits_at_1, b_law_digits_at_1t_0, b_law_digits_at_2, b_law_digits_at_2t_0, b_law_digits_at_3, b_law_digits_at_3t_0, b_law_digits_at_4, b_law_digits_at_5, b_law_digits_at_5x, b_law_digits_at_5b_0, b_law_digits_at_5b_0t_0, b_law_digits_at_5b_0t_0t_0, b_law_digits_at_5b_0t_1, b_law_digits_at_6, stL_cons, stL_nil, getS_some, ck_true, asI_i, len_s, lt_ii, eq_ii, pu_i, pu_s, szl x hz, ix_sg hlt hz, sg_some hc, ltI, hlt, in_o, in_dig, hdg, and_self, sub_ii, sub_s, e1, neg_i, decide_true]
        exact ⟨_, rfl⟩
      · have e1 : (((m : Nat) : Int) = 2000) = False := eq_false (by omega)
        have := ih (i + 1) (m + 1) (some (.int (i : Int))) (by omega) (by omega) (by omega)
        simp only [b_law_digits_at_q, b_law_digits_at_1t_q, b_law_digits_at_2t_q, b_law_digits_at_3t_q, b_law_digits_at_5b_q, b_law_digits_at_5b_0t_q, b_law_digits_at_5b_0t_0t_q, b_law_digits_at_1f_q, b_law_digits_at_2f_q, b_law_digits_at_3f_q, b_law_digits_at_5b_0f_q, b_law_digits_at_5b_0t_0f_q, b_law_digits_at_0, b_law_digits_at_1, b_law_digits_at_1t_0, b_law_digits_at_2, b_law_digits_at_2t_0, b_law_digits_at_3, b_law_digits_at_3t_0, b_law_digits_at_4, b_law_digits_at_5, b_law_digits_at_5x, b_law_digits_at_5b_0, b_law_digits_at_5b_0t_0, b_law_digits_at_5b_0t_0t_0, b_law_digits_at_5b_0t_1, b_law_digits_at_6, stL_cons, stL_nil, getS_some, ck_true, asI_i, len_s, lt_ii, eq_ii, pu_i, pu_s, szl x hz, ix_sg hlt hz, sg_some hc, ltI, hlt, in_o, in_dig, hdg, and_self, sub_ii, sub_s, e1, neg_i, decide_true, decide_false, add_ii, nat1]
        exact this
    · have hm : m = ds.length := by omega
      have := ih (i + 1) m (some (.int (i : Int))) (by omega) (by omega) (by omega)
      rcases hr' with rfl | ⟨c, l, rfl, hcd⟩
      · have hlt : ¬ s + m < x.length := by
          have := congrArg List.length hr
          rw [List.length_drop, Ls_len, List.length_append, List.length_nil] at this
          omega
        simp only [b_law_digits_at_q, b_law_digits_at_1t_q, b_law_digits_at_2t_q, b_law_digits_at_3t_q, b_law_digits_at_5b_q, b_law_digits_at_5b_0t_q, b_law_digits_at_5b_0t_0t_q, b_law_digits_at_1f_q, b_law_digits_at_2f_q, b_law_digits_at_3f_q, b_law_digits_at_5b_0f_q, b_law_digits_at_5b_0t_0f_q, b_law_digits_at_0, b_law_digits_at_1, b_law_digits_at_1t_0, b_law_digits_at_2, b_law_digits_at_2t_0, b_law_digits_at_3, b_law_digits_at_3t_0, b_law_digits_at_4, b_law_digits_at_5, b_law_digits_at_5x, b_law_digits_at_5b_0, b_law_digits_at_5b_0t_0, b_law_digits_at_5b_0t_0t_0, b_law_digits_at_5b_0t_1, b_law_digits_at_6, stL_cons, stL_nil, getS_some, ck_true, asI_i, len_s, lt_ii, eq_ii, pu_i, pu_s, szl x hz, ltI, hlt, decide_true, decide_false]
        exact this
      · have hc : (Ls x)[s + m]? = some c := by rw [hat, List.getElem?_append_right h, hm, Nat.sub_self]; rfl
        have hlt : s + m < x.length := by rw [← Ls_len]; exact (List.getElem?_eq_some_iff.mp hc).1
        simp only [b_law_digits_at_q, b_law_digits_at_1t_q, b_law_digits_at_2t_q, b_law_digits_at_3t_q, b_law_digits_at_5b_q, b_law_digits_at_5b_0t_q, b_law_digits_at_5b_0t_0t_q, b_law_digits_at_1f_q, b_law_digits_at_2f_q, b_law_digits_at_3f_q, b_law_digits_at_5b_0f_q, b_law_digits_at_5b_0t_0f_q, b_law_digits_at_0, b_law_digits_at_1, b_law_digits_at_1t_0, b_law_digits_at_2, b_law_digits_at_2t_0, b_law_digits_at_3, b_law_digits_at_3t_0, b_law_digits_at_4, b_law_digits_at_5, b_law_digits_at_5x, b_law_digits_at_5b_0, b_law_digits_at_5b_0t_0, b_law_digits_at_5b_0t_0t_0, b_law_digits_at_5b_0t_1, b_law_digits_at_6, stL_cons, stL_nil, getS_some, ck_true, asI_i, len_s, lt_ii, eq_ii, pu_i, pu_s, szl x hz, ix_sg hlt hz, sg_some hc, ltI, hlt, in_o, in_dig, hcd, decide_true, decide_false]
        exact this
theorem ld_tail (g : List D → Res) (wf n : Nat) (x : Str) (hz : x.length + 2001 ≤ szLine) (p s : Nat) (hs : s ≤ x.length) (neg : Bool) (hps : s = if neg then p + 1 else p) (hsg : neg = true → (Ls x)[p]? = some 45) (ds r : List Nat) (hr : (Ls x).drop s = ds ++ r) (hd : AllDigits ds) (hr' : r = [] ∨ ∃ c l, r = c :: l ∧ ¬ isD c) (E : Nx) :
    LE E x (iqR s neg ds) (stL g wf n df_law_digits_at 59 [at1 b_law_digits_at 1, at1 b_law_digits_at 2, at1 b_law_digits_at 3, at1 b_law_digits_at 4, at1 b_law_digits_at 5, at1 b_law_digits_at 6] [some (.str x), some (.int (p : Int)), some (.int (s : Int)), none, none] E) := by
  have hz' : x.length ≤ szLine := by omega
  cases ds with
  | nil =>
    unfold iqR
    rw [if_pos rfl]
    rcases hr' with rfl | ⟨c, l, rfl, hcd⟩
    · have hlt : x.length ≤ s := by have := drop_nil hr; rw [Ls_len] at this; exact this
      have e : x.length = s := by omega
      simp only [b_law_digits_at_q, b_law_digits_at_1t_q, b_law_digits_at_2t_q, b_law_digits_at_3t_q, b_law_digits_at_5b_q, b_law_digits_at_5b_0t_q, b_law_digits_at_5b_0t_0t_q, b_law_digits_at_1f_q, b_law_digits_at_2f_q, b_law_digits_at_3f_q, b_law_digits_at_5b_0f_q, b_law_digits_at_5b_0t_0f_q, b_law_digits_at_0, b_law_digits_at_1, b_law_digits_at_1t_0, b_law_digits_at_2, b_law_digits_at_2t_0, b_law_digits_at_3, b_law_digits_at_3t_0, b_law_digits_at_4, b_law_digits_at_5, b_law_digits_at_5x, b_law_digits_at_5b_0, b_law_digits_at_5b_0t_0, b_law_digits_at_5b_0t_0t_0, b_law_digits_at_5b_0t_1, b_law_digits_at_6, stL_cons, stL_nil, getS_some, ck_true, asI_i, len_s, le_ii, pu_i, pu_s, szl x hz', leI, hlt, decide_true, neg_i]
      exact ⟨_, _, rfl, .inl (by rw [e])⟩
    · obtain ⟨hc, _, hlt⟩ := drop_get hr
      rw [Ls_len] at hlt
      have hn : ¬ x.length ≤ s := by omega
      simp only [b_law_digits_at_q, b_law_digits_at_1t_q, b_law_digits_at_2t_q, b_law_digits_at_3t_q, b_law_digits_at_5b_q, b_law_digits_at_5b_0t_q, b_law_digits_at_5b_0t_0t_q, b_law_digits_at_1f_q, b_law_digits_at_2f_q, b_law_digits_at_3f_q, b_law_digits_at_5b_0f_q, b_law_digits_at_5b_0t_0f_q, b_law_digits_at_0, b_law_digits_at_1, b_law_digits_at_1t_0, b_law_digits_at_2, b_law_digits_at_2t_0, b_law_digits_at_3, b_law_digits_at_3t_0, b_law_digits_at_4, b_law_digits_at_5, b_law_digits_at_5x, b_law_digits_at_5b_0, b_law_digits_at_5b_0t_0, b_law_digits_at_5b_0t_0t_0, b_law_digits_at_5b_0t_1, b_law_digits_at_6, stL_cons, stL_nil, getS_some, ck_true, asI_i, len_s, le_ii, pu_i, pu_s, szl x hz', leI, hn, ix_sg hlt hz', sg_some hc, in_o, in_dig, hcd, bnot_f, decide_true, decide_false, neg_i]
      exact ⟨_, _, rfl, .inl rfl⟩
  | cons c l =>
    obtain ⟨hc, hr2, hlt⟩ := drop_get hr
    rw [Ls_len] at hlt
    have hn : ¬ x.length ≤ s := by omega
    have hcd := hd.head
    unfold iqR
    rw [if_neg (by simp)]
    by_cases h48 : c = 48
    · subst h48
      rw [if_pos (show (48 :: l).head? = some 48 from rfl)]
      cases neg with
      | true =>
        have hps' : p < s := by rw [if_pos rfl] at hps; omega
        simp only [b_law_digits_at_q, b_law_digits_at_1t_q, b_law_digits_at_2t_q, b_law_digits_at_3t_q, b_law_digits_at_5b_q, b_law_digits_at_5b_0t_q, b_law_digits_at_5b_0t_0t_q, b_law_digits_at_1f_q, b_law_digits_at_2f_q, b_law_digits_at_3f_q, b_law_digits_at_5b_0f_q, b_law_digits_at_5b_0t_0f_q, b_law_digits_at_0, b_law_digits_at_1, b_law_digits_at_1t_0, b_law_digits_at_2, b_law_digits_at_2t_0, b_law_digits_at_3, b_law_digits_at_3t_0, b_law_digits_at_4, b_law_digits_at_5, b_law_digits_at_5x, b_law_digits_at_5b_0, b_law_digits_at_5b_0t_0, b_law_digits_at_5b_0t_0t_0, b_law_digits_at_5b_0t_1, b_law_digits_at_6, stL_cons, stL_nil, getS_some, ck_true, asI_i, len_s, le_ii, lt_ii, eq_ss, pu_i, pu_s, szl x hz', leI, ltI, hn, ix_sg hlt hz', sg_some hc, in_o, in_dig, hcd, and_self, bnot_t, c48, hps', decide_true, decide_false, neg_i]
        exact ⟨_, _, rfl, .inl rfl⟩
      | false =>
        have hps' : ¬ p < s := by rw [if_neg (by decide)] at hps; omega
        rw [if_neg (by decide)]
        simp only [b_law_digits_at_q, b_law_digits_at_1t_q, b_law_digits_at_2t_q, b_law_digits_at_3t_q, b_law_digits_at_5b_q, b_law_digits_at_5b_0t_q, b_law_digits_at_5b_0t_0t_q, b_law_digits_at_1f_q, b_law_digits_at_2f_q, b_law_digits_at_3f_q, b_law_digits_at_5b_0f_q, b_law_digits_at_5b_0t_0f_q, b_law_digits_at_0, b_law_digits_at_1, b_law_digits_at_1t_0, b_law_digits_at_2, b_law_digits_at_2t_0, b_law_digits_at_3, b_law_digits_at_3t_0, b_law_digits_at_4, b_law_digits_at_5, b_law_digits_at_5x, b_law_digits_at_5b_0, b_law_digits_at_5b_0t_0, b_law_digits_at_5b_0t_0t_0, b_law_digits_at_5b_0t_1, b_law_digits_at_6, stL_cons, stL_nil, getS_some, ck_true, asI_i, len_s, le_ii, lt_ii, eq_ss, pu_i, pu_s, szl x hz', leI, ltI, hn, ix_sg hlt hz', sg_some hc, in_o, in_dig, hcd, and_self, bnot_t, c48, hps', decide_true, decide_false, neg_i, add_ii, nat1]
        cases l with
        | nil => exact ⟨_, _, rfl, rfl⟩
        | cons b l =>
          obtain ⟨hb, _, _⟩ := drop_get hr2
          exact ⟨_, _, rfl, .inr ⟨.int 0, rfl, rfl, b, hb, hd.tail.head⟩⟩
    · rw [if_neg (by simp; exact h48)]
      have h48' : (c = 48) = False := eq_false h48
      have hloop := dl_loop g wf n x hz' (p : Int) s (c :: l) r hr hd hr' (⟨fun ρ1 => stL g wf n df_law_digits_at 54 [at1 b_law_digits_at 6] ρ1 E, E.bk, E.ct, E.rt⟩ : Nx) x.length 0 0 none (by omega) (by omega) (by
        have := congrArg List.length hr
        rw [List.length_drop, Ls_len, List.length_append] at this
        omega)
      simp only [b_law_digits_at_1, b_law_digits_at_2, b_law_digits_at_3, b_law_digits_at_4, b_law_digits_at_5, b_law_digits_at_1f_q, b_law_digits_at_2f_q, b_law_digits_at_3f_q, stL_cons, stL_nil, getS_some, ck_true, asI_i, len_s, le_ii, lt_ii, eq_ss, pu_i, pu_s, szl x hz', leI, ltI, hn, ix_sg hlt hz', sg_some hc, in_o, in_dig, hcd, and_self, bnot_t, c48, e_o, h48', decide_true, decide_false, small_len x.length (by omega), Int.toNat_natCast, rngL_nat]
      simp only [stL_cons, stL_nil, Nat.add_zero] at hloop
      by_cases h2 : 2000 < (c :: l).length
      · rw [if_pos h2]
        obtain ⟨ρ, e⟩ := hloop.2 h2
        rw [e]
        exact ⟨_, _, rfl, .inl rfl⟩
      · rw [if_neg h2]
        obtain ⟨o4', e⟩ := hloop.1 (by omega)
        rw [e, b_law_digits_at_6]
        simp only [getS_some, pu_s, asI_i, sl_s, szl x hz', ck_true, pu_i]
        have hcut : Ls (cutS x (some (p : Int)) (some ((s + (c :: l).length : Nat) : Int))) = if neg then 45 :: (c :: l) else c :: l := by
          rw [cut_nat x _ _ (by rw [hps]; split <;> omega)]
          cases neg with
          | true =>
            rw [if_pos rfl] at hps
            have hp := hsg rfl
            have hpl : p < (Ls x).length := (List.getElem?_eq_some_iff.mp hp).1
            have hg : (Ls x)[p] = 45 := (List.getElem?_eq_some_iff.mp hp).2
            rw [List.drop_eq_getElem_cons hpl, hg, ← hps, hr, show s + (c :: l).length - p = (c :: l).length + 1 from by omega, List.take_succ_cons, List.take_left]
            rfl
          | false =>
            rw [if_neg (by decide)] at hps
            rw [← hps, hr, show s + (c :: l).length - s = (c :: l).length from by omega, List.take_left]
            rfl
        generalize cutS x (some (p : Int)) (some ((s + (c :: l).length : Nat) : Int)) = dg at hcut ⊢
        have hlen : dg.length ≤ 2001 := by
          rw [← Ls_len, hcut]
          split
          · rw [List.length_cons]; omega
          · omega
        have hdz : dg.length ≤ 16777216 := by omega
        have hi : intText? dg = some (if neg then -((digitsVal (c :: l) : Nat) : Int) else ((digitsVal (c :: l) : Nat) : Int)) := by
          cases neg with
          | true => exact intText_neg (by show Ls dg = 45 :: (c :: l); rw [hcut]; rfl) hd (by simp) (by omega)
          | false =>
            have hcl : Ls dg = c :: l := hcut
            have := intText_digits (x := dg) (by show AllDigits (Ls dg); rw [hcl]; exact hd) (by show Ls dg ≠ []; rw [hcl]; simp) (by omega)
            rw [this]
            show some ((digitsVal (Ls dg) : Nat) : Int) = _
            rw [hcl]
            rfl
        rw [int_s 16777216 dg _ hdz hi]
        exact ⟨_, _, rfl, rfl⟩
theorem ld_run (g : List D → Res) (wf n : Nat) (x : Str) (hz : x.length + 2001 ≤ szLine) (p : Nat) (hp : p < x.length) (neg : Bool) (hn : decide (sg x p = one 45) = neg) (hsg : neg = true → (Ls x)[p]? = some 45) (ds r : List Nat) (hr : (Ls x).drop (if neg then p + 1 else p) = ds ++ r) (hd : AllDigits ds) (hr' : r = [] ∨ ∃ c l, r = c :: l ∧ ¬ isD c) :
    LE (nx0 2) x (iqR (if neg then p + 1 else p) neg ds) (cl g wf (n + 1) "_law_digits_at" [.str x, .int (p : Int)]) := by
  have hz' : x.length ≤ szLine := by omega
  rw [cl_run g wf n "_law_digits_at" df_law_digits_at _ (by kernel_rfl), show env0 df_law_digits_at [.str x, .int (p : Int)] = [some (.str x), some (.int p), none, none, none] from rfl]
  rw [b_law_digits_at_q, stL_cons, b_law_digits_at_0]
  simp only [getS_some, pu_i, ix_sg hp hz', eq_ss, c45, hn, int_b, add_ii]
  cases neg with
  | true => exact ld_tail g wf n x hz p (p + 1) (by omega) true rfl hsg ds r hr hd hr' _
  | false => 
    rw [show ((p : Int) + if false = true then 1 else 0) = (p : Int) from Int.add_zero _]
    exact ld_tail g wf n x hz p p (by omega) false rfl hsg ds r hr hd hr' _
end K29
set_option Elab.async false
set_option linter.all false
set_option maxRecDepth 100000
set_option maxHeartbeats 4000000
/-! the defs of the text, as the evaluator runs them -/
namespace K29
open PySem PySem.Spec PyProof.Rows L2 TI
/-! BODY -/
/-! both readers of a value, side by side -/
open PySem.NumText
inductive Vl : Nat → D → Prop
  | non (k) : Vl k .non
  | bl (k b) : Vl k (.bl b)
  | int (k i) : Vl k (.int i)
  | str (k x) : Vl k (.str x)
  | tup (k ds) (h : ∀ d ∈ ds, Vl k d) (hl : ds.length ≤ szLine) : Vl (k + 1) (.tup ds)
theorem Vl.pu {k : Nat} {d : D} (h : Vl k d) : d.pu = true := by cases h <;> rfl
theorem pus_all : ∀ l : List D, (∀ d ∈ l, d.pu = true) → D.pus l = true
  | [], _ => rfl
  | d :: l, h => by
    show (d.pu && D.pus l) = true
    rw [h d List.mem_cons_self, pus_all l fun f hf => h f (List.mem_cons_of_mem _ hf)]
    rfl
def OKR (x : Str) (p k : Nat) (r : R) : Prop := match r with
  | .good v e => p < e ∧ e ≤ x.length ∧ Vl k v
  | .bad _ => True
def TQR (p : Nat) : TQ → R
  | .ok cs k => .good (.str ⟨cs.toArray⟩) (p + k)
  | .no k => .bad (p + k)
theorem PT_PE {E : Nx} {p : Nat} {t : TQ} {res : Res} (h : PT E p [] t res) : PE E (TQR p t) res := by
  cases t with
  | ok cs k => exact h
  | no k => exact h
theorem LT_LA {x : Str} {p : Nat} (t : TQ) : LA x (TQR p t) (LT p [] t) := by
  cases t with
  | ok cs k => rfl
  | no k => exact .inl rfl
theorem tq_le : ∀ (N : Nat) (r : List Nat), r.length ≤ N → ∀ cs k, tq r = .ok cs k → 0 < k ∧ k ≤ r.length := by
  intro N
  induction N using Nat.strongRecOn with
  | _ N ih =>
    intro r hN cs k h
    cases r with
    | nil => simp [tq] at h
    | cons c r =>
      by_cases h34 : c = 34
      · subst h34; rw [tq_q] at h; injection h with h1 h2; subst h2; simp
      by_cases h92 : c = 92
      · subst h92
        cases r with
        | nil => rw [tq_e0] at h; cases h
        | cons b r =>
          by_cases hb : b = 92 ∨ b = 34 ∨ b = 110
          · rw [tq_e1 b r hb] at h
            cases q : tq r with
            | ok ds j =>
              rw [q] at h
              unfold TQ.sh at h
              injection h with h1 h2
              have := ih r.length (by simp at hN; omega) r (Nat.le_refl _) ds j q
              simp; omega
            | no j => rw [q] at h; cases h
          · rw [tq_e2 b r hb] at h; cases h
      by_cases h10 : c = 10
      · subst h10; rw [tq_n] at h; cases h
      rw [tq_plain c r h34 h92 h10] at h
      cases q : tq r with
      | ok ds j =>
        rw [q] at h
        unfold TQ.sh at h
        injection h with h1 h2
        have := ih r.length (by simp at hN; omega) r (Nat.le_refl _) ds j q
        simp; omega
      | no j => rw [q] at h; cases h
theorem OKR_t {x : Str} {p k : Nat} (hp : p < x.length) : OKR x p k (TQR (p + 1) (tq ((Ls x).drop (p + 1)))) := by
  cases q : tq ((Ls x).drop (p + 1)) with
  | ok cs m =>
    have := tq_le _ _ (Nat.le_refl _) cs m q
    rw [List.length_drop, Ls_len] at this
    exact ⟨by omega, by omega, .str _ _⟩
  | no m => trivial
theorem OKR_i {x : Str} {p s k : Nat} {neg : Bool} {ds : List Nat} (hp : p ≤ s) (h : s + ds.length ≤ x.length) : OKR x p k (iqR s neg ds) := by
  unfold iqR
  by_cases h0 : ds = []
  · rw [if_pos h0]; trivial
  · rw [if_neg h0]
    have hl : 0 < ds.length := List.length_pos_iff.mpr h0
    by_cases h1 : ds.head? = some 48
    · rw [if_pos h1]
      cases neg with
      | true => trivial
      | false =>
        rw [if_neg (by decide)]
        split
        · exact ⟨by omega, by omega, .int _ _⟩
        · trivial
    · rw [if_neg h1]
      split
      · trivial
      · exact ⟨by omega, by omega, .int _ _⟩
theorem kW (c : Nat) : kdGet kd_WORDS (one c) = if c = 84 then some (.bl true) else if c = 70 then some (.bl false) else if c = 78 then some .non else none := by
  unfold kdGet kd_WORDS
  have ne : ∀ d, c ≠ d → ((one c == one d) = false) := fun d hc => by
    rw [beq_eq_false_iff_ne]
    exact fun q => hc (one_inj.mp q)
  have eq : ∀ d, ((one d == one d) = true) := fun d => by rw [beq_iff_eq]
  rw [cT, cF, cN, List.lookup_cons, List.lookup_cons, List.lookup_cons]
  by_cases h1 : c = 84
  · subst h1; rw [eq]; rfl
  · rw [ne 84 h1, if_neg h1]
    by_cases h2 : c = 70
    · subst h2; rw [eq]; rfl
    · rw [ne 70 h2, if_neg h2]
      by_cases h3 : c = 78
      · subst h3; rw [eq]; rfl
      · rw [ne 78 h3, if_neg h3]; rfl
theorem kW0 : kdGet kd_WORDS emp = none := rfl
theorem isN_f {α : Type} : (none : Option α).isSome = false := rfl
theorem isS_t {α : Type} (a : α) : (some a).isSome = true := rfl
theorem unp_l {v : D} (h : v.pu = true) (i : Int) (k : List D → Res) : unpK 2 (.lst [v, .int i]) k = k [v, .int i] := by
  show pusK [v, .int i] (k [v, .int i]) = _
  exact pus_2i h i _
theorem unp_t (v : D) (i : Int) (k : List D → Res) : unpK 2 (.tup [v, .int i]) k = k [v, .int i] := rfl
theorem cons_c (d : D) (l : List D) (k : D → List D → Res) : consK (d :: l) k = k d l := rfl
theorem nil_n (r : Res) : nilK [] r = r := rfl
theorem ne_m1 (e : Nat) : ((e : Int) = -1) = False := eq_false (by omega)
theorem in_TFN (c : Nat) : (c ∈ Ls ("TFN" : Str)) = (c = 84 ∨ c = 70 ∨ c = 78) := by
  rw [show Ls ("TFN" : Str) = [84, 70, 78] from by decide +kernel]
  simp
theorem in_num (c : Nat) : (c ∈ Ls ("-0123456789" : Str)) = (c = 45 ∨ (48 ≤ c ∧ c ≤ 57)) := by
  rw [show Ls ("-0123456789" : Str) = [45, 48, 49, 50, 51, 52, 53, 54, 55, 56, 57] from by decide +kernel]
  refine propext ?_
  simp; omega
theorem tup_tup (ms : List D) (v : D) (hm : D.pus ms = true) : ∀ k : D → Res, dTup (.lst ms) k = k (.tup ms) := fun k => by
  show pusK ms (k (.tup ms)) = _
  exact pusK_t hm _
def VV (g g2 : List D → Res) (wf n m : Nat) (x : Str) (dp k : Nat) : Prop := ∀ p, p ≤ x.length → ∃ r, OKR x p k r ∧ PE (nx0 3) r (cl g wf n "_value" [.str x, .int (p : Int), .int (dp : Int)]) ∧ LE (nx0 3) x r (cl g2 wf m "_law_value_at" [.str x, .int (p : Int), .int (dp : Int)])
theorem nx0_rt (np : Nat) (d : D) (ρ : TI.Env) : (nx0 np).rt d ρ = .ret d (finOf np ρ) := rfl
theorem exX_bad (c : Str) (fs : List (Str × D)) : exX c fs = .exc c fs := rfl
theorem mem_joint (g g2 : List D → Res) (wf n m : Nat) (x : Str) (hz : x.length + 2 ≤ szLine) (dp k : Nat) (hv : VV g g2 wf n m x (dp + 1) k) (E E2 : Nx) (o3 : Option D) : ∀ (W : Nat) (p : Nat) (ms : List D) (j i : Nat) (o4 o5 q5 q6 q7 : Option D), x.length - p < W → x.length - p < j → p ≤ x.length → ms.length ≤ p → (∀ d ∈ ms, Vl k d) →
    ∃ r, OKR x p (k + 1) r ∧ PE E r (whC g wf n df_members 57 (at1 b_members 2) W [some (.str x), some (.int (p : Int)), some (.int ((dp + 1 : Nat) : Int)), some (.lst ms), o4, o5] E) ∧
      LE E2 x r (forC (fst g2 wf m df_law_value_at 50 (at1 b_law_value_at 9)) ((List.range' i j).map fun (i : Nat) => D.int (i : Int)) [some (.str x), some (.int (p : Int)), some (.int (dp : Int)), o3, some (.tup ms), q5, q6, q7] E2) := by
  have hz' : x.length ≤ szLine := by omega
  intro W
  induction W with
  | zero => intro p ms j i o4 o5 q5 q6 q7 h; omega
  | succ W ih =>
    intro p ms j i o4 o5 q5 q6 q7 hW hj hp hms hml
    obtain ⟨j, rfl⟩ : ∃ j', j = j' + 1 := ⟨j - 1, by omega⟩
    obtain ⟨r0, ok0, pe0, d0, ρ0, ld0, la0⟩ := hv p hp
    rw [List.range'_succ, List.map_cons, forC_cons, b_members_2w, tru_b]
    dsimp only
    rw [b_members_2b_q, stL_cons, b_members_2b_0, b_law_value_at_9x, b_law_value_at_9b_q, stL_cons, b_law_value_at_9b_0]
    simp only [getS_some, add_ii, nat1]
    rw [ld0]
    cases r0 with
    | bad q =>
      have pe : cl g wf n "_value" [.str x, .int (p : Int), .int ((dp + 1 : Nat) : Int)] = .exc "BadPlain" [("place", .int (q : Int))] := pe0
      rw [pe, onRet_exc, exX_bad]
      refine ⟨.bad q, trivial, rfl, ?_⟩
      rcases la0 with rfl | ⟨v, hvp, rfl, c, hc, hcd⟩
      · simp only [b_law_value_at_q, b_law_value_at_0t_q, b_law_value_at_2t_q, b_law_value_at_3t_q, b_law_value_at_4t_q, b_law_value_at_5t_q, b_law_value_at_8t_q, b_law_value_at_9b_q, b_law_value_at_9b_1t_q, b_law_value_at_9b_3t_q, b_law_value_at_9b_4t_q, b_law_value_at_9b_5t_q, b_law_value_at_0f_q, b_law_value_at_2f_q, b_law_value_at_3f_q, b_law_value_at_4f_q, b_law_value_at_5f_q, b_law_value_at_8f_q, b_law_value_at_9b_1f_q, b_law_value_at_9b_3f_q, b_law_value_at_9b_4f_q, b_law_value_at_9b_5f_q, b_law_value_at_0, b_law_value_at_0t_0, b_law_value_at_1, b_law_value_at_2, b_law_value_at_2t_0, b_law_value_at_3, b_law_value_at_3t_0, b_law_value_at_4, b_law_value_at_4t_0, b_law_value_at_5, b_law_value_at_5t_0, b_law_value_at_6, b_law_value_at_7, b_law_value_at_8, b_law_value_at_8t_0, b_law_value_at_9, b_law_value_at_9x, b_law_value_at_9b_0, b_law_value_at_9b_1, b_law_value_at_9b_1t_0, b_law_value_at_9b_2, b_law_value_at_9b_3, b_law_value_at_9b_3t_0, b_law_value_at_9b_4, b_law_value_at_9b_4t_0, b_law_value_at_9b_5, b_law_value_at_9b_5t_0, b_law_value_at_9b_6, b_law_value_at_10, stL_cons, stL_nil, onRet_ret, nx0_rt, unp_l (v := .int (q : Int)) rfl, cons_c, nil_n, unl_s, unl_i, getS_some, pu_i, neg_i, eq_ii, decide_true]
        exact ⟨_, _, rfl, .inl rfl⟩
      · have hlt : q < x.length := by rw [← Ls_len]; exact (List.getElem?_eq_some_iff.mp hc).1
        have hn : ¬ x.length ≤ q := by omega
        have c41' : (c = 41) = False := eq_false (by omega)
        have c32' : (c = 32) = False := eq_false (by omega)
        have hms1 : ms.length + 1 ≤ szLine := by omega
        have hl1 : [v].length = 1 := rfl
        simp only [b_law_value_at_q, b_law_value_at_0t_q, b_law_value_at_2t_q, b_law_value_at_3t_q, b_law_value_at_4t_q, b_law_value_at_5t_q, b_law_value_at_8t_q, b_law_value_at_9b_q, b_law_value_at_9b_1t_q, b_law_value_at_9b_3t_q, b_law_value_at_9b_4t_q, b_law_value_at_9b_5t_q, b_law_value_at_0f_q, b_law_value_at_2f_q, b_law_value_at_3f_q, b_law_value_at_4f_q, b_law_value_at_5f_q, b_law_value_at_8f_q, b_law_value_at_9b_1f_q, b_law_value_at_9b_3f_q, b_law_value_at_9b_4f_q, b_law_value_at_9b_5f_q, b_law_value_at_0, b_law_value_at_0t_0, b_law_value_at_1, b_law_value_at_2, b_law_value_at_2t_0, b_law_value_at_3, b_law_value_at_3t_0, b_law_value_at_4, b_law_value_at_4t_0, b_law_value_at_5, b_law_value_at_5t_0, b_law_value_at_6, b_law_value_at_7, b_law_value_at_8, b_law_value_at_8t_0, b_law_value_at_9, b_law_value_at_9x, b_law_value_at_9b_0, b_law_value_at_9b_1, b_law_value_at_9b_1t_0, b_law_value_at_9b_2, b_law_value_at_9b_3, b_law_value_at_9b_3t_0, b_law_value_at_9b_4, b_law_value_at_9b_4t_0, b_law_value_at_9b_5, b_law_value_at_9b_5t_0, b_law_value_at_9b_6, b_law_value_at_10, stL_cons, stL_nil, onRet_ret, nx0_rt, unp_l hvp, cons_c, nil_n, unl_s, unl_i, getS_some, pu_i, pu_s, pu_t, puK_t hvp, pus_1 hvp, add_tt, hl1, hms1, ck_true, neg_i, eq_ii, eq_ss, ne_m1, le_ii, leI, hn, len_s, szl x hz', ix_sg hlt hz', sg_some hc, c41, c32, e_o, c41', c32', bnot_f, decide_true, decide_false]
        exact ⟨_, _, rfl, .inl rfl⟩
    | good v e =>
      obtain ⟨hpe, hel, hvl⟩ := ok0
      obtain ⟨ρp, pe⟩ := pe0
      rw [pe]
      have hvp := hvl.pu
      have hms1 : ms.length + 1 ≤ szLine := by omega
      have hms2 : ms.length < szLine := by omega
      have hl1 : [v].length = 1 := rfl
      have hmv : ∀ d ∈ ms ++ [v], Vl k d := fun d hd => by
        rcases List.mem_append.mp hd with hd | hd
        · exact hml d hd
        · rw [List.mem_singleton.mp hd]; exact hvl
      have hmp : D.pus (ms ++ [v]) = true := pus_all _ fun d hd => (hmv d hd).pu
      have la : d0 = .lst [v, .int (e : Int)] := la0
      subst la
      simp only [onRet_ret, nx0_rt, unp_t, unp_l hvp, cons_c, nil_n, unl_s, unl_i, getS_some, pu_i]
      simp only [stL_cons, stL_nil, b_members_2b_1, b_members_2b_2, b_law_value_at_9b_1, b_law_value_at_9b_1f_q, neg_i, eq_ii, ne_m1, decide_false, b_law_value_at_9b_2, getS_some, asL_l, pu_i, pu_s, pu_t, puK_t hvp, pus_1 hvp, hms2, decide_true, ck_true, asI_i, add_ii, nat1, sl_s, szl x hz', cs_sg, add_tt, hl1, hms1]
      rcases Nat.lt_or_ge e x.length with hlt | hge
      · have hn : ¬ x.length ≤ e := by omega
        have hc : (Ls x)[e]? = some ((Ls x)[e]'(by rw [Ls_len]; exact hlt)) := List.getElem?_eq_getElem _
        generalize (Ls x)[e]'(by rw [Ls_len]; exact hlt) = c at hc
        by_cases h41 : c = 41
        · subst h41
          refine ⟨.good (.tup (ms ++ [v])) (e + 1), ⟨by omega, by omega, .tup k _ hmv (by rw [List.length_append]; exact hms1)⟩, ?_, ?_⟩
          · simp only [b_members_q, b_members_0t_q, b_members_2b_q, b_members_2b_3t_q, b_members_2b_4t_q, b_members_0f_q, b_members_2b_3f_q, b_members_2b_4f_q, b_members_0, b_members_0t_0, b_members_1, b_members_2, b_members_2w, b_members_2b_0, b_members_2b_1, b_members_2b_2, b_members_2b_3, b_members_2b_3t_0, b_members_2b_4, b_members_2b_4t_0, b_members_2b_5, stL_cons, stL_nil, getS_some, eq_ss, sg_some hc, c41, e_o, decide_true, tup_tup _ v hmp, add_ii, nat1, pus_ti]
            exact ⟨_, rfl⟩
          · simp only [b_law_value_at_q, b_law_value_at_0t_q, b_law_value_at_2t_q, b_law_value_at_3t_q, b_law_value_at_4t_q, b_law_value_at_5t_q, b_law_value_at_8t_q, b_law_value_at_9b_q, b_law_value_at_9b_1t_q, b_law_value_at_9b_3t_q, b_law_value_at_9b_4t_q, b_law_value_at_9b_5t_q, b_law_value_at_0f_q, b_law_value_at_2f_q, b_law_value_at_3f_q, b_law_value_at_4f_q, b_law_value_at_5f_q, b_law_value_at_8f_q, b_law_value_at_9b_1f_q, b_law_value_at_9b_3f_q, b_law_value_at_9b_4f_q, b_law_value_at_9b_5f_q, b_law_value_at_0, b_law_value_at_0t_0, b_law_value_at_1, b_law_value_at_2, b_law_value_at_2t_0, b_law_value_at_3, b_law_value_at_3t_0, b_law_value_at_4, b_law_value_at_4t_0, b_law_value_at_5, b_law_value_at_5t_0, b_law_value_at_6, b_law_value_at_7, b_law_value_at_8, b_law_value_at_8t_0, b_law_value_at_9, b_law_value_at_9x, b_law_value_at_9b_0, b_law_value_at_9b_1, b_law_value_at_9b_1t_0, b_law_value_at_9b_2, b_law_value_at_9b_3, b_law_value_at_9b_3t_0, b_law_value_at_9b_4, b_law_value_at_9b_4t_0, b_law_value_at_9b_5, b_law_value_at_9b_5t_0, b_law_value_at_9b_6, b_law_value_at_10, stL_cons, stL_nil, getS_some, pu_i, pu_s, pu_t, len_s, szl x hz', ck_true, le_ii, leI, hn, decide_false, ix_sg hlt hz', sg_some hc, eq_ss, c41, e_o, decide_true, add_ii, nat1]
            exact ⟨_, _, rfl, rfl⟩
        have h41' : (c = 41) = False := eq_false h41
        by_cases h32 : c = 32
        · subst h32
          have e41 : ((32 : Nat) = 41) = False := eq_false (by decide)
          obtain ⟨r, okr, per, ler⟩ := ih (e + 1) (ms ++ [v]) j (i + 1) (some v) (some (.str (one 32))) (some (.int (i : Int))) (some v) (some (.int (e : Int))) (by omega) (by omega) (by omega) (by rw [List.length_append, hl1]; omega) hmv
          refine ⟨r, ?_, ?_, ?_⟩
          · cases r with
            | bad _ => trivial
            | good w f => exact ⟨by have := okr.1; omega, okr.2⟩
          · simp only [b_members_q, b_members_0t_q, b_members_2b_q, b_members_2b_3t_q, b_members_2b_4t_q, b_members_0f_q, b_members_2b_3f_q, b_members_2b_4f_q, b_members_0, b_members_0t_0, b_members_1, b_members_2, b_members_2w, b_members_2b_0, b_members_2b_1, b_members_2b_2, b_members_2b_3, b_members_2b_3t_0, b_members_2b_4, b_members_2b_4t_0, b_members_2b_5, stL_cons, stL_nil, getS_some, eq_ss, sg_some hc, c41, c32, e_o, e41, decide_true, decide_false, bnot_t, bnot_f, aug_i, nat1, pu_i]
            exact per
          · simp only [b_law_value_at_q, b_law_value_at_0t_q, b_law_value_at_2t_q, b_law_value_at_3t_q, b_law_value_at_4t_q, b_law_value_at_5t_q, b_law_value_at_8t_q, b_law_value_at_9b_q, b_law_value_at_9b_1t_q, b_law_value_at_9b_3t_q, b_law_value_at_9b_4t_q, b_law_value_at_9b_5t_q, b_law_value_at_0f_q, b_law_value_at_2f_q, b_law_value_at_3f_q, b_law_value_at_4f_q, b_law_value_at_5f_q, b_law_value_at_8f_q, b_law_value_at_9b_1f_q, b_law_value_at_9b_3f_q, b_law_value_at_9b_4f_q, b_law_value_at_9b_5f_q, b_law_value_at_0, b_law_value_at_0t_0, b_law_value_at_1, b_law_value_at_2, b_law_value_at_2t_0, b_law_value_at_3, b_law_value_at_3t_0, b_law_value_at_4, b_law_value_at_4t_0, b_law_value_at_5, b_law_value_at_5t_0, b_law_value_at_6, b_law_value_at_7, b_law_value_at_8, b_law_value_at_8t_0, b_law_value_at_9, b_law_value_at_9x, b_law_value_at_9b_0, b_law_value_at_9b_1, b_law_value_at_9b_1t_0, b_law_value_at_9b_2, b_law_value_at_9b_3, b_law_value_at_9b_3t_0, b_law_value_at_9b_4, b_law_value_at_9b_4t_0, b_law_value_at_9b_5, b_law_value_at_9b_5t_0, b_law_value_at_9b_6, b_law_value_at_10, stL_cons, stL_nil, getS_some, pu_i, pu_s, pu_t, len_s, szl x hz', ck_true, le_ii, leI, hn, decide_false, ix_sg hlt hz', sg_some hc, eq_ss, c41, c32, e_o, e41, decide_true, bnot_t, add_ii, nat1]
            exact ler
        · have h32' : (c = 32) = False := eq_false h32
          refine ⟨.bad e, trivial, ?_, ?_⟩
          · simp only [b_members_q, b_members_0t_q, b_members_2b_q, b_members_2b_3t_q, b_members_2b_4t_q, b_members_0f_q, b_members_2b_3f_q, b_members_2b_4f_q, b_members_0, b_members_0t_0, b_members_1, b_members_2, b_members_2w, b_members_2b_0, b_members_2b_1, b_members_2b_2, b_members_2b_3, b_members_2b_3t_0, b_members_2b_4, b_members_2b_4t_0, b_members_2b_5, stL_cons, stL_nil, getS_some, eq_ss, sg_some hc, c41, c32, e_o, h41', h32', decide_false, bnot_t, bnot_f, pu_i, pus_i]
            rfl
          · simp only [b_law_value_at_q, b_law_value_at_0t_q, b_law_value_at_2t_q, b_law_value_at_3t_q, b_law_value_at_4t_q, b_law_value_at_5t_q, b_law_value_at_8t_q, b_law_value_at_9b_q, b_law_value_at_9b_1t_q, b_law_value_at_9b_3t_q, b_law_value_at_9b_4t_q, b_law_value_at_9b_5t_q, b_law_value_at_0f_q, b_law_value_at_2f_q, b_law_value_at_3f_q, b_law_value_at_4f_q, b_law_value_at_5f_q, b_law_value_at_8f_q, b_law_value_at_9b_1f_q, b_law_value_at_9b_3f_q, b_law_value_at_9b_4f_q, b_law_value_at_9b_5f_q, b_law_value_at_0, b_law_value_at_0t_0, b_law_value_at_1, b_law_value_at_2, b_law_value_at_2t_0, b_law_value_at_3, b_law_value_at_3t_0, b_law_value_at_4, b_law_value_at_4t_0, b_law_value_at_5, b_law_value_at_5t_0, b_law_value_at_6, b_law_value_at_7, b_law_value_at_8, b_law_value_at_8t_0, b_law_value_at_9, b_law_value_at_9x, b_law_value_at_9b_0, b_law_value_at_9b_1, b_law_value_at_9b_1t_0, b_law_value_at_9b_2, b_law_value_at_9b_3, b_law_value_at_9b_3t_0, b_law_value_at_9b_4, b_law_value_at_9b_4t_0, b_law_value_at_9b_5, b_law_value_at_9b_5t_0, b_law_value_at_9b_6, b_law_value_at_10, stL_cons, stL_nil, getS_some, pu_i, pu_s, pu_t, len_s, szl x hz', ck_true, le_ii, leI, hn, decide_false, ix_sg hlt hz', sg_some hc, eq_ss, c41, c32, e_o, h41', h32', bnot_f, neg_i]
            exact ⟨_, _, rfl, .inl rfl⟩
      · have ee : e = x.length := by omega
        refine ⟨.bad e, trivial, ?_, ?_⟩
        · simp only [b_members_q, b_members_0t_q, b_members_2b_q, b_members_2b_3t_q, b_members_2b_4t_q, b_members_0f_q, b_members_2b_3f_q, b_members_2b_4f_q, b_members_0, b_members_0t_0, b_members_1, b_members_2, b_members_2w, b_members_2b_0, b_members_2b_1, b_members_2b_2, b_members_2b_3, b_members_2b_3t_0, b_members_2b_4, b_members_2b_4t_0, b_members_2b_5, stL_cons, stL_nil, getS_some, eq_ss, sg_none hge, c41, c32, e_e, decide_false, bnot_t, bnot_f, pu_i, pus_i]
          rfl
        · simp only [b_law_value_at_q, b_law_value_at_0t_q, b_law_value_at_2t_q, b_law_value_at_3t_q, b_law_value_at_4t_q, b_law_value_at_5t_q, b_law_value_at_8t_q, b_law_value_at_9b_q, b_law_value_at_9b_1t_q, b_law_value_at_9b_3t_q, b_law_value_at_9b_4t_q, b_law_value_at_9b_5t_q, b_law_value_at_0f_q, b_law_value_at_2f_q, b_law_value_at_3f_q, b_law_value_at_4f_q, b_law_value_at_5f_q, b_law_value_at_8f_q, b_law_value_at_9b_1f_q, b_law_value_at_9b_3f_q, b_law_value_at_9b_4f_q, b_law_value_at_9b_5f_q, b_law_value_at_0, b_law_value_at_0t_0, b_law_value_at_1, b_law_value_at_2, b_law_value_at_2t_0, b_law_value_at_3, b_law_value_at_3t_0, b_law_value_at_4, b_law_value_at_4t_0, b_law_value_at_5, b_law_value_at_5t_0, b_law_value_at_6, b_law_value_at_7, b_law_value_at_8, b_law_value_at_8t_0, b_law_value_at_9, b_law_value_at_9x, b_law_value_at_9b_0, b_law_value_at_9b_1, b_law_value_at_9b_1t_0, b_law_value_at_9b_2, b_law_value_at_9b_3, b_law_value_at_9b_3t_0, b_law_value_at_9b_4, b_law_value_at_9b_4t_0, b_law_value_at_9b_5, b_law_value_at_9b_5t_0, b_law_value_at_9b_6, b_law_value_at_10, stL_cons, stL_nil, getS_some, pu_i, pu_s, pu_t, len_s, szl x hz', ck_true, le_ii, leI, hge, decide_true, neg_i]
          exact ⟨_, _, rfl, .inl (by rw [ee])⟩
end K29
set_option Elab.async false
set_option linter.all false
set_option maxRecDepth 100000
set_option maxHeartbeats 4000000
/-! the defs of the text, as the evaluator runs them -/
namespace K29
open PySem PySem.Spec PyProof.Rows L2 TI
/-! BODY -/
/-! both readers of a value, side by side: values; whole texts -/
open PySem.NumText
theorem TPE {x : Str} {p k : Nat} {res : Res} (h : PE (nx0 2) (TQR p (tq ((Ls x).drop p))) res) : (∃ v e ρ, TQR p (tq ((Ls x).drop p)) = .good v e ∧ res = .ret (.tup [v, .int (e : Int)]) (finOf 2 ρ)) ∨ ∃ q, TQR p (tq ((Ls x).drop p)) = .bad q ∧ res = .exc "BadPlain" [("place", .int (q : Int))] := by
  cases q : TQR p (tq ((Ls x).drop p)) with
  | good v e => rw [q] at h; obtain ⟨ρ, h⟩ := h; exact .inl ⟨v, e, ρ, rfl, h⟩
  | bad q2 => rw [q] at h; exact .inr ⟨q2, rfl, h⟩
/-- a call in tail position -/
theorem PE_call {E2 E : Nx} {r : R} {res : Res} {np : Nat} (f : TI.Env → TI.Env) (hE : E2 = nx0 np) (h : PE E2 r res) : PE E r (onRet res (fun d fin => E.rt d (f fin)) exX) := by
  subst hE
  cases r with
  | good v e => obtain ⟨ρ, rfl⟩ := h; exact ⟨_, rfl⟩
  | bad q => rw [show res = _ from h]; rfl
theorem LE_call {E2 E : Nx} {x : Str} {r : R} {res : Res} {np : Nat} (f : TI.Env → TI.Env) (hE : E2 = nx0 np) (h : LE E2 x r res) : LE E x r (onRet res (fun d fin => E.rt d (f fin)) exX) := by
  subst hE
  obtain ⟨d, ρ, rfl, la⟩ := h
  exact ⟨d, _, rfl, la⟩
theorem LE_ret {E : Nx} {x : Str} {r : R} {res : Res} {d : D} {fin : TI.Env} (f : TI.Env → TI.Env) (h : res = .ret d fin) (la : LA x r d) : LE E x r (onRet res (fun d fin => E.rt d (f fin)) exX) := by
  subst h
  exact ⟨d, _, rfl, la⟩
theorem oK_k {α : Type} (a : α) (k : α → Res) : oK (some a) k = k a := rfl
theorem keyD_s (y : Str) : keyD (.str y) = some (.inr y) := rfl
theorem eq40 (d : Nat) : ((d : Int) = 40) = (d = 40) := propext ⟨fun h => by omega, fun h => by omega⟩
theorem lt40 (d : Nat) : ((d : Int) < 40) = (d < 40) := propext ⟨fun h => by omega, fun h => by omega⟩
theorem val_joint (g g2 : List D → Res) (wf : Nat) (x : Str) (hz : x.length + 2001 ≤ szLine) (hw : x.length < wf) (hA : Alp x) : ∀ (k dp : Nat), dp + k = 40 → ∀ n m, 2 * k + 3 ≤ n → k + 2 ≤ m → VV g g2 wf n m x dp k := by
  have hz' : x.length ≤ szLine := by omega
  have hz2 : x.length + 2 ≤ szLine := by omega
  intro k
  induction k using Nat.strongRecOn with
  | _ k ih =>
    intro dp hdk n m hn hm p hp
    obtain ⟨n, rfl⟩ : ∃ n', n = n' + 3 := ⟨n - 3, by omega⟩
    obtain ⟨m, rfl⟩ : ∃ n', m = n' + 2 := ⟨m - 2, by omega⟩
    rw [cl_run g wf (n + 2) "_value" df_value _ (by kernel_rfl), show env0 df_value [.str x, .int (p : Int), .int (dp : Int)] = [some (.str x), some (.int (p : Int)), some (.int (dp : Int)), none] from rfl]
    rw [cl_run g2 wf (m + 1) "_law_value_at" df_law_value_at _ (by kernel_rfl), show env0 df_law_value_at [.str x, .int (p : Int), .int (dp : Int)] = [some (.str x), some (.int (p : Int)), some (.int (dp : Int)), none, none, none, none, none] from rfl]
    rcases Nat.lt_or_ge p x.length with hlt | hge
    · have hnp : ¬ x.length ≤ p := by omega
      have hc : (Ls x)[p]? = some ((Ls x)[p]'(by rw [Ls_len]; exact hlt)) := List.getElem?_eq_getElem _
      have hdr : (Ls x).drop p = (Ls x)[p]'(by rw [Ls_len]; exact hlt) :: (Ls x).drop (p + 1) := List.drop_eq_getElem_cons _
      generalize (Ls x)[p]'(by rw [Ls_len]; exact hlt) = c at hc hdr
      by_cases hT : c = 84 ∨ c = 70 ∨ c = 78
      · have fin : ∀ (v : D) (hv : Vl k v), kdGet kd_WORDS (one c) = some v → dctGet [(.inr ("T" : Str)), (.inr ("F" : Str)), (.inr ("N" : Str))] [(.bl true), (.bl false), .non] (.inr (one c)) = some v →
            ∃ r, OKR x p k r ∧ PE (nx0 3) r (stL g wf (n + 2) df_value 60 df_value.body [some (.str x), some (.int (p : Int)), some (.int (dp : Int)), none] (nx0 df_value.np)) ∧ LE (nx0 3) x r (stL g2 wf (m + 1) df_law_value_at 60 df_law_value_at.body [some (.str x), some (.int (p : Int)), some (.int (dp : Int)), none, none, none, none, none] (nx0 df_law_value_at.np)) := fun v hv hk hd => by
          have hvp := hv.pu
          refine ⟨.good v (p + 1), ⟨by omega, by omega, hv⟩, ?_, ?_⟩
          · simp only [b_value_q, b_value_1t_q, b_value_2t_q, b_value_3t_q, b_value_1f_q, b_value_2f_q, b_value_3f_q, b_value_0, b_value_1, b_value_1t_0, b_value_2, b_value_2t_0, b_value_3, b_value_3t_0, b_value_4, stL_cons, stL_nil, getS_some, pu_i, pu_s, asI_i, add_ii, nat1, sl_s, szl x hz', ck_true, cs_sg, asS_s, eq_ss, lt_ii, lt40, c34, c40, decide_true, decide_false, unl_s, unl_i, sg_some hc, hk, isS_t, oK_k, puK_t hvp, pus_2i hvp]
            exact ⟨_, rfl⟩
          · simp only [b_law_value_at_q, b_law_value_at_0t_q, b_law_value_at_2t_q, b_law_value_at_3t_q, b_law_value_at_4t_q, b_law_value_at_5t_q, b_law_value_at_8t_q, b_law_value_at_9b_q, b_law_value_at_9b_1t_q, b_law_value_at_9b_3t_q, b_law_value_at_9b_4t_q, b_law_value_at_9b_5t_q, b_law_value_at_0f_q, b_law_value_at_2f_q, b_law_value_at_3f_q, b_law_value_at_4f_q, b_law_value_at_5f_q, b_law_value_at_8f_q, b_law_value_at_9b_1f_q, b_law_value_at_9b_3f_q, b_law_value_at_9b_4f_q, b_law_value_at_9b_5f_q, b_law_value_at_0, b_law_value_at_0t_0, b_law_value_at_1, b_law_value_at_2, b_law_value_at_2t_0, b_law_value_at_3, b_law_value_at_3t_0, b_law_value_at_4, b_law_value_at_4t_0, b_law_value_at_5, b_law_value_at_5t_0, b_law_value_at_6, b_law_value_at_7, b_law_value_at_8, b_law_value_at_8t_0, b_law_value_at_9, b_law_value_at_9x, b_law_value_at_9b_0, b_law_value_at_9b_1, b_law_value_at_9b_1t_0, b_law_value_at_9b_2, b_law_value_at_9b_3, b_law_value_at_9b_3t_0, b_law_value_at_9b_4, b_law_value_at_9b_4t_0, b_law_value_at_9b_5, b_law_value_at_9b_5t_0, b_law_value_at_9b_6, b_law_value_at_10, stL_cons, stL_nil, getS_some, pu_i, pu_s, pu_t, asI_i, add_ii, nat1, neg_i, len_s, szl x hz', ck_true, le_ii, leI, lt_ii, ltI, eq_ss, eq_ii, eq40, in_o, in_TFN, in_num, c34, c40, c41, e_o, decide_true, decide_false, bnot_t, bnot_f, unl_s, unl_i, hnp, ix_sg hlt hz', sg_some hc, hT, keyD_s, oK_k, hd, puK_t hvp]
            exact ⟨_, _, rfl, rfl⟩
        rcases hT with rfl | rfl | rfl
        · exact fin (.bl true) (.bl _ _) rfl rfl
        · exact fin (.bl false) (.bl _ _) rfl rfl
        · exact fin .non (.non _) rfl rfl
      have hk : (kdGet kd_WORDS (one c)).isSome = false := by rw [kW, if_neg (by omega), if_neg (by omega), if_neg (by omega)]; rfl
      by_cases h34 : c = 34
      · subst h34
        refine ⟨TQR (p + 1) (tq ((Ls x).drop (p + 1))), OKR_t hlt, ?_, ?_⟩
        · simp only [b_value_q, b_value_1t_q, b_value_2t_q, b_value_3t_q, b_value_1f_q, b_value_2f_q, b_value_3f_q, b_value_0, b_value_1, b_value_1t_0, b_value_2, b_value_2t_0, b_value_3, b_value_3t_0, b_value_4, stL_cons, stL_nil, getS_some, pu_i, pu_s, asI_i, add_ii, nat1, sl_s, szl x hz', ck_true, cs_sg, asS_s, eq_ss, lt_ii, lt40, c34, c40, decide_true, decide_false, unl_s, unl_i, sg_some hc, hk]
          exact PE_call _ rfl (PT_PE (u_run g wf n x hz2 hw (p + 1) (by omega)))
        · simp only [b_law_value_at_q, b_law_value_at_0t_q, b_law_value_at_2t_q, b_law_value_at_3t_q, b_law_value_at_4t_q, b_law_value_at_5t_q, b_law_value_at_8t_q, b_law_value_at_9b_q, b_law_value_at_9b_1t_q, b_law_value_at_9b_3t_q, b_law_value_at_9b_4t_q, b_law_value_at_9b_5t_q, b_law_value_at_0f_q, b_law_value_at_2f_q, b_law_value_at_3f_q, b_law_value_at_4f_q, b_law_value_at_5f_q, b_law_value_at_8f_q, b_law_value_at_9b_1f_q, b_law_value_at_9b_3f_q, b_law_value_at_9b_4f_q, b_law_value_at_9b_5f_q, b_law_value_at_0, b_law_value_at_0t_0, b_law_value_at_1, b_law_value_at_2, b_law_value_at_2t_0, b_law_value_at_3, b_law_value_at_3t_0, b_law_value_at_4, b_law_value_at_4t_0, b_law_value_at_5, b_law_value_at_5t_0, b_law_value_at_6, b_law_value_at_7, b_law_value_at_8, b_law_value_at_8t_0, b_law_value_at_9, b_law_value_at_9x, b_law_value_at_9b_0, b_law_value_at_9b_1, b_law_value_at_9b_1t_0, b_law_value_at_9b_2, b_law_value_at_9b_3, b_law_value_at_9b_3t_0, b_law_value_at_9b_4, b_law_value_at_9b_4t_0, b_law_value_at_9b_5, b_law_value_at_9b_5t_0, b_law_value_at_9b_6, b_law_value_at_10, stL_cons, stL_nil, getS_some, pu_i, pu_s, pu_t, asI_i, add_ii, nat1, neg_i, len_s, szl x hz', ck_true, le_ii, leI, lt_ii, ltI, eq_ss, eq_ii, eq40, in_o, in_TFN, in_num, c34, c40, c41, e_o, decide_true, decide_false, bnot_t, bnot_f, unl_s, unl_i, hnp, ix_sg hlt hz', sg_some hc, hT]
          obtain ⟨fin, e⟩ := lt_run g2 wf m x (by omega) hA (p + 1) (by omega)
          exact LE_ret _ e (LT_LA _)
      have h34' : (c = 34) = False := eq_false h34
      by_cases h40 : c = 40 ∧ dp < 40
      · obtain ⟨rfl, hdp⟩ := h40
        obtain ⟨k, rfl⟩ : ∃ k', k = k' + 1 := ⟨k - 1, by omega⟩
        have hd40 : ¬ dp = 40 := by omega
        obtain ⟨m, rfl⟩ : ∃ n', m = n' + 1 := ⟨m - 1, by omega⟩
        have hv : VV g g2 wf (n + 1) (m + 1 + 1) x (dp + 1) k := ih k (by omega) (dp + 1) (by omega) (n + 1) (m + 1 + 1) (by omega) (by omega)
        have nnum : ¬ ((40 : Nat) = 45 ∨ (48 ≤ 40 ∧ 40 ≤ 57)) := by decide
        by_cases h41 : (Ls x)[p + 1]? = some 41
        · have hlt2 : p + 1 < x.length := by rw [← Ls_len]; exact (List.getElem?_eq_some_iff.mp h41).1
          refine ⟨.good (.tup []) (p + 2), ⟨by omega, by omega, .tup k [] (fun _ h => by simp at h) (by simp)⟩, ?_, ?_⟩
          · simp only [b_value_q, b_value_1t_q, b_value_2t_q, b_value_3t_q, b_value_1f_q, b_value_2f_q, b_value_3f_q, b_value_0, b_value_1, b_value_1t_0, b_value_2, b_value_2t_0, b_value_3, b_value_3t_0, b_value_4, stL_cons, stL_nil, getS_some, pu_i, pu_s, asI_i, add_ii, nat1, sl_s, szl x hz', ck_true, cs_sg, asS_s, eq_ss, lt_ii, lt40, c34, c40, decide_true, decide_false, unl_s, unl_i, sg_some hc, hk, e_o, h34', hdp]
            refine PE_call (r := .good (.tup []) (p + 2)) _ rfl (np := 3) ?_
            rw [cl_run g wf (n + 1) "_members" df_members _ (by kernel_rfl), show env0 df_members [.str x, .int ((p + 1 : Nat) : Int), .int ((dp + 1 : Nat) : Int)] = [some (.str x), some (.int ((p + 1 : Nat) : Int)), some (.int ((dp + 1 : Nat) : Int)), none, none, none] from rfl]
            simp only [b_members_q, b_members_0t_q, b_members_2b_q, b_members_2b_3t_q, b_members_2b_4t_q, b_members_0f_q, b_members_2b_3f_q, b_members_2b_4f_q, b_members_0, b_members_0t_0, b_members_1, b_members_2, b_members_2w, b_members_2b_0, b_members_2b_1, b_members_2b_2, b_members_2b_3, b_members_2b_3t_0, b_members_2b_4, b_members_2b_4t_0, b_members_2b_5, stL_cons, stL_nil, getS_some, pu_i, pu_s, asI_i, add_ii, nat1, sl_s, szl x hz', ck_true, cs_sg, sg_some h41, eq_ss, c41, decide_true, pus_ti]
            exact ⟨_, rfl⟩
          · simp only [b_law_value_at_q, b_law_value_at_0t_q, b_law_value_at_2t_q, b_law_value_at_3t_q, b_law_value_at_4t_q, b_law_value_at_5t_q, b_law_value_at_8t_q, b_law_value_at_9b_q, b_law_value_at_9b_1t_q, b_law_value_at_9b_3t_q, b_law_value_at_9b_4t_q, b_law_value_at_9b_5t_q, b_law_value_at_0f_q, b_law_value_at_2f_q, b_law_value_at_3f_q, b_law_value_at_4f_q, b_law_value_at_5f_q, b_law_value_at_8f_q, b_law_value_at_9b_1f_q, b_law_value_at_9b_3f_q, b_law_value_at_9b_4f_q, b_law_value_at_9b_5f_q, b_law_value_at_0, b_law_value_at_0t_0, b_law_value_at_1, b_law_value_at_2, b_law_value_at_2t_0, b_law_value_at_3, b_law_value_at_3t_0, b_law_value_at_4, b_law_value_at_4t_0, b_law_value_at_5, b_law_value_at_5t_0, b_law_value_at_6, b_law_value_at_7, b_law_value_at_8, b_law_value_at_8t_0, b_law_value_at_9, b_law_value_at_9x, b_law_value_at_9b_0, b_law_value_at_9b_1, b_law_value_at_9b_1t_0, b_law_value_at_9b_2, b_law_value_at_9b_3, b_law_value_at_9b_3t_0, b_law_value_at_9b_4, b_law_value_at_9b_4t_0, b_law_value_at_9b_5, b_law_value_at_9b_5t_0, b_law_value_at_9b_6, b_law_value_at_10, stL_cons, stL_nil, getS_some, pu_i, pu_s, pu_t, asI_i, add_ii, nat1, neg_i, len_s, szl x hz', ck_true, le_ii, leI, lt_ii, ltI, eq_ss, eq_ii, eq40, in_o, in_TFN, in_num, c34, c40, c41, e_o, decide_true, decide_false, bnot_t, bnot_f, unl_s, unl_i, hnp, ix_sg hlt hz', sg_some hc, hT, h34', nnum, hd40, hlt2, ix_sg hlt2 hz', sg_some h41]
            exact ⟨_, _, rfl, rfl⟩
        · have hsg : (sg x (p + 1) = one 41) = False := eq_false fun h => by
            rcases Nat.lt_or_ge (p + 1) x.length with q | q
            · have e : (Ls x)[p + 1]? = some ((Ls x)[p + 1]'(by rw [Ls_len]; exact q)) := List.getElem?_eq_getElem _
              rw [sg_some e] at h
              exact h41 (by rw [e, one_inj.mp h])
            · rw [sg_none q] at h
              exact absurd h (by rw [e_e]; exact id)
          have hmj := mem_joint g g2 wf (n + 1) (m + 1 + 1) x hz2 dp k hv
          have hsm := small_len (x.length + 1) (by omega)
          obtain ⟨r, okr, per, ler⟩ := hmj ⟨fun ρ1 => stL g wf (n + 1) df_members 57 [] ρ1 (nx0 df_members.np), (nx0 df_members.np).bk, (nx0 df_members.np).ct, (nx0 df_members.np).rt⟩ ⟨fun ρ1 => stL g2 wf (m + 1 + 1) df_law_value_at 50 [at1 b_law_value_at 10] ρ1 (nx0 df_law_value_at.np), (nx0 df_law_value_at.np).bk, (nx0 df_law_value_at.np).ct, (nx0 df_law_value_at.np).rt⟩ (some (.str (one 40))) wf (p + 1) [] (x.length + 1) 0 none none none none none (by omega) (by omega) (by omega) (by simp) (fun _ h => by simp at h)
          refine ⟨r, ?_, ?_, ?_⟩
          · cases r with
            | bad _ => trivial
            | good w f => exact ⟨by have := okr.1; omega, okr.2⟩
          · simp only [b_value_q, b_value_1t_q, b_value_2t_q, b_value_3t_q, b_value_1f_q, b_value_2f_q, b_value_3f_q, b_value_0, b_value_1, b_value_1t_0, b_value_2, b_value_2t_0, b_value_3, b_value_3t_0, b_value_4, stL_cons, stL_nil, getS_some, pu_i, pu_s, asI_i, add_ii, nat1, sl_s, szl x hz', ck_true, cs_sg, asS_s, eq_ss, lt_ii, lt40, c34, c40, decide_true, decide_false, unl_s, unl_i, sg_some hc, hk, e_o, h34', hdp]
            refine PE_call (r := r) _ rfl (np := 3) ?_
            rw [cl_run g wf (n + 1) "_members" df_members _ (by kernel_rfl), show env0 df_members [.str x, .int ((p + 1 : Nat) : Int), .int ((dp + 1 : Nat) : Int)] = [some (.str x), some (.int ((p + 1 : Nat) : Int)), some (.int ((dp + 1 : Nat) : Int)), none, none, none] from rfl]
            simp only [b_members_q, b_members_0, b_members_1, b_members_2, b_members_0f_q, stL_cons, stL_nil, getS_some, pu_i, pu_s, asI_i, add_ii, nat1, sl_s, szl x hz', ck_true, cs_sg, hsg, eq_ss, c41, decide_false]
            exact per
          · rcases Nat.lt_or_ge (p + 1) x.length with q | q
            · simp only [b_law_value_at_q, b_law_value_at_0t_q, b_law_value_at_2t_q, b_law_value_at_3t_q, b_law_value_at_4t_q, b_law_value_at_5t_q, b_law_value_at_8t_q, b_law_value_at_0f_q, b_law_value_at_2f_q, b_law_value_at_3f_q, b_law_value_at_4f_q, b_law_value_at_5f_q, b_law_value_at_8f_q, b_law_value_at_0, b_law_value_at_0t_0, b_law_value_at_1, b_law_value_at_2, b_law_value_at_2t_0, b_law_value_at_3, b_law_value_at_3t_0, b_law_value_at_4, b_law_value_at_4t_0, b_law_value_at_5, b_law_value_at_5t_0, b_law_value_at_6, b_law_value_at_7, b_law_value_at_8, b_law_value_at_8t_0, b_law_value_at_9, stL_cons, stL_nil, getS_some, pu_i, pu_s, pu_t, asI_i, add_ii, nat1, neg_i, len_s, szl x hz', ck_true, le_ii, leI, lt_ii, ltI, eq_ss, eq_ii, eq40, in_o, in_TFN, in_num, c34, c40, c41, e_o, decide_true, decide_false, bnot_t, bnot_f, unl_s, unl_i, hnp, ix_sg hlt hz', sg_some hc, hT, h34', nnum, hd40, q, ix_sg q hz', hsg, hsm, Int.toNat_natCast, rngL_nat]
              exact ler
            · have q' : ¬ p + 1 < x.length := by omega
              simp only [b_law_value_at_q, b_law_value_at_0t_q, b_law_value_at_2t_q, b_law_value_at_3t_q, b_law_value_at_4t_q, b_law_value_at_5t_q, b_law_value_at_8t_q, b_law_value_at_0f_q, b_law_value_at_2f_q, b_law_value_at_3f_q, b_law_value_at_4f_q, b_law_value_at_5f_q, b_law_value_at_8f_q, b_law_value_at_0, b_law_value_at_0t_0, b_law_value_at_1, b_law_value_at_2, b_law_value_at_2t_0, b_law_value_at_3, b_law_value_at_3t_0, b_law_value_at_4, b_law_value_at_4t_0, b_law_value_at_5, b_law_value_at_5t_0, b_law_value_at_6, b_law_value_at_7, b_law_value_at_8, b_law_value_at_8t_0, b_law_value_at_9, stL_cons, stL_nil, getS_some, pu_i, pu_s, pu_t, asI_i, add_ii, nat1, neg_i, len_s, szl x hz', ck_true, le_ii, leI, lt_ii, ltI, eq_ss, eq_ii, eq40, in_o, in_TFN, in_num, c34, c40, c41, e_o, decide_true, decide_false, bnot_t, bnot_f, unl_s, unl_i, hnp, ix_sg hlt hz', sg_some hc, hT, h34', nnum, hd40, q', hsm, Int.toNat_natCast, rngL_nat]
              exact ler
      · -- an integer, or nothing
        have hv40 : (decide (one c = one 40) = true → ¬ dp < 40) := fun h hh => h40 ⟨one_inj.mp (of_decide_eq_true h), hh⟩
        have hstep : ∀ E : Nx, stL g wf (n + 2) df_value 60 df_value.body [some (.str x), some (.int (p : Int)), some (.int (dp : Int)), none] E = onRet (cl g wf (n + 2) "_integer" [.str x, .int (p : Int)]) (fun d fin => E.rt d [some (.str x), some (.int (p : Int)), some (.int (dp : Int)), some (.str (one c))]) exX := fun E => by
          by_cases h40c : c = 40
          · have hdp : ¬ dp < 40 := fun h => h40 ⟨h40c, h⟩
            subst h40c
            simp only [b_value_q, b_value_1t_q, b_value_2t_q, b_value_3t_q, b_value_1f_q, b_value_2f_q, b_value_3f_q, b_value_0, b_value_1, b_value_1t_0, b_value_2, b_value_2t_0, b_value_3, b_value_3t_0, b_value_4, stL_cons, stL_nil, getS_some, pu_i, pu_s, asI_i, add_ii, nat1, sl_s, szl x hz', ck_true, cs_sg, asS_s, eq_ss, lt_ii, lt40, c34, c40, decide_true, decide_false, unl_s, unl_i, sg_some hc, hk, e_o, h34', hdp]
          · simp only [b_value_q, b_value_1t_q, b_value_2t_q, b_value_3t_q, b_value_1f_q, b_value_2f_q, b_value_3f_q, b_value_0, b_value_1, b_value_1t_0, b_value_2, b_value_2t_0, b_value_3, b_value_3t_0, b_value_4, stL_cons, stL_nil, getS_some, pu_i, pu_s, asI_i, add_ii, nat1, sl_s, szl x hz', ck_true, cs_sg, asS_s, eq_ss, lt_ii, lt40, c34, c40, decide_true, decide_false, unl_s, unl_i, sg_some hc, hk, e_o, h34', h40c]
        rw [hstep]
        by_cases hnum : c = 45 ∨ (48 ≤ c ∧ c ≤ 57)
        · have n40 : (c = 40) = False := eq_false (by omega)
          have run : ∀ (neg : Bool), decide (sg x p = one 45) = neg → (neg = true → (Ls x)[p]? = some 45) → ∃ r, OKR x p k r ∧ PE (nx0 3) r (onRet (cl g wf (n + 2) "_integer" [.str x, .int (p : Int)]) (fun d fin => (nx0 df_value.np).rt d [some (.str x), some (.int (p : Int)), some (.int (dp : Int)), some (.str (one c))]) exX) ∧ LE (nx0 3) x r (stL g2 wf (m + 1) df_law_value_at 60 df_law_value_at.body [some (.str x), some (.int (p : Int)), some (.int (dp : Int)), none, none, none, none, none] (nx0 df_law_value_at.np)) := fun neg hn hsg => by
            obtain ⟨ds, r, hr, hd, hr'⟩ := split_dig ((Ls x).drop (if neg then p + 1 else p))
            have hln : (if neg then p + 1 else p) + ds.length ≤ x.length := by
              have := congrArg List.length hr
              rw [List.length_drop, Ls_len, List.length_append] at this
              cases neg with
              | true =>
                have h2 : x.length - (p + 1) = ds.length + r.length := this
                show p + 1 + ds.length ≤ x.length
                omega
              | false =>
                have h2 : x.length - p = ds.length + r.length := this
                show p + ds.length ≤ x.length
                omega
            refine ⟨iqR (if neg then p + 1 else p) neg ds, OKR_i (by split <;> omega) hln, PE_call _ rfl (np := 2) (int_run g wf (n + 1) x hz p neg hn ds r hr hd hr'), ?_⟩
            simp only [b_law_value_at_q, b_law_value_at_0t_q, b_law_value_at_2t_q, b_law_value_at_3t_q, b_law_value_at_4t_q, b_law_value_at_5t_q, b_law_value_at_8t_q, b_law_value_at_9b_q, b_law_value_at_9b_1t_q, b_law_value_at_9b_3t_q, b_law_value_at_9b_4t_q, b_law_value_at_9b_5t_q, b_law_value_at_0f_q, b_law_value_at_2f_q, b_law_value_at_3f_q, b_law_value_at_4f_q, b_law_value_at_5f_q, b_law_value_at_8f_q, b_law_value_at_9b_1f_q, b_law_value_at_9b_3f_q, b_law_value_at_9b_4f_q, b_law_value_at_9b_5f_q, b_law_value_at_0, b_law_value_at_0t_0, b_law_value_at_1, b_law_value_at_2, b_law_value_at_2t_0, b_law_value_at_3, b_law_value_at_3t_0, b_law_value_at_4, b_law_value_at_4t_0, b_law_value_at_5, b_law_value_at_5t_0, b_law_value_at_6, b_law_value_at_7, b_law_value_at_8, b_law_value_at_8t_0, b_law_value_at_9, b_law_value_at_9x, b_law_value_at_9b_0, b_law_value_at_9b_1, b_law_value_at_9b_1t_0, b_law_value_at_9b_2, b_law_value_at_9b_3, b_law_value_at_9b_3t_0, b_law_value_at_9b_4, b_law_value_at_9b_4t_0, b_law_value_at_9b_5, b_law_value_at_9b_5t_0, b_law_value_at_9b_6, b_law_value_at_10, stL_cons, stL_nil, getS_some, pu_i, pu_s, pu_t, asI_i, add_ii, nat1, neg_i, len_s, szl x hz', ck_true, le_ii, leI, lt_ii, ltI, eq_ss, eq_ii, eq40, in_o, in_TFN, in_num, c34, c40, c41, e_o, decide_true, decide_false, bnot_t, bnot_f, unl_s, unl_i, hnp, ix_sg hlt hz', sg_some hc, hT, h34', hnum]
            exact LE_call _ rfl (np := 2) (ld_run g2 wf m x hz p hlt neg hn hsg ds r hr hd hr')
          by_cases h45 : c = 45
          · subst h45
            exact run true (by rw [sg_some hc]; exact decide_eq_true rfl) fun _ => hc
          · exact run false (by rw [sg_some hc]; exact decide_eq_false fun h => h45 (one_inj.mp h)) fun h => by cases h
        · refine ⟨.bad p, trivial, ?_, ?_⟩
          · have hi := int_run g wf (n + 1) x hz p false (by rw [sg_some hc]; exact decide_eq_false fun h => hnum (.inl (one_inj.mp h))) [] (c :: (Ls x).drop (p + 1)) hdr (fun _ h => by simp at h) (.inr ⟨c, _, rfl, fun h => hnum (.inr h)⟩)
            exact PE_call (r := .bad p) _ rfl (np := 2) hi
          · by_cases h40c : c = 40
            · have hdp : dp = 40 := by
                rcases Nat.lt_or_ge dp 40 with h | h
                · exact absurd ⟨h40c, h⟩ h40
                · omega
              subst h40c
              subst hdp
              have nnum : ¬ ((40 : Nat) = 45 ∨ (48 ≤ 40 ∧ 40 ≤ 57)) := by decide
              simp only [b_law_value_at_q, b_law_value_at_0t_q, b_law_value_at_2t_q, b_law_value_at_3t_q, b_law_value_at_4t_q, b_law_value_at_5t_q, b_law_value_at_8t_q, b_law_value_at_9b_q, b_law_value_at_9b_1t_q, b_law_value_at_9b_3t_q, b_law_value_at_9b_4t_q, b_law_value_at_9b_5t_q, b_law_value_at_0f_q, b_law_value_at_2f_q, b_law_value_at_3f_q, b_law_value_at_4f_q, b_law_value_at_5f_q, b_law_value_at_8f_q, b_law_value_at_9b_1f_q, b_law_value_at_9b_3f_q, b_law_value_at_9b_4f_q, b_law_value_at_9b_5f_q, b_law_value_at_0, b_law_value_at_0t_0, b_law_value_at_1, b_law_value_at_2, b_law_value_at_2t_0, b_law_value_at_3, b_law_value_at_3t_0, b_law_value_at_4, b_law_value_at_4t_0, b_law_value_at_5, b_law_value_at_5t_0, b_law_value_at_6, b_law_value_at_7, b_law_value_at_8, b_law_value_at_8t_0, b_law_value_at_9, b_law_value_at_9x, b_law_value_at_9b_0, b_law_value_at_9b_1, b_law_value_at_9b_1t_0, b_law_value_at_9b_2, b_law_value_at_9b_3, b_law_value_at_9b_3t_0, b_law_value_at_9b_4, b_law_value_at_9b_4t_0, b_law_value_at_9b_5, b_law_value_at_9b_5t_0, b_law_value_at_9b_6, b_law_value_at_10, stL_cons, stL_nil, getS_some, pu_i, pu_s, pu_t, asI_i, add_ii, nat1, neg_i, len_s, szl x hz', ck_true, le_ii, leI, lt_ii, ltI, eq_ss, eq_ii, eq40, in_o, in_TFN, in_num, c34, c40, c41, e_o, decide_true, decide_false, bnot_t, bnot_f, unl_s, unl_i, hnp, ix_sg hlt hz', sg_some hc, hT, h34', nnum]
              exact ⟨_, _, rfl, .inl rfl⟩
            · simp only [b_law_value_at_q, b_law_value_at_0t_q, b_law_value_at_2t_q, b_law_value_at_3t_q, b_law_value_at_4t_q, b_law_value_at_5t_q, b_law_value_at_8t_q, b_law_value_at_9b_q, b_law_value_at_9b_1t_q, b_law_value_at_9b_3t_q, b_law_value_at_9b_4t_q, b_law_value_at_9b_5t_q, b_law_value_at_0f_q, b_law_value_at_2f_q, b_law_value_at_3f_q, b_law_value_at_4f_q, b_law_value_at_5f_q, b_law_value_at_8f_q, b_law_value_at_9b_1f_q, b_law_value_at_9b_3f_q, b_law_value_at_9b_4f_q, b_law_value_at_9b_5f_q, b_law_value_at_0, b_law_value_at_0t_0, b_law_value_at_1, b_law_value_at_2, b_law_value_at_2t_0, b_law_value_at_3, b_law_value_at_3t_0, b_law_value_at_4, b_law_value_at_4t_0, b_law_value_at_5, b_law_value_at_5t_0, b_law_value_at_6, b_law_value_at_7, b_law_value_at_8, b_law_value_at_8t_0, b_law_value_at_9, b_law_value_at_9x, b_law_value_at_9b_0, b_law_value_at_9b_1, b_law_value_at_9b_1t_0, b_law_value_at_9b_2, b_law_value_at_9b_3, b_law_value_at_9b_3t_0, b_law_value_at_9b_4, b_law_value_at_9b_4t_0, b_law_value_at_9b_5, b_law_value_at_9b_5t_0, b_law_value_at_9b_6, b_law_value_at_10, stL_cons, stL_nil, getS_some, pu_i, pu_s, pu_t, asI_i, add_ii, nat1, neg_i, len_s, szl x hz', ck_true, le_ii, leI, lt_ii, ltI, eq_ss, eq_ii, eq40, in_o, in_TFN, in_num, c34, c40, c41, e_o, decide_true, decide_false, bnot_t, bnot_f, unl_s, unl_i, hnp, ix_sg hlt hz', sg_some hc, hT, h34', hnum, h40c]
              exact ⟨_, _, rfl, .inl rfl⟩
    · have e : p = x.length := by omega
      have hdr : (Ls x).drop p = [] := List.drop_of_length_le (by rw [Ls_len]; exact hge)
      refine ⟨.bad p, trivial, ?_, ?_⟩
      · have hi := int_run g wf (n + 1) x hz p false (by rw [sg_none hge]; exact decide_eq_false (by rw [e_e]; exact id)) [] [] hdr (fun _ h => by simp at h) (.inl rfl)
        have hstep : ∀ E : Nx, stL g wf (n + 2) df_value 60 df_value.body [some (.str x), some (.int (p : Int)), some (.int (dp : Int)), none] E = onRet (cl g wf (n + 2) "_integer" [.str x, .int (p : Int)]) (fun d fin => E.rt d [some (.str x), some (.int (p : Int)), some (.int (dp : Int)), some (.str emp)]) exX := fun E => by
          simp only [b_value_q, b_value_1t_q, b_value_2t_q, b_value_3t_q, b_value_1f_q, b_value_2f_q, b_value_3f_q, b_value_0, b_value_1, b_value_1t_0, b_value_2, b_value_2t_0, b_value_3, b_value_3t_0, b_value_4, stL_cons, stL_nil, getS_some, pu_i, pu_s, asI_i, add_ii, nat1, sl_s, szl x hz', ck_true, cs_sg, asS_s, eq_ss, lt_ii, lt40, c34, c40, decide_true, decide_false, unl_s, unl_i, sg_none hge, kW0, isN_f, e_e]
        rw [hstep]
        exact PE_call (r := .bad p) _ rfl (np := 2) hi
      · simp only [b_law_value_at_q, b_law_value_at_0t_q, b_law_value_at_2t_q, b_law_value_at_3t_q, b_law_value_at_4t_q, b_law_value_at_5t_q, b_law_value_at_8t_q, b_law_value_at_9b_q, b_law_value_at_9b_1t_q, b_law_value_at_9b_3t_q, b_law_value_at_9b_4t_q, b_law_value_at_9b_5t_q, b_law_value_at_0f_q, b_law_value_at_2f_q, b_law_value_at_3f_q, b_law_value_at_4f_q, b_law_value_at_5f_q, b_law_value_at_8f_q, b_law_value_at_9b_1f_q, b_law_value_at_9b_3f_q, b_law_value_at_9b_4f_q, b_law_value_at_9b_5f_q, b_law_value_at_0, b_law_value_at_0t_0, b_law_value_at_1, b_law_value_at_2, b_law_value_at_2t_0, b_law_value_at_3, b_law_value_at_3t_0, b_law_value_at_4, b_law_value_at_4t_0, b_law_value_at_5, b_law_value_at_5t_0, b_law_value_at_6, b_law_value_at_7, b_law_value_at_8, b_law_value_at_8t_0, b_law_value_at_9, b_law_value_at_9x, b_law_value_at_9b_0, b_law_value_at_9b_1, b_law_value_at_9b_1t_0, b_law_value_at_9b_2, b_law_value_at_9b_3, b_law_value_at_9b_3t_0, b_law_value_at_9b_4, b_law_value_at_9b_4t_0, b_law_value_at_9b_5, b_law_value_at_9b_5t_0, b_law_value_at_9b_6, b_law_value_at_10, stL_cons, stL_nil, getS_some, pu_i, pu_s, pu_t, asI_i, add_ii, nat1, neg_i, len_s, szl x hz', ck_true, le_ii, leI, lt_ii, ltI, eq_ss, eq_ii, eq40, in_o, in_TFN, in_num, c34, c40, c41, e_o, decide_true, decide_false, bnot_t, bnot_f, unl_s, unl_i, hge]
        exact ⟨_, _, rfl, .inl (by rw [e])⟩
end K29
set_option Elab.async false
set_option linter.all false
set_option maxRecDepth 100000
set_option maxHeartbeats 4000000
/-! the defs of the text, as the evaluator runs them -/
namespace K29
open PySem PySem.Spec PyProof.Rows L2 TI
/-! BODY -/
/-! whole texts; what is the same -/
open PySem.NumText
inductive Out | g (v : D) | b (q : Nat)
def OD : Out → D
  | .g v => .tup [.str "good", v]
  | .b q => .tup [.str "bad", .int (q : Int)]
def toldR (r : Res) : Res := match r with
  | .ret d _ => pusK [.str "good", d] (.ret (.tup [.str "good", d]) [none])
  | .exc c fs => (match fs with
    | [(f, d)] => ckK (decide (c = "BadPlain") && decide (f = "place")) (.ret (.tup [.str "bad", d]) [none])
    | _ => .stuck)
  | .stuck => .stuck
def gTold (wf lv : Nat) (ds : List D) : Res := match ds with
  | [.str x] => toldR (cl (fun _ => .stuck) wf lv "read_plain" [.str x])
  | _ => .stuck
/-- what `read_plain` answers -/
def RP (o : Out) (res : Res) : Prop := match o with
  | .g v => ∃ fin, res = .ret v fin
  | .b q => res = .exc "BadPlain" [("place", .int (q : Int))]
theorem unp_t2 (v : D) (i : Int) (k : List D → Res) : unpK 2 (.tup [v, .int i]) k = k [v, .int i] := rfl
theorem ret_t {d : D} (h : d.pu = true) (a b : Res) : retK d a b = a := by unfold retK; rw [h]
theorem pus_s1 {d : D} (h : d.pu = true) (s : Str) (r : Res) : pusK [.str s, d] r = r := pusK_t (by show (true && (d.pu && true)) = true; rw [h]; rfl) r
theorem read_joint (g g2 : List D → Res) (wf n m : Nat) (hn : 83 ≤ n) (hm : 42 ≤ m) (x : Str) (hz : x.length + 2001 ≤ szLine) (hw : x.length < wf) (hA : Alp x) : ∃ o : Out, (∀ v, o = .g v → Vl 40 v) ∧ RP o (cl g wf (n + 1) "read_plain" [.str x]) ∧ ∃ fin, cl g2 wf (m + 1) "_law_read" [.str x] = .ret (OD o) fin := by
  have hz' : x.length ≤ szLine := by omega
  obtain ⟨r, ok, pe, d, ρ, le, la⟩ := val_joint g g2 wf x hz hw hA 40 0 rfl n m (by omega) (by omega) 0 (by omega)
  rw [cl_run g wf n "read_plain" df_read_plain _ (by kernel_rfl), show env0 df_read_plain [.str x] = [some (.str x), none, none] from rfl]
  rw [cl_run g2 wf m "_law_read" df_law_read _ (by kernel_rfl), show env0 df_law_read [.str x] = [some (.str x), none, none] from rfl]
  rw [b_read_plain_q, stL_cons, b_read_plain_0, b_law_read_q, stL_cons, b_law_read_0]
  simp only [getS_some]
  have e0 : ((0 : Nat) : Int) = 0 := rfl
  rw [e0] at pe le
  rw [le, nx0_rt, onRet_ret]
  cases r with
  | bad q =>
    rw [show cl g wf n "_value" [.str x, .int 0, .int 0] = _ from pe, onRet_exc, exX_bad]
    refine ⟨.b q, (fun v h => by cases h), rfl, ?_⟩
    rcases la with rfl | ⟨v, hvp, rfl, c, hc, hcd⟩
    · simp only [b_law_read_q, b_law_read_1t_q, b_law_read_1f_q, b_law_read_0, b_law_read_1, b_law_read_1t_0, b_law_read_2, stL_cons, stL_nil, unp_l (v := .int (q : Int)) rfl, cons_c, nil_n, unl_s, getS_some, pu_i, neg_i, eq_ii, decide_true, pus_si]
      exact ⟨_, rfl⟩
    · have hlt : q < x.length := by rw [← Ls_len]; exact (List.getElem?_eq_some_iff.mp hc).1
      have hne : (q = x.length) = False := eq_false (by omega)
      simp only [b_law_read_q, b_law_read_1t_q, b_law_read_1f_q, b_law_read_0, b_law_read_1, b_law_read_1t_0, b_law_read_2, stL_cons, stL_nil, unp_l hvp, cons_c, nil_n, unl_s, getS_some, pu_i, neg_i, eq_ii, ne_m1, eqI, hne, len_s, szl x hz', ck_true, decide_false, pus_si]
      exact ⟨_, rfl⟩
  | good v e =>
    obtain ⟨_, hel, hv⟩ := ok
    obtain ⟨ρ2, pe⟩ := pe
    have hvp := hv.pu
    have la' : d = .lst [v, .int (e : Int)] := la
    subst la'
    rw [pe, nx0_rt, onRet_ret]
    by_cases h : e = x.length
    · subst h
      refine ⟨.g v, (fun v h => by cases h; exact hv), ?_, ?_⟩
      · simp only [b_read_plain_q, b_read_plain_1t_q, b_read_plain_1f_q, b_read_plain_0, b_read_plain_1, b_read_plain_1t_0, b_read_plain_2, stL_cons, stL_nil, unp_t, cons_c, nil_n, unl_s, getS_some, pu_i, len_s, szl x hz', ck_true, eq_ii, decide_true, bnot_t, ret_t hvp]
        exact ⟨_, rfl⟩
      · simp only [b_law_read_q, b_law_read_1t_q, b_law_read_1f_q, b_law_read_0, b_law_read_1, b_law_read_1t_0, b_law_read_2, stL_cons, stL_nil, unp_l hvp, cons_c, nil_n, unl_s, getS_some, pu_i, puK_t hvp, neg_i, eq_ii, ne_m1, len_s, szl x hz', ck_true, decide_true, decide_false, pus_s1 hvp]
        exact ⟨_, rfl⟩
    · have hne : (e = x.length) = False := eq_false h
      refine ⟨.b e, (fun v h => by cases h), ?_, ?_⟩
      · simp only [b_read_plain_q, b_read_plain_1t_q, b_read_plain_1f_q, b_read_plain_0, b_read_plain_1, b_read_plain_1t_0, b_read_plain_2, stL_cons, stL_nil, unp_t, cons_c, nil_n, unl_s, getS_some, pu_i, len_s, szl x hz', ck_true, eq_ii, eqI, hne, decide_false, bnot_f, pus_i]
        rfl
      · simp only [b_law_read_q, b_law_read_1t_q, b_law_read_1f_q, b_law_read_0, b_law_read_1, b_law_read_1t_0, b_law_read_2, stL_cons, stL_nil, unp_l hvp, cons_c, nil_n, unl_s, getS_some, pu_i, neg_i, eq_ii, ne_m1, eqI, hne, len_s, szl x hz', ck_true, decide_false, pus_si]
        exact ⟨_, rfl⟩
theorem q_non (g : List D → Res) (wf n : Nat) : cl g wf (n + 1) "_law_same" [.non, .non] = .ret (.bl true) [none, none] := by kernel_rfl
theorem q_true (g : List D → Res) (wf n : Nat) : cl g wf (n + 1) "_law_same" [.bl true, .bl true] = .ret (.bl true) [none, none] := by kernel_rfl
theorem q_false (g : List D → Res) (wf n : Nat) : cl g wf (n + 1) "_law_same" [.bl false, .bl false] = .ret (.bl true) [none, none] := by kernel_rfl
theorem q_int (g : List D → Res) (wf n : Nat) (i : Int) : cl g wf (n + 1) "_law_same" [.int i, .int i] = .ret (.bl (decide (i = i))) [none, none] := by kernel_rfl
theorem q_str (g : List D → Res) (wf n : Nat) (i : Str) : cl g wf (n + 1) "_law_same" [.str i, .str i] = .ret (.bl (decide (i = i))) [none, none] := by kernel_rfl
theorem isi_t (l : List D) (k : D → Res) : dIsi (.tup l) "tuple" k = k (.bl true) := by kernel_rfl
theorem len_t (l : List D) (k : D → Res) : dLen (.tup l) k = k (.int ((l.length : Nat) : Int)) := rfl
theorem ix_t (l : List D) (i : Nat) (h : i < l.length) (k : D → Res) : dIx (.tup l) (.int (i : Int)) k = k l[i] := by
  have : atI l (i : Int) = some l[i] := by
    unfold atI ixN
    rw [if_pos (by omega), if_pos (by omega)]
    show l[((i : Int)).toNat]? = _
    rw [Int.toNat_natCast, List.getElem?_eq_getElem h]
  show atK l (i : Int) k = _
  unfold atK
  rw [this]
theorem same_loop (g : List D → Res) (wf n : Nat) (ds : List D) (hp : ∀ d ∈ ds, d.pu = true) (hs : ∀ d ∈ ds, ∃ fin, cl g wf n "_law_same" [d, d] = .ret (.bl true) fin) (E : Nx) : ∀ (j i : Nat), i + j = ds.length → ∀ o, ∃ o', forC (fst g wf n df_law_same 57 (at1 b_law_same_0t 1)) ((List.range' i j).map fun (i : Nat) => D.int (i : Int)) [some (.tup ds), some (.tup ds), o] E = E.nx [some (.tup ds), some (.tup ds), o'] := by
  intro j
  induction j with
  | zero => intro i _ o; exact ⟨o, rfl⟩
  | succ j ih =>
    intro i hi o
    have hlt : i < ds.length := by omega
    have hm := List.getElem_mem hlt
    obtain ⟨fin, e⟩ := hs _ hm
    rw [List.range'_succ, List.map_cons, forC_cons]
    simp only [b_law_same_0t_1x, b_law_same_0t_1b_q, b_law_same_0t_1b_0, b_law_same_0t_1b_0f_q, stL_cons, stL_nil, getS_some, ix_t ds i hlt, puK_t (hp _ hm), e, onRet_ret, tru_b, bnot_t]
    exact ih (i + 1) (by omega) _
theorem same_ok (g : List D → Res) (wf : Nat) : ∀ (k : Nat) (d : D), Vl k d → ∀ n, k + 1 ≤ n → ∃ fin, cl g wf n "_law_same" [d, d] = .ret (.bl true) fin := by
  intro k
  induction k using Nat.strongRecOn with
  | _ k ih =>
    intro d hd n hn
    obtain ⟨n, rfl⟩ : ∃ n', n = n' + 1 := ⟨n - 1, by omega⟩
    cases hd with
    | non => exact ⟨_, q_non g wf n⟩
    | bl _ b => cases b
                · exact ⟨_, q_false g wf n⟩
                · exact ⟨_, q_true g wf n⟩
    | int _ i => rw [q_int, decide_eq_true rfl]; exact ⟨_, rfl⟩
    | str _ x => rw [q_str, decide_eq_true rfl]; exact ⟨_, rfl⟩
    | tup k ds h hl =>
      rw [cl_run g wf n "_law_same" df_law_same _ (by kernel_rfl), show env0 df_law_same [.tup ds, .tup ds] = [some (.tup ds), some (.tup ds), none] from rfl]
      have hlp := same_loop g wf n ds (fun d hd => (h d hd).pu) (fun d hd => ih k (by omega) d (h d hd) n (by omega))
      simp only [b_law_same_q, b_law_same_0, b_law_same_0t_q, b_law_same_0t_0, b_law_same_0t_0f_q, b_law_same_0t_1, stL_cons, stL_nil, getS_some, isi_t, tru_b, bnot_t, len_t, eq_ii, decide_true, asI_i, small_len ds.length (by omega), ck_true, Int.toNat_natCast, rngL_nat]
      have key : ∀ E : Nx, (∀ o', ∃ fin, E.nx [some (.tup ds), some (.tup ds), o'] = .ret (.bl true) fin) → ∃ fin, forC (fst g wf n df_law_same 57 (at1 b_law_same_0t 1)) ((List.range' 0 ds.length).map fun (i : Nat) => D.int (i : Int)) [some (.tup ds), some (.tup ds), none] E = .ret (.bl true) fin := fun E h => by
        obtain ⟨o', e⟩ := hlp E ds.length 0 (by omega) none
        rw [e]
        exact h o'
      refine key _ fun o' => ?_
      dsimp only
      rw [b_law_same_0t_2]
      exact ⟨_, rfl⟩
theorem OD_vl {o : Out} (h : ∀ v, o = .g v → Vl 40 v) : Vl 41 (OD o) := by
  cases o with
  | g v => exact .tup 40 _ (fun d hd => by
      rcases List.mem_cons.mp hd with rfl | hd
      · exact .str _ _
      · rw [List.mem_singleton.mp hd]; exact h v rfl) (by unfold szLine; simp)
  | b q => exact .tup 40 _ (fun d hd => by
      rcases List.mem_cons.mp hd with rfl | hd
      · exact .str _ _
      · rw [List.mem_singleton.mp hd]; exact .int _ _) (by unfold szLine; simp)
theorem told_ext (g : List D → Res) (wf n : Nat) (ds : List D) : cl g wf (n + 1) "_law_told" ds = g ds := by kernel_rfl
theorem told_ok {o : Out} {wf lv : Nat} {x : Str} (hv : ∀ v, o = .g v → Vl 40 v) (h : RP o (cl (fun _ => .stuck) wf lv "read_plain" [.str x])) : gTold wf lv [.str x] = .ret (OD o) [none] := by
  unfold gTold
  dsimp only
  cases o with
  | g v =>
    obtain ⟨fin, e⟩ := h
    rw [e]
    exact pus_s1 (hv v rfl).pu _ _
  | b q =>
    rw [show cl (fun _ => .stuck) wf lv "read_plain" [.str x] = _ from h]
    show ckK (decide (("BadPlain" : Str) = "BadPlain") && decide (("place" : Str) = "place")) _ = _
    rw [decide_eq_true rfl, decide_eq_true rfl]
    rfl
/-- the two answers are the same -/
theorem text_ok (wf lv n : Nat) (hl : 84 ≤ lv) (hn : 44 ≤ n) (x : Str) (hz : x.length + 2001 ≤ szLine) (hw : x.length < wf) (hA : Alp x) : ∃ d, d.pu = true ∧ (∃ fin, cl (gTold wf lv) wf n "_law_read" [.str x] = .ret d fin) ∧ cl (gTold wf lv) wf n "_law_told" [.str x] = .ret d [none] ∧ ∃ fin, cl (gTold wf lv) wf n "_law_same" [d, d] = .ret (.bl true) fin := by
  obtain ⟨lv, rfl⟩ : ∃ l, lv = l + 1 := ⟨lv - 1, by omega⟩
  obtain ⟨n, rfl⟩ : ∃ l, n = l + 1 := ⟨n - 1, by omega⟩
  obtain ⟨o, hv, rp, lr⟩ := read_joint (fun _ => .stuck) (gTold wf (lv + 1)) wf lv n (by omega) (by omega) x hz hw hA
  have hvl := OD_vl hv
  refine ⟨OD o, hvl.pu, lr, ?_, same_ok _ wf 41 _ hvl (n + 1) (by omega)⟩
  rw [told_ext]
  exact told_ok hv rp
end K29
set_option Elab.async false
set_option linter.all false
set_option maxRecDepth 100000
set_option maxHeartbeats 4000000
/-! the defs of the text, as the evaluator runs them -/
namespace K29
open PySem PySem.Spec PyProof.Rows L2 TI
/-! BODY -/
/-! draws and digits -/
theorem nx0_rt' (np : Nat) (d : D) (ρ : TI.Env) : (nx0 np).rt d ρ = .ret d (finOf np ρ) := rfl
theorem mul_ii (i j : Int) (k : D → Res) : dMul (.int i) (.int j) k = ckK (mulOk i j) (k (.int (i * j))) := rfl
theorem mod_ii (i j : Int) (k : D → Res) : dMod (.int i) (.int j) k = ckK (decide (j ≠ 0)) (k (.int (i.fmod j))) := rfl
theorem div_ii (i j : Int) (k : D → Res) : dDiv (.int i) (.int j) k = ckK (divOk j) (k (.int (i.fdiv j))) := rfl
theorem len_l (l : List D) (k : D → Res) : dLen (.lst l) k = k (.int ((l.length : Nat) : Int)) := rfl
theorem len_r (l : List D) (k : D → Res) : dLen (.rol l) k = k (.int ((l.length : Nat) : Int)) := rfl
theorem mul_l (i j : Int) (h : i.natAbs < 18446744073709551616) : mulOk i j = true := by unfold mulOk; rw [decide_eq_true h]; rfl
theorem mul_r (i j : Int) (h : j.natAbs < 18446744073709551616) : mulOk i j = true := by unfold mulOk; rw [decide_eq_true h, Bool.or_true, Bool.true_or]
theorem atI_nat {α : Type} (l : List α) (i : Nat) (h : i < l.length) : atI l (i : Int) = some l[i] := by
  unfold atI ixN
  rw [if_pos (by omega), if_pos (by omega)]
  show l[((i : Int)).toNat]? = _
  rw [Int.toNat_natCast, List.getElem?_eq_getElem h]
theorem ix_il (xs : List Int) (i : Nat) (h : i < xs.length) (k : D → Res) : dIx (.lst (xs.map D.int)) (.int (i : Int)) k = k (.int xs[i]) := by
  show atK _ (i : Int) k = _
  unfold atK
  rw [atI_nat _ i (by rw [List.length_map]; exact h), List.getElem_map]
theorem ix_ir (xs : List Int) (i : Nat) (h : i < xs.length) (k : D → Res) : dIx (.rol (xs.map D.int)) (.int (i : Int)) k = k (.int xs[i]) := by
  show atK _ (i : Int) k = _
  unfold atK
  rw [atI_nat _ i (by rw [List.length_map]; exact h), List.getElem_map]
abbrev box (xs : List Int) (a : Nat) : D := .lst [.lst (xs.map D.int), .int (a : Int)]
theorem box_0 (x y : D) (k : D → Res) : dIx (.lst [x, y]) (.int 0) k = k x := rfl
theorem box_1 (x y : D) (k : D → Res) : dIx (.lst [x, y]) (.int 1) k = k y := rfl
theorem box_o (x y : D) (k : Nat → Res) : oK (ixN ([x, y] : List D).length 1) k = k 1 := rfl
theorem box_set (x y z : D) : List.set [x, y] 1 z = [x, z] := rfl
theorem pow18 (k : D → Res) : dPow (.int 10) (.int 18) k = k (.int 1000000000000000000) := by kernel_rfl
theorem map_len (xs : List Int) : (xs.map D.int).length = xs.length := List.length_map ..
/-- a draw -/
theorem draw_ok (g : List D → Res) (wf n : Nat) (xs : List Int) (a : Nat) (many : Int) (hm : 0 < many) : ∃ v : Int, 0 ≤ v ∧ v < many ∧ ∃ o, cl g wf (n + 1) "_law_draw" [box xs a, .int many] = .ret (.int v) [some (box xs (a + 1)), o] := by
  rw [cl_run g wf n "_law_draw" df_law_draw _ (by kernel_rfl), show env0 df_law_draw [box xs a, .int many] = [some (box xs a), some (.int many), none] from rfl]
  have hne : decide (many ≠ 0) = true := decide_eq_true (by omega)
  by_cases h : a < xs.length
  · simp only [b_law_draw_q, b_law_draw_2t_q, b_law_draw_2f_q, b_law_draw_0, b_law_draw_1, b_law_draw_2, b_law_draw_2t_0, b_law_draw_3, stL_cons, stL_nil, getS_some, box_0, box_1, pu_i, add_ii, nat1, asL_l, box_o, box_set, len_l, map_len, lt_ii, ltI, h, decide_true, ix_il xs a h, int_i, mod_ii, hne, ck_true]
    exact ⟨_, Int.fmod_nonneg_of_pos _ hm, Int.fmod_lt_of_pos _ hm, _, rfl⟩
  · simp only [b_law_draw_q, b_law_draw_2t_q, b_law_draw_2f_q, b_law_draw_0, b_law_draw_1, b_law_draw_2, b_law_draw_2t_0, b_law_draw_3, stL_cons, stL_nil, getS_some, box_0, box_1, pu_i, add_ii, nat1, asL_l, box_o, box_set, len_l, map_len, lt_ii, ltI, h, decide_false, mul_ii, mul_r _ 7 (by decide), int_i, mod_ii, hne, ck_true]
    exact ⟨_, Int.fmod_nonneg_of_pos _ hm, Int.fmod_lt_of_pos _ hm, _, rfl⟩
theorem cell_ok (g : List D → Res) (wf n : Nat) (ns : List Int) (k : Nat) : ∃ z fin, cl g wf (n + 1) "_law_cell" [.rol (ns.map D.int), .int (k : Int)] = .ret (.int z) fin := by
  rw [cl_run g wf n "_law_cell" df_law_cell _ (by kernel_rfl), show env0 df_law_cell [.rol (ns.map D.int), .int (k : Int)] = [some (.rol (ns.map D.int)), some (.int (k : Int))] from rfl]
  by_cases h : k < ns.length
  · simp only [b_law_cell_q, b_law_cell_0t_q, b_law_cell_0f_q, b_law_cell_0, b_law_cell_0t_0, b_law_cell_1, stL_cons, stL_nil, getS_some, pu_i, len_r, map_len, lt_ii, ltI, h, decide_true, ix_ir ns k h]
    exact ⟨_, _, rfl⟩
  · simp only [b_law_cell_q, b_law_cell_0t_q, b_law_cell_0f_q, b_law_cell_0, b_law_cell_0t_0, b_law_cell_1, stL_cons, stL_nil, getS_some, pu_i, len_r, map_len, lt_ii, ltI, h, decide_false]
    exact ⟨_, _, rfl⟩
theorem map_snoc (zs : List Int) (z : Int) : zs.map D.int ++ [.int z] = (zs ++ [z]).map D.int := by rw [List.map_append]; rfl
theorem snoc_len (zs : List Int) (z : Int) : (zs ++ [z]).length = zs.length + 1 := by simp
theorem dig_b (g : List D → Res) (wf n : Nat) (s a b kk : D) (E : Nx) : ∀ (j i : Nat) (zs : List Int) (c : Int) (o3 o4 : Option D), zs.length + j < szLine → ∃ (zs' : List Int) (c' : Int) (o3' : Option D), zs'.length ≤ zs.length + j ∧
    forC (fst g wf n df_law_digits 53 (at1 b_law_digits_1b_3t 0)) ((List.range' i j).map fun (i : Nat) => D.int (i : Int)) [some s, some a, some b, some (.lst (zs.map D.int)), some kk, some (.int c), o3, o4] E = E.nx [some s, some a, some b, some (.lst (zs'.map D.int)), some kk, some (.int c'), o3', o4] := by
  intro j
  induction j with
  | zero => intro i zs c o3 o4 _; exact ⟨zs, c, o3, by omega, rfl⟩
  | succ j ih =>
    intro i zs c o3 o4 hl
    rw [List.range'_succ, List.map_cons, forC_cons]
    by_cases hc : (0 : Int) < c
    · have hzl : zs.length < szLine := by omega
      obtain ⟨zs', c', o3', h1, h2⟩ := ih (i + 1) (zs ++ [c.fmod 1000]) (c.fdiv 1000) (some (.int (i : Int))) o4 (by rw [snoc_len]; omega)
      refine ⟨zs', c', o3', by rw [snoc_len] at h1; omega, ?_⟩
      simp only [b_law_digits_q, b_law_digits_1b_q, b_law_digits_1b_0t_q, b_law_digits_1b_2t_q, b_law_digits_1b_3t_q, b_law_digits_1b_3t_0b_q, b_law_digits_1b_3t_0b_0t_q, b_law_digits_1b_3f_q, b_law_digits_1b_3f_1b_q, b_law_digits_1b_0f_q, b_law_digits_1b_2f_q, b_law_digits_1b_3t_0b_0f_q, b_law_digits_0, b_law_digits_1, b_law_digits_1x, b_law_digits_1b_0, b_law_digits_1b_0t_0, b_law_digits_1b_1, b_law_digits_1b_2, b_law_digits_1b_2t_0, b_law_digits_1b_3, b_law_digits_1b_3t_0, b_law_digits_1b_3t_0x, b_law_digits_1b_3t_0b_0, b_law_digits_1b_3t_0b_0t_0, b_law_digits_1b_3t_0b_0t_1, b_law_digits_1b_3f_0, b_law_digits_1b_3f_1, b_law_digits_1b_3f_1x, b_law_digits_1b_3f_1b_0, b_law_digits_1b_3f_1b_1, b_law_digits_2, stL_cons, stL_nil, getS_some, lt_ii, hc, decide_true, asL_l, int_i, mod_ii, div_ii, decide_eq_true (show (1000 : Int) ≠ 0 by decide), (show divOk 1000 = true from by decide), ck_true, map_len, hzl, map_snoc]
      exact h2
    · obtain ⟨zs', c', o3', h1, h2⟩ := ih (i + 1) zs c (some (.int (i : Int))) o4 (by omega)
      refine ⟨zs', c', o3', by omega, ?_⟩
      simp only [b_law_digits_q, b_law_digits_1b_q, b_law_digits_1b_0t_q, b_law_digits_1b_2t_q, b_law_digits_1b_3t_q, b_law_digits_1b_3t_0b_q, b_law_digits_1b_3t_0b_0t_q, b_law_digits_1b_3f_q, b_law_digits_1b_3f_1b_q, b_law_digits_1b_0f_q, b_law_digits_1b_2f_q, b_law_digits_1b_3t_0b_0f_q, b_law_digits_0, b_law_digits_1, b_law_digits_1x, b_law_digits_1b_0, b_law_digits_1b_0t_0, b_law_digits_1b_1, b_law_digits_1b_2, b_law_digits_1b_2t_0, b_law_digits_1b_3, b_law_digits_1b_3t_0, b_law_digits_1b_3t_0x, b_law_digits_1b_3t_0b_0, b_law_digits_1b_3t_0b_0t_0, b_law_digits_1b_3t_0b_0t_1, b_law_digits_1b_3f_0, b_law_digits_1b_3f_1, b_law_digits_1b_3f_1x, b_law_digits_1b_3f_1b_0, b_law_digits_1b_3f_1b_1, b_law_digits_2, stL_cons, stL_nil, getS_some, lt_ii, hc, decide_false]
      exact h2
theorem dig_s (g : List D → Res) (wf n : Nat) (s a b kk c : D) (E : Nx) : ∀ (j i : Nat) (zs : List Int) (sd : Int) (o3 : Option D), zs.length + j < szLine → ∃ (zs' : List Int) (sd' : Int) (o3' : Option D), zs'.length ≤ zs.length + j ∧
    forC (fst g wf n df_law_digits 52 (at1 b_law_digits_1b_3f 1)) ((List.range' i j).map fun (i : Nat) => D.int (i : Int)) [some s, some a, some b, some (.lst (zs.map D.int)), some kk, some c, o3, some (.int sd)] E = E.nx [some s, some a, some b, some (.lst (zs'.map D.int)), some kk, some c, o3', some (.int sd')] := by
  intro j
  induction j with
  | zero => intro i zs sd o3 _; exact ⟨zs, sd, o3, by omega, rfl⟩
  | succ j ih =>
    intro i zs sd o3 hl
    rw [List.range'_succ, List.map_cons, forC_cons]
    have hzl : zs.length < szLine := by omega
    obtain ⟨zs', sd', o3', h1, h2⟩ := ih (i + 1) (zs ++ [(((sd * 16807 + 7 * (i : Int) + 1).fmod 2147483647).fdiv 997).fmod 1000]) ((sd * 16807 + 7 * (i : Int) + 1).fmod 2147483647) (some (.int (i : Int))) (by rw [snoc_len]; omega)
    refine ⟨zs', sd', o3', by rw [snoc_len] at h1; omega, ?_⟩
    simp only [b_law_digits_q, b_law_digits_1b_q, b_law_digits_1b_0t_q, b_law_digits_1b_2t_q, b_law_digits_1b_3t_q, b_law_digits_1b_3t_0b_q, b_law_digits_1b_3t_0b_0t_q, b_law_digits_1b_3f_q, b_law_digits_1b_3f_1b_q, b_law_digits_1b_0f_q, b_law_digits_1b_2f_q, b_law_digits_1b_3t_0b_0f_q, b_law_digits_0, b_law_digits_1, b_law_digits_1x, b_law_digits_1b_0, b_law_digits_1b_0t_0, b_law_digits_1b_1, b_law_digits_1b_2, b_law_digits_1b_2t_0, b_law_digits_1b_3, b_law_digits_1b_3t_0, b_law_digits_1b_3t_0x, b_law_digits_1b_3t_0b_0, b_law_digits_1b_3t_0b_0t_0, b_law_digits_1b_3t_0b_0t_1, b_law_digits_1b_3f_0, b_law_digits_1b_3f_1, b_law_digits_1b_3f_1x, b_law_digits_1b_3f_1b_0, b_law_digits_1b_3f_1b_1, b_law_digits_2, stL_cons, stL_nil, getS_some, mul_ii, mul_r sd 16807 (by decide), mul_l 7 (i : Int) (by decide), ck_true, add_ii, int_i, mod_ii, div_ii, decide_eq_true (show (2147483647 : Int) ≠ 0 by decide), decide_eq_true (show (1000 : Int) ≠ 0 by decide), (show divOk 997 = true from by decide), asL_l, map_len, hzl, decide_true, map_snoc]
    exact h2
theorem dig_loop (g : List D → Res) (wf n : Nat) (ns : List Int) (a b : D) (E : Nx) : ∀ (j i : Nat) (zs : List Int) (o1 o2 o3 o4 : Option D), ∃ (zs' : List Int) (o1' o2' o3' o4' : Option D), 
    forC (fst g wf (n + 1) df_law_digits 58 (at1 b_law_digits 1)) ((List.range' i j).map fun (i : Nat) => D.int (i : Int)) [some (.rol (ns.map D.int)), some a, some b, some (.lst (zs.map D.int)), o1, o2, o3, o4] E = E.nx [some (.rol (ns.map D.int)), some a, some b, some (.lst (zs'.map D.int)), o1', o2', o3', o4'] := by
  intro j
  induction j with
  | zero => intro i zs o1 o2 o3 o4; exact ⟨zs, o1, o2, o3, o4, rfl⟩
  | succ j ih =>
    intro i zs o1 o2 o3 o4
    have hz : (3000 : Nat) ≤ szLine := by unfold szLine; omega
    rw [List.range'_succ, List.map_cons, forC_cons]
    by_cases h15 : (1500 : Int) < ((zs.length : Nat) : Int)
    · simp only [b_law_digits_1x, b_law_digits_1b_q, b_law_digits_1b_0, b_law_digits_1b_0t_q, b_law_digits_1b_0t_0, stL_cons, stL_nil, getS_some, len_l, map_len, lt_ii, h15, decide_true]
      exact ⟨zs, _, _, _, _, rfl⟩
    · have hl : zs.length ≤ 1500 := by omega
      obtain ⟨c, fin, e⟩ := cell_ok g wf n ns i
      have neg : ∀ (o3 o4 : Option D) (E2 : Nx), ∃ c' : Int, st1 g wf (n + 1) df_law_digits 55 (at1 b_law_digits_1b 2) [some (.rol (ns.map D.int)), some a, some b, some (.lst (zs.map D.int)), some (.int (i : Int)), some (.int c), o3, o4] E2 = E2.nx [some (.rol (ns.map D.int)), some a, some b, some (.lst (zs.map D.int)), some (.int (i : Int)), some (.int c'), o3, o4] := fun o3 o4 E2 => by
        by_cases hc : c < 0
        · refine ⟨1 - 2 * c, ?_⟩
          simp only [b_law_digits_1b_2, b_law_digits_1b_2t_q, b_law_digits_1b_2t_0, stL_cons, stL_nil, getS_some, lt_ii, hc, decide_true, mul_ii, mul_l 2 c (by decide), ck_true, sub_ii]
        · refine ⟨c, ?_⟩
          simp only [b_law_digits_1b_2, b_law_digits_1b_2f_q, stL_cons, stL_nil, getS_some, lt_ii, hc, decide_false]
      rw [b_law_digits_1x, b_law_digits_1b_q, stL_cons, b_law_digits_1b_0]
      simp only [getS_some, len_l, map_len, lt_ii, h15, decide_false, b_law_digits_1b_0f_q, stL_nil]
      rw [stL_cons, b_law_digits_1b_1, getS_some, getS_some, getS_some, getS_some, e, onRet_ret, unl_i, show unlend (.rol (ns.map D.int)) fin[0]? = some (.rol (ns.map D.int)) from rfl]
      dsimp only
      rw [stL_cons]
      have st3 : ∀ (c' : Int) (o3 o4 : Option D) (E2 : Nx), ∃ (zs' : List Int) (o2' o3' o4' : Option D), st1 g wf (n + 1) df_law_digits 54 (at1 b_law_digits_1b 3) [some (.rol (ns.map D.int)), some a, some b, some (.lst (zs.map D.int)), some (.int (i : Int)), some (.int c'), o3, o4] E2 = E2.nx [some (.rol (ns.map D.int)), some a, some b, some (.lst (zs'.map D.int)), some (.int (i : Int)), o2', o3', o4'] := fun c' o3 o4 E2 => by
        rw [b_law_digits_1b_3, getS_some, pu_i, pow18, le_ii]
        by_cases hb : (1000000000000000000 : Int) ≤ c'
        · rw [decide_eq_true hb]
          dsimp only
          obtain ⟨zs', c2, o3', h1, h2⟩ := dig_b g wf (n + 1) (.rol (ns.map D.int)) a b (.int (i : Int)) ⟨fun ρ1 => stL g wf (n + 1) df_law_digits 53 [] ρ1 E2, E2.bk, E2.ct, E2.rt⟩ 60 0 zs c' o3 o4 (by omega)
          refine ⟨zs', some (.int c2), o3', o4, ?_⟩
          rw [b_law_digits_1b_3t_q, stL_cons, b_law_digits_1b_3t_0, show smallI 60 = true from by decide, ck_true, show rngL 0 (60 : Int).toNat = _ from rngL_nat 60]
          exact h2
        · rw [decide_eq_false hb]
          dsimp only
          obtain ⟨zs', c2, o3', h1, h2⟩ := dig_s g wf (n + 1) (.rol (ns.map D.int)) a b (.int (i : Int)) (.int c') ⟨fun ρ1 => stL g wf (n + 1) df_law_digits 52 [] ρ1 E2, E2.bk, E2.ct, E2.rt⟩ 12 0 zs ((c' * 48271 + (i : Int) * 69621 + 11).fmod 2147483647) o3 (by omega)
          refine ⟨zs', some (.int c'), o3', some (.int c2), ?_⟩
          rw [b_law_digits_1b_3f_q, stL_cons, b_law_digits_1b_3f_0]
          simp only [getS_some, mul_ii, mul_r c' 48271 (by decide), mul_r (i : Int) 69621 (by decide), ck_true, add_ii, int_i, mod_ii, decide_eq_true (show (2147483647 : Int) ≠ 0 by decide)]
          rw [stL_cons, b_law_digits_1b_3f_1, show smallI 12 = true from by decide, ck_true, show rngL 0 (12 : Int).toNat = _ from rngL_nat 12]
          exact h2
      obtain ⟨c', e2⟩ := neg o3 o4 ⟨fun ρ1 => stL g wf (n + 1) df_law_digits 55 [at1 b_law_digits_1b 3] ρ1 ⟨fun ρ1 => forC (fst g wf (n + 1) df_law_digits 58 (at1 b_law_digits 1)) ((List.range' (i + 1) j).map fun (i : Nat) => D.int (i : Int)) ρ1 E, E.nx, fun ρ1 => forC (fst g wf (n + 1) df_law_digits 58 (at1 b_law_digits 1)) ((List.range' (i + 1) j).map fun (i : Nat) => D.int (i : Int)) ρ1 E, E.rt⟩, E.nx, fun ρ1 => forC (fst g wf (n + 1) df_law_digits 58 (at1 b_law_digits 1)) ((List.range' (i + 1) j).map fun (i : Nat) => D.int (i : Int)) ρ1 E, E.rt⟩
      obtain ⟨zs', p2, p3, p4, e3⟩ := st3 c' o3 o4 ⟨fun ρ1 => stL g wf (n + 1) df_law_digits 54 [] ρ1 ⟨fun ρ1 => forC (fst g wf (n + 1) df_law_digits 58 (at1 b_law_digits 1)) ((List.range' (i + 1) j).map fun (i : Nat) => D.int (i : Int)) ρ1 E, E.nx, fun ρ1 => forC (fst g wf (n + 1) df_law_digits 58 (at1 b_law_digits 1)) ((List.range' (i + 1) j).map fun (i : Nat) => D.int (i : Int)) ρ1 E, E.rt⟩, E.nx, fun ρ1 => forC (fst g wf (n + 1) df_law_digits 58 (at1 b_law_digits 1)) ((List.range' (i + 1) j).map fun (i : Nat) => D.int (i : Int)) ρ1 E, E.rt⟩
      obtain ⟨zq, a1, a2, a3, a4, hq⟩ := ih (i + 1) zs' (some (.int (i : Int))) p2 p3 p4
      refine ⟨zq, a1, a2, a3, a4, ?_⟩
      refine Eq.trans (show _ = _ from e2) ?_
      dsimp only
      rw [stL_cons]
      refine Eq.trans (show _ = _ from e3) ?_
      dsimp only
      rw [stL_nil]
      exact hq
theorem small_lenK (a : Nat) (h : a ≤ 1000) : smallI ((a : Nat) : Int) = true := decide_eq_true (by rw [Int.natAbs_natCast]; omega)
theorem ret_l (zs : List Int) (a b : Res) : retK (.lst (zs.map D.int)) a b = b := rfl
theorem digits_ok (g : List D → Res) (wf n : Nat) (ns : List Int) (m : Nat) (hm : m ≤ 1000) : ∃ (zs : List Int) (fin : TI.Env), cl g wf (n + 2) "_law_digits" [.rol (ns.map D.int), .int 0, .int (m : Int)] = .ret (.lst (zs.map D.int)) fin := by
  rw [cl_run g wf (n + 1) "_law_digits" df_law_digits _ (by kernel_rfl), show env0 df_law_digits [.rol (ns.map D.int), .int 0, .int (m : Int)] = [some (.rol (ns.map D.int)), some (.int 0), some (.int (m : Int)), none, none, none, none, none] from rfl]
  have hsz : (1000 : Nat) ≤ szLine := by unfold szLine; omega
  rw [b_law_digits_q, stL_cons, b_law_digits_0]
  dsimp only
  rw [stL_cons, b_law_digits_1]
  simp only [getS_some, asI_i, show smallI 0 = true from by decide, small_lenK m hm, Bool.and_self, ck_true, Int.sub_zero, Int.toNat_natCast, rngL_nat]
  obtain ⟨zs, o1, o2, o3, o4, e⟩ := dig_loop g wf n ns (.int 0) (.int (m : Int)) ⟨fun ρ1 => stL g wf (n + 1) df_law_digits 58 [at1 b_law_digits 2] ρ1 (nx0 df_law_digits.np), (nx0 df_law_digits.np).bk, (nx0 df_law_digits.np).ct, (nx0 df_law_digits.np).rt⟩ m 0 [] none none none none
  refine ⟨zs, ?_⟩
  show ∃ fin, forC (fst g wf (n + 1) df_law_digits 58 (at1 b_law_digits 1)) _ [some (.rol (ns.map D.int)), some (.int 0), some (.int (m : Int)), some (.lst (([] : List Int).map D.int)), none, none, none, none] _ = _
  rw [e]
  dsimp only
  rw [stL_cons, b_law_digits_2, getS_some, ret_l]
  exact ⟨_, rfl⟩
end K29
set_option Elab.async false
set_option linter.all false
set_option maxRecDepth 100000
set_option maxHeartbeats 4000000
/-! the defs of the text, as the evaluator runs them -/
namespace K29
open PySem PySem.Spec PyProof.Rows L2 TI
/-! BODY -/
/-! drawn values and their texts -/
open Builtin Builtin.Str PySem.StrLaws
def alpB (l : List Nat) : Bool := l.all fun c => c == 10 || (decide (32 ≤ c) && decide (c ≤ 126) && !(c == 37))
theorem alp_of {x : Str} (h : alpB (Ls x) = true) : Alp x := fun c hc => by
  have := List.all_eq_true.mp h c hc
  simp at this
  omega
theorem alp_app {x y : Str} (hx : Alp x) (hy : Alp y) : Alp (x ++ y) := fun c hc => by
  rw [Ls_append] at hc
  rcases List.mem_append.mp hc with h | h
  · exact hx c h
  · exact hy c h
theorem app_len (a b : Str) : (a ++ b).length = a.length + b.length := by rw [← Ls_len, Ls_append, List.length_append, Ls_len, Ls_len]
theorem gl_mem (z : List Nat) (c : Nat) : ∀ (ps : List (List Nat)), c ∈ gl z ps → c ∈ z ∨ ∃ p ∈ ps, c ∈ p
  | [], h => by simp [gl] at h
  | p :: ps, h => by
    have h' : c ∈ p ++ ps.flatMap fun q => z ++ q := h
    rcases List.mem_append.mp h' with h | h
    · exact .inr ⟨p, List.mem_cons_self, h⟩
    · obtain ⟨q, hq, hc⟩ := List.mem_flatMap.mp h
      rcases List.mem_append.mp hc with h | h
      · exact .inl h
      · exact .inr ⟨q, List.mem_cons_of_mem _ hq, h⟩
theorem gl_len (z : List Nat) : ∀ (ps : List (List Nat)), (gl z ps).length ≤ (ps.map List.length).sum + ps.length * z.length
  | [] => by simp [gl]
  | p :: ps => by
    have : ∀ q : List (List Nat), (q.flatMap fun q => z ++ q).length = (q.map List.length).sum + q.length * z.length := fun q => by
      induction q with
      | nil => simp
      | cons a q ih => rw [List.flatMap_cons, List.length_append, ih, List.length_append, List.map_cons, List.sum_cons, List.length_cons, Nat.add_mul]; omega
    show (p ++ _).length ≤ _
    rw [List.length_append, this, List.map_cons, List.sum_cons, List.length_cons, Nat.add_mul]
    omega
theorem join_gl (ts : List Str) : Ls (Txt.join " " ts) = gl [32] (ts.map Ls) := by
  show (Builtin.Str.glued " " ts).cps.toList = _
  rw [glued_gl, show ((" " : Str)).cps.toList = [32] from by decide +kernel]
def bd : Nat → Nat
  | 0 => 10
  | k + 1 => 3 * (bd k + 1) + 2
theorem bd_10 : ∀ k, 10 ≤ bd k
  | 0 => Nat.le_refl _
  | k + 1 => by have := bd_10 k; unfold bd; omega
/-- a value with its text -/
def Lf (g : List D → Res) (wf k : Nat) (d : D) (t : Str) : Prop := d.pu = true ∧ (∀ n, k + 1 ≤ n → ∃ fin, cl g wf n "_law_plain" [d] = .ret (.str t) fin) ∧ Alp t ∧ t.length ≤ bd k
theorem lc_plain (g : List D → Res) (wf n : Nat) (o0 : Option D) (K : List D → TI.Env → Res) : ∀ (ps : List (D × Str)) (acc : List D) (o : Option D), (∀ p ∈ ps, ∃ fin, cl g wf n "_law_plain" [p.1] = .ret (.str p.2) fin) → acc.length + ps.length < szLine →
    ∃ o', lcC (b_law_plain_4t_0_lc1 g wf n) (ps.map (·.1)) acc [o0, o] K = K (acc ++ ps.map fun p => .str p.2) [o0, o']
  | [], acc, o, _, _ => ⟨o, by show K acc [o0, o] = _; simp⟩
  | p :: ps, acc, o, hs, hl => by
    obtain ⟨fin, e1⟩ := hs p List.mem_cons_self
    rw [List.length_cons] at hl
    rw [List.map_cons]
    unfold lcC
    rw [b_law_plain_4t_0_lc1_x, e1, onRet_ret]
    dsimp only
    rw [decide_eq_true (show acc.length < szLine by omega), ck_true]
    obtain ⟨o2, e2⟩ := lc_plain g wf n o0 K ps (acc ++ [.str p.2]) (unlend p.1 fin[0]?) (fun e he => hs e (List.mem_cons_of_mem _ he)) (by rw [List.length_append, List.length_cons, List.length_nil]; omega)
    refine ⟨o2, ?_⟩
    rw [e2]
    simp
theorem strsD_map (ps : List (D × Str)) : strsD (ps.map fun p => D.str p.2) = some (ps.map (·.2)) := by
  induction ps with
  | nil => rfl
  | cons p ps ih =>
    show (strsD (ps.map fun p => D.str p.2)).map (p.2 :: ·) = _
    rw [ih]
    rfl
theorem isi_ti (l : List D) (k : D → Res) : dIsi (.tup l) "int" k = k (.bl false) := by kernel_rfl
theorem is_tn (l : List D) (k : Bool → Res) : dIs (.tup l) .non k = k false := rfl
theorem is_tb (l : List D) (b : Bool) (k : Bool → Res) : dIs (.tup l) (.bl b) k = k false := rfl
theorem seqV_t (b : Bool) (l : List D) (k : List D → Res) : seqV b (.tup l) k = k l := rfl
theorem tup_plain (g : List D → Res) (wf k : Nat) (hk : k ≤ 3) (ps : List (D × Str)) (h : ∀ p ∈ ps, Lf g wf k p.1 p.2) (hl : ps.length ≤ 3) : ∃ t, Lf g wf (k + 1) (.tup (ps.map (·.1))) t := by
  have hb : bd k ≤ 500 := by
    have : k = 0 ∨ k = 1 ∨ k = 2 ∨ k = 3 := by omega
    rcases this with rfl | rfl | rfl | rfl <;> decide
  have hz : (100000 : Nat) ≤ szLine := by unfold szLine; omega
  have hsum : (((ps.map (·.2)).map (·.length)).sum) ≤ ps.length * bd k := by
    have : ∀ l : List (D × Str), (∀ p ∈ l, p.2.length ≤ bd k) → (((l.map (·.2)).map (·.length)).sum) ≤ l.length * bd k := fun l => by
      induction l with
      | nil => intro _; simp
      | cons d l ih =>
        intro h
        rw [List.map_cons, List.map_cons, List.sum_cons, List.length_cons, Nat.add_mul, Nat.one_mul]
        have := h d List.mem_cons_self
        have := ih fun f hf => h f (List.mem_cons_of_mem _ hf)
        omega
    exact this ps fun p hp => (h p hp).2.2.2
  have hm : ps.length * bd k ≤ 3 * bd k := Nat.mul_le_mul_right _ hl
  have l1 : ((" " : Str)).length = 1 := by decide +kernel
  have hj : (Txt.join " " (ps.map (·.2))).length ≤ 3 * (bd k + 1) := by
    rw [← Ls_len, join_gl]
    refine Nat.le_trans (gl_len _ _) ?_
    have e : (((ps.map (·.2)).map Ls).map List.length).sum = ((ps.map (·.2)).map (·.length)).sum := by
      rw [List.map_map]
      refine congrArg List.sum (List.map_congr_left fun d _ => Ls_len _)
    rw [e, List.length_map, List.length_map, show ([32] : List Nat).length = 1 from rfl]
    omega
  have hja : Alp (Txt.join " " (ps.map (·.2))) := fun c hc => by
    rw [join_gl] at hc
    rcases gl_mem _ _ _ hc with h1 | ⟨p, hp, hc⟩
    · rw [List.mem_singleton.mp h1]; omega
    · rw [List.map_map] at hp
      obtain ⟨q, hq, rfl⟩ := List.mem_map.mp hp
      exact (h q hq).2.2.1 c hc
  have c40a : Alp (one 40) := alp_of (by decide)
  have c41a : Alp (one 41) := alp_of (by decide)
  have h40 : (one 40).length = 1 := rfl
  have h41 : (one 41).length = 1 := rfl
  refine ⟨(one 40 ++ Txt.join " " (ps.map (·.2))) ++ one 41, rfl, fun n hn => ?_, alp_app (alp_app c40a hja) c41a, ?_⟩
  · obtain ⟨n, rfl⟩ : ∃ n', n = n' + 1 := ⟨n - 1, by omega⟩
    rw [cl_run g wf n "_law_plain" df_law_plain _ (by kernel_rfl), show env0 df_law_plain [.tup (ps.map (·.1))] = [some (.tup (ps.map (·.1))), none] from rfl]
    have g1 : (one 40).length + (Txt.join " " (ps.map (·.2))).length ≤ szLine := by omega
    have g2 : (one 40 ++ Txt.join " " (ps.map (·.2))).length + (one 41).length ≤ szLine := by rw [app_len]; omega
    have hlc := lc_plain g wf n (some (.tup (ps.map (·.1)))) (fun a4 r5 => dJoin " " (.lst a4) fun z6 => dAdd (.str (one 40)) z6 fun z7 => dAdd z7 (.str (one 41)) fun z8 => (nx0 df_law_plain.np).rt z8 (wipeB r5 [some (.tup (ps.map (·.1))), none] [1])) ps [] none (fun p hp => (h p hp).2.1 n (by omega)) (by simp; omega)
    obtain ⟨o', e⟩ := hlc
    simp only [b_law_plain_q, b_law_plain_0, b_law_plain_1, b_law_plain_2, b_law_plain_3, b_law_plain_4, b_law_plain_0f_q, b_law_plain_1f_q, b_law_plain_2f_q, b_law_plain_3f_q, b_law_plain_4t_q, b_law_plain_4t_0, stL_cons, stL_nil, getS_some, is_tn, is_tb, isi_ti, isi_t, tru_b, asS_s, seqV_t, show hidOk [some (.tup (ps.map (·.1))), none] [1] = true from rfl, ck_true, c40, c41]
    rw [e, List.nil_append]
    unfold dJoin
    dsimp only
    rw [strsD_map]
    dsimp only
    rw [l1, List.length_map, decide_eq_true (show ((ps.map (·.2)).map (·.length)).sum + ps.length * 1 ≤ szLine by omega), ck_true, add_ss, decide_eq_true g1, ck_true, add_ss, decide_eq_true g2, ck_true]
    exact ⟨_, rfl⟩
  · rw [app_len, app_len]
    unfold bd
    omega
end K29
set_option Elab.async false
set_option linter.all false
set_option maxRecDepth 100000
set_option maxHeartbeats 4000000
/-! the defs of the text, as the evaluator runs them -/
namespace K29
open PySem PySem.Spec PyProof.Rows L2 TI
/-! BODY -/
/-! drawn values -/
theorem pl_0 (g : List D → Res) (wf n : Nat) : cl g wf (n + 1) "_law_plain" [.non] = .ret (.str "N") [none] := by kernel_rfl
theorem pl_1 (g : List D → Res) (wf n : Nat) : cl g wf (n + 1) "_law_plain" [.bl true] = .ret (.str "T") [none] := by kernel_rfl
theorem pl_2 (g : List D → Res) (wf n : Nat) : cl g wf (n + 1) "_law_plain" [.bl false] = .ret (.str "F") [none] := by kernel_rfl
theorem pl_3 (g : List D → Res) (wf n : Nat) : cl g wf (n + 1) "_law_plain" [.int 0] = .ret (.str "0") [none] := by kernel_rfl
theorem pl_4 (g : List D → Res) (wf n : Nat) : cl g wf (n + 1) "_law_plain" [.int (-7)] = .ret (.str "-7") [none] := by kernel_rfl
theorem pl_5 (g : List D → Res) (wf n : Nat) : cl g wf (n + 1) "_law_plain" [.int 120] = .ret (.str "120") [none] := by kernel_rfl
theorem pl_6 (g : List D → Res) (wf n : Nat) : cl g wf (n + 1) "_law_plain" [.str ""] = .ret (.str "\"\"") [none] := by kernel_rfl
theorem pl_7 (g : List D → Res) (wf n : Nat) : cl g wf (n + 1) "_law_plain" [.str "a\"b"] = .ret (.str "\"a\\\"b\"") [none] := by kernel_rfl
theorem pl_8 (g : List D → Res) (wf n : Nat) : cl g wf (n + 1) "_law_plain" [.str "x\ny"] = .ret (.str "\"x\\ny\"") [none] := by kernel_rfl
theorem pl_9 (g : List D → Res) (wf n : Nat) : cl g wf (n + 1) "_law_plain" [.str "\\"] = .ret (.str "\"\\\\\"") [none] := by kernel_rfl
theorem pl_10 (g : List D → Res) (wf n : Nat) : cl g wf (n + 1) "_law_plain" [.str " ("] = .ret (.str "\" (\"") [none] := by kernel_rfl
theorem leaf (g : List D → Res) (wf k : Nat) (d : D) (t : Str) (hp : d.pu = true) (h : ∀ n, cl g wf (n + 1) "_law_plain" [d] = .ret (.str t) [none]) (ha : alpB (Ls t) = true) (hl : decide (t.length ≤ 10) = true) : ∃ t, Lf g wf k d t :=
  ⟨t, hp, fun n hn => by
    obtain ⟨n, rfl⟩ : ∃ n', n = n' + 1 := ⟨n - 1, by omega⟩
    exact ⟨_, h n⟩, alp_of ha, Nat.le_trans (of_decide_eq_true hl) (bd_10 k)⟩
theorem leaves (g : List D → Res) (wf k q : Nat) (hq : q < 11) (K : D → Res) : ∃ d t, Lf g wf k d t ∧ (dIx (.lst [.non, (.bl true), (.bl false), (.int 0), .int (-7), (.int 120), (.str ""), (.str "a\"b"), (.str "x\ny"), (.str "\\"), (.str " (")]) (.int (q : Int)) K) = K d := by
  have h : q = 0 ∨ q = 1 ∨ q = 2 ∨ q = 3 ∨ q = 4 ∨ q = 5 ∨ q = 6 ∨ q = 7 ∨ q = 8 ∨ q = 9 ∨ q = 10 := by omega
  rcases h with rfl | rfl | rfl | rfl | rfl | rfl | rfl | rfl | rfl | rfl | rfl
  · obtain ⟨t, h⟩ := leaf g wf k .non "N" rfl (pl_0 g wf) (by decide +kernel) (by decide +kernel); exact ⟨_, t, h, rfl⟩
  · obtain ⟨t, h⟩ := leaf g wf k (.bl true) "T" rfl (pl_1 g wf) (by decide +kernel) (by decide +kernel); exact ⟨_, t, h, rfl⟩
  · obtain ⟨t, h⟩ := leaf g wf k (.bl false) "F" rfl (pl_2 g wf) (by decide +kernel) (by decide +kernel); exact ⟨_, t, h, rfl⟩
  · obtain ⟨t, h⟩ := leaf g wf k (.int 0) "0" rfl (pl_3 g wf) (by decide +kernel) (by decide +kernel); exact ⟨_, t, h, rfl⟩
  · obtain ⟨t, h⟩ := leaf g wf k (.int (-7)) "-7" rfl (pl_4 g wf) (by decide +kernel) (by decide +kernel); exact ⟨_, t, h, rfl⟩
  · obtain ⟨t, h⟩ := leaf g wf k (.int 120) "120" rfl (pl_5 g wf) (by decide +kernel) (by decide +kernel); exact ⟨_, t, h, rfl⟩
  · obtain ⟨t, h⟩ := leaf g wf k (.str "") "\"\"" rfl (pl_6 g wf) (by decide +kernel) (by decide +kernel); exact ⟨_, t, h, rfl⟩
  · obtain ⟨t, h⟩ := leaf g wf k (.str "a\"b") "\"a\\\"b\"" rfl (pl_7 g wf) (by decide +kernel) (by decide +kernel); exact ⟨_, t, h, rfl⟩
  · obtain ⟨t, h⟩ := leaf g wf k (.str "x\ny") "\"x\\ny\"" rfl (pl_8 g wf) (by decide +kernel) (by decide +kernel); exact ⟨_, t, h, rfl⟩
  · obtain ⟨t, h⟩ := leaf g wf k (.str "\\") "\"\\\\\"" rfl (pl_9 g wf) (by decide +kernel) (by decide +kernel); exact ⟨_, t, h, rfl⟩
  · obtain ⟨t, h⟩ := leaf g wf k (.str " (") "\" (\"" rfl (pl_10 g wf) (by decide +kernel) (by decide +kernel); exact ⟨_, t, h, rfl⟩
theorem unl_box (xs : List Int) (a : Nat) (b o : Option D) : unlend (box xs a) [b, o][0]? = b := rfl
theorem fmod_nat (v : Int) (m : Nat) (hm : 0 < m) : ∃ q : Nat, q < m ∧ v.fmod (m : Int) = (q : Int) := by
  obtain ⟨q, hq⟩ : ∃ q : Nat, v.fmod (m : Int) = (q : Int) := Int.eq_ofNat_of_zero_le (Int.fmod_nonneg_of_pos _ (by omega))
  have := Int.fmod_lt_of_pos v (b := (m : Int)) (by omega)
  exact ⟨q, by omega, hq⟩
/-- a draw as a number -/
theorem draw_n (g : List D → Res) (wf n : Nat) (xs : List Int) (a m : Nat) (hm : 0 < m) : ∃ v : Nat, v < m ∧ ∃ o, cl g wf (n + 1) "_law_draw" [box xs a, .int (m : Int)] = .ret (.int (v : Int)) [some (box xs (a + 1)), o] := by
  obtain ⟨v, h1, h2, o, e⟩ := draw_ok g wf n xs a (m : Int) (by omega)
  obtain ⟨q, rfl⟩ := Int.eq_ofNat_of_zero_le h1
  exact ⟨q, by omega, o, e⟩
theorem tup_loop (g : List D → Res) (wf n : Nat) (xs : List Int) (k : Nat) (o2 : Option D) (ih : ∀ a, ∃ d t a' o, Lf g wf k d t ∧ cl g wf n "_law_value" [box xs a, .int (k : Int)] = .ret d [some (box xs a'), o]) (K : List D → TI.Env → Res) : ∀ (j i : Nat) (acc : List D) (a : Nat) (o3 : Option D), acc.length + j < szLine → ∃ (ps : List (D × Str)) (a' : Nat) (o3' : Option D), ps.length = j ∧ (∀ p ∈ ps, Lf g wf k p.1 p.2) ∧
    lcC (b_law_value_1t_0_lc1 g wf n) ((List.range' i j).map fun (i : Nat) => D.int (i : Int)) acc [some (box xs a), some (.int ((k + 1 : Nat) : Int)), o2, o3] K = K (acc ++ ps.map (·.1)) [some (box xs a'), some (.int ((k + 1 : Nat) : Int)), o2, o3'] := by
  intro j
  induction j with
  | zero => intro i acc a o3 _; exact ⟨[], a, o3, rfl, by simp, by simp [lcC]⟩
  | succ j ihj =>
    intro i acc a o3 hl
    rw [List.range'_succ, List.map_cons]
    unfold lcC
    obtain ⟨d, t, a1, o, hs, e⟩ := ih a
    rw [b_law_value_1t_0_lc1_x]
    simp only [getS_some, sub_ii, show ((k + 1 : Nat) : Int) - 1 = (k : Int) from by omega, e, onRet_ret, unl_box, decide_eq_true (show acc.length < szLine by omega), ck_true]
    obtain ⟨ps, a', o3', hc, hd, e2⟩ := ihj (i + 1) (acc ++ [d]) a1 (some (.int (i : Int))) (by rw [List.length_append, List.length_cons, List.length_nil]; omega)
    refine ⟨(d, t) :: ps, a', o3', by rw [List.length_cons, hc], fun f hf => ?_, ?_⟩
    · rcases List.mem_cons.mp hf with rfl | hf
      · exact hs
      · exact hd f hf
    · rw [e2]
      simp
theorem value_ok (g : List D → Res) (wf : Nat) (xs : List Int) : ∀ (k : Nat), k ≤ 4 → ∀ n, k + 2 ≤ n → ∀ a, ∃ d t a' o, Lf g wf k d t ∧ cl g wf n "_law_value" [box xs a, .int (k : Int)] = .ret d [some (box xs a'), o] := by
  intro k
  induction k with
  | zero =>
    intro _ n hn a
    obtain ⟨n, rfl⟩ : ∃ n', n = n' + 2 := ⟨n - 2, by omega⟩
    obtain ⟨v, hv, o, e⟩ := draw_n g wf n xs a 6 (by omega)
    obtain ⟨u, hu, o2, e2⟩ := draw_n g wf n xs (a + 1) 900 (by omega)
    obtain ⟨q, hq, e3⟩ := fmod_nat (u : Int) 11 (by omega)
    have e' : cl g wf (n + 1) "_law_draw" [box xs a, .int 6] = _ := e
    have e2' : cl g wf (n + 1) "_law_draw" [box xs (a + 1), .int 900] = _ := e2
    have e3' : (u : Int).fmod 11 = (q : Int) := e3
    rw [cl_run g wf (n + 1) "_law_value" df_law_value _ (by kernel_rfl), show env0 df_law_value [box xs a, .int ((0 : Nat) : Int)] = [some (box xs a), some (.int 0), none, none] from rfl]
    have l00 : ((0 : Int) < 0) = False := eq_false (by decide)
    obtain ⟨d, t, hlf, ed⟩ := leaves g wf 0 q hq (fun z7 => puK z7 ((nx0 df_law_value.np).rt z7 [some (box xs (a + 2)), some (.int 0), some (.int (v : Int)), none]))
    refine ⟨d, t, a + 2, none, hlf, ?_⟩
    by_cases h3 : (v : Int) < 3 <;>
    · simp only [b_law_value_q, b_law_value_0, b_law_value_1, b_law_value_2, b_law_value_1f_q, stL_cons, stL_nil, getS_some, e', onRet_ret, unl_box, lt_ii, h3, l00, decide_true, decide_false, neg_i, e2', int_i, mod_ii, decide_eq_true (show (11 : Int) ≠ 0 by decide), ck_true, e3']
      rw [ed, puK_t hlf.1]
      rfl
  | succ k ih =>
    intro hk4 n hn a
    obtain ⟨n, rfl⟩ : ∃ n', n = n' + 2 := ⟨n - 2, by omega⟩
    obtain ⟨v, hv, o, e⟩ := draw_n g wf n xs a 6 (by omega)
    have e' : cl g wf (n + 1) "_law_draw" [box xs a, .int 6] = _ := e
    rw [cl_run g wf (n + 1) "_law_value" df_law_value _ (by kernel_rfl), show env0 df_law_value [box xs a, .int ((k + 1 : Nat) : Int)] = [some (box xs a), some (.int ((k + 1 : Nat) : Int)), none, none] from rfl]
    have l00 : ((0 : Int) < ((k + 1 : Nat) : Int)) = True := eq_true (by omega)
    by_cases h3 : (v : Int) < 3
    · obtain ⟨u, hu, o2, e2⟩ := draw_n g wf n xs (a + 1) 4 (by omega)
      have e2' : cl g wf (n + 1) "_law_draw" [box xs (a + 1), .int 4] = _ := e2
      have hz : (1000 : Nat) ≤ szLine := by unfold szLine; omega
      obtain ⟨ps, a', o3', hc, hd, el⟩ := tup_loop g wf (n + 1) xs k (some (.int (v : Int))) (fun a => ih (by omega) (n + 1) (by omega) a) (fun a5 r6 => dTup (.lst a5) fun z7 => (nx0 df_law_value.np).rt z7 (wipeB r6 [some (box xs (a + 2)), some (.int ((k + 1 : Nat) : Int)), some (.int (v : Int)), none] [3])) u 0 [] (a + 2) none (by simp; omega)
      obtain ⟨t, ht⟩ := tup_plain g wf k (by omega) ps hd (by omega)
      refine ⟨_, t, a', none, ht, ?_⟩
      simp only [b_law_value_q, b_law_value_0, b_law_value_1, b_law_value_2, b_law_value_1f_q, b_law_value_1t_q, b_law_value_1t_0, stL_cons, stL_nil, getS_some, e', onRet_ret, unl_box, lt_ii, h3, l00, decide_true, decide_false, e2', asI_i, small_lenK u (by omega), ck_true, Int.toNat_natCast, rngL_nat]
      rw [show hidOk [some (box xs (a + 1 + 1)), some (.int ((k + 1 : Nat) : Int)), some (.int (v : Int)), none] [3] = true from rfl, ck_true]
      refine Eq.trans (show _ = _ from el) ?_
      rw [List.nil_append, tup_tup (ps.map (·.1)) .non (pus_all _ fun d hd' => by
        obtain ⟨p, hp, rfl⟩ := List.mem_map.mp hd'
        exact (hd p hp).1)]
      rfl
    · obtain ⟨u, hu, o2, e2⟩ := draw_n g wf n xs (a + 1) 900 (by omega)
      obtain ⟨q, hq, e3⟩ := fmod_nat (u : Int) 11 (by omega)
      have e2' : cl g wf (n + 1) "_law_draw" [box xs (a + 1), .int 900] = _ := e2
      have e3' : (u : Int).fmod 11 = (q : Int) := e3
      obtain ⟨d, t, hlf, ed⟩ := leaves g wf (k + 1) q hq (fun z7 => puK z7 ((nx0 df_law_value.np).rt z7 [some (box xs (a + 2)), some (.int ((k + 1 : Nat) : Int)), some (.int (v : Int)), none]))
      refine ⟨d, t, a + 2, none, hlf, ?_⟩
      simp only [b_law_value_q, b_law_value_0, b_law_value_1, b_law_value_2, b_law_value_1f_q, stL_cons, stL_nil, getS_some, e', onRet_ret, unl_box, lt_ii, h3, decide_true, decide_false, neg_i, e2', int_i, mod_ii, decide_eq_true (show (11 : Int) ≠ 0 by decide), ck_true, e3']
      rw [ed, puK_t hlf.1]
      rfl
end K29
set_option Elab.async false
set_option linter.all false
set_option maxRecDepth 100000
set_option maxHeartbeats 4000000
/-! the defs of the text, as the evaluator runs them -/
namespace K29
open PySem PySem.Spec PyProof.Rows L2 TI
/-! BODY -/
/-! the law as an equation -/
def gs : List Str := [repS "1" 2001, ("-" : Str) ++ repS "9" 2001, repS "(" 41 ++ repS ")" 41, repS "(" 40 ++ repS ")" 40, "(1  2)", "(1 )", "( 1)", "01", "-0", "--1", "T T", "\"a", repS "1" 2000, ("-" : Str) ++ repS "9" 2000]
def TX (x : Str) : Prop := Alp x ∧ x.length ≤ 3000
theorem gs_len : gs.length = 14 := rfl
theorem rep_ls (x : Str) (n : Nat) : Ls (repS x n) = (List.replicate n (Ls x)).flatten := by
  unfold repS
  show ((List.replicate n x.cps.toList).flatten.toArray).toList = _
  rw [List.toList_toArray]
theorem rep_alp {x : Str} (h : Alp x) (n : Nat) : Alp (repS x n) := fun c hc => by
  rw [rep_ls] at hc
  obtain ⟨l, hl, hc⟩ := List.mem_flatten.mp hc
  rw [List.eq_of_mem_replicate hl] at hc
  exact h c hc
theorem rep_len (a n : Nat) : (repS (one a) n).length = n := by
  rw [← Ls_len, rep_ls, List.length_flatten, List.map_replicate, List.sum_replicate_nat]
  show n * 1 = n
  omega
theorem TX_small {x : Str} (h : alpB (Ls x) = true) (hl : decide (x.length ≤ 3000) = true) : TX x := ⟨alp_of h, of_decide_eq_true hl⟩
theorem TX_rep (a n : Nat) (h : alpB [a] = true) (hn : n ≤ 2500) : TX (repS (one a) n) := ⟨rep_alp (alp_of h) n, by rw [rep_len]; omega⟩
theorem TX_app (x y : Str) (hx : Alp x) (hy : Alp y) (hl : x.length + y.length ≤ 3000) : TX (x ++ y) := ⟨alp_app hx hy, by rw [app_len]; exact hl⟩
theorem gs_ok : ∀ x ∈ gs, TX x := fun x hx => by
  have t1 := TX_rep 49 2001 (by decide) (by omega)
  have t2 := TX_rep 49 2000 (by decide) (by omega)
  have ll : ∀ a n, (repS (one a) n).length = n := rep_len
  have t3 : TX (one 45 ++ repS (one 57) 2001) := TX_app _ _ (alp_of (by decide)) (rep_alp (alp_of (by decide)) _) (by rw [ll]; show 1 + 2001 ≤ 3000; omega)
  have t4 : TX (one 45 ++ repS (one 57) 2000) := TX_app _ _ (alp_of (by decide)) (rep_alp (alp_of (by decide)) _) (by rw [ll]; show 1 + 2000 ≤ 3000; omega)
  have t5 : TX (repS (one 40) 41 ++ repS (one 41) 41) := TX_app _ _ (rep_alp (alp_of (by decide)) _) (rep_alp (alp_of (by decide)) _) (by rw [ll, ll]; omega)
  have t6 : TX (repS (one 40) 40 ++ repS (one 41) 40) := TX_app _ _ (rep_alp (alp_of (by decide)) _) (rep_alp (alp_of (by decide)) _) (by rw [ll, ll]; omega)
  rw [← c1] at t1 t2
  rw [← c45, ← c9] at t3 t4
  rw [← c40, ← c41] at t5 t6
  unfold gs at hx
  simp only [List.mem_cons, List.not_mem_nil, or_false] at hx
  rcases hx with rfl | rfl | rfl | rfl | rfl | rfl | rfl | rfl | rfl | rfl | rfl | rfl | rfl | rfl
  · exact t1
  · exact t3
  · exact t5
  · exact t6
  · exact TX_small (by decide +kernel) (by decide +kernel)
  · exact TX_small (by decide +kernel) (by decide +kernel)
  · exact TX_small (by decide +kernel) (by decide +kernel)
  · exact TX_small (by decide +kernel) (by decide +kernel)
  · exact TX_small (by decide +kernel) (by decide +kernel)
  · exact TX_small (by decide +kernel) (by decide +kernel)
  · exact TX_small (by decide +kernel) (by decide +kernel)
  · exact TX_small (by decide +kernel) (by decide +kernel)
  · exact t2
  · exact t4
theorem great_st (g : List D → Res) (wf n : Nat) (o0 o1 o2 o3 o4 o5 o6 o7 o8 : Option D) (E : Nx) : st1 g wf n df_law 53 (at1 b_law_1b 4) [o0, o1, o2, o3, o4, o5, o6, o7, o8] E = E.nx [o0, o1, o2, o3, o4, o5, o6, some (.lst (gs.map D.str)), o8] := by kernel_rfl
theorem ix_ls (l : List Str) (i : Nat) (h : i < l.length) (k : D → Res) : dIx (.lst (l.map D.str)) (.int (i : Int)) k = k (.str l[i]) := by
  show atK _ (i : Int) k = _
  unfold atK
  rw [atI_nat _ i (by rw [List.length_map]; exact h), List.getElem_map]
theorem cut_sub (x : Str) (lo hi : Option Int) : ∃ a b, Ls (cutS x lo hi) = ((Ls x).drop a).take b := by
  unfold cutS
  refine ⟨HT.sIx x.length 0 lo, HT.sIx x.length x.length hi - HT.sIx x.length 0 lo, ?_⟩
  show ((x.cps.toList.drop _).take _).toArray.toList = _
  rw [List.toList_toArray]
theorem cut_alp {x : Str} (h : Alp x) (lo hi : Option Int) : Alp (cutS x lo hi) := fun c hc => by
  obtain ⟨a, b, e⟩ := cut_sub x lo hi
  rw [e] at hc
  exact h c (List.mem_of_mem_drop (List.mem_of_mem_take hc))
theorem cut_len (x : Str) (lo hi : Option Int) : (cutS x lo hi).length ≤ x.length := by
  obtain ⟨a, b, e⟩ := cut_sub x lo hi
  rw [← Ls_len, e, List.length_take, List.length_drop, Ls_len]
  omega
theorem add4 (q : Nat) : (4 : Int) + (q : Int) = ((4 + q : Nat) : Int) := by omega
theorem add_ll (a b : List Str) (h : a.length + b.length ≤ szLine) (k : D → Res) : dAdd (.lst (a.map D.str)) (.lst (b.map D.str)) k = k (.lst ((a ++ b).map D.str)) := by
  have pa : ∀ l : List Str, D.pus (l.map D.str) = true := fun l => by
    induction l with
    | nil => rfl
    | cons x l ih => exact ih
  show ckK (decide ((a.map D.str).length + (b.map D.str).length ≤ szLine)) (pusK (a.map D.str) (pusK (b.map D.str) (k (.lst (a.map D.str ++ b.map D.str))))) = _
  rw [List.length_map, List.length_map, decide_eq_true h, ck_true, pusK_t (pa a), pusK_t (pa b), List.map_append]
theorem st_turn (g : List D → Res) (wf n : Nat) (xs : List Int) (a i : Nat) (ys : List Str) (hy : ∀ y ∈ ys, TX y) (hl : ys.length = 6) (s o3 o4 o5 o8 : Option D) (E : Nx) : ∃ (a' : Nat) (ys' : List Str), (∀ y ∈ ys', TX y) ∧ ys'.length = 6 ∧
    st1 g wf (n + 1) df_law 51 (at1 b_law_1b 6) [s, some (box xs a), some (.int (i : Int)), o3, o4, o5, some (.lst (ys.map D.str)), some (.lst (gs.map D.str)), o8] E = E.nx [s, some (box xs a'), some (.int (i : Int)), o3, o4, o5, some (.lst (ys'.map D.str)), some (.lst (gs.map D.str)), o8] := by
  by_cases h0 : (i : Int) = 0
  · obtain ⟨u, hu, o, e⟩ := draw_n g wf n xs a 900 (by omega)
    obtain ⟨q, hq, e3⟩ := fmod_nat (u : Int) 14 (by omega)
    have e' : cl g wf (n + 1) "_law_draw" [box xs a, .int 900] = _ := e
    have e3' : (u : Int).fmod 14 = (q : Int) := e3
    have hqg : q < gs.length := by rw [gs_len]; exact hq
    refine ⟨a + 1, ys.set 5 gs[q], fun y hy' => ?_, by rw [List.length_set]; exact hl, ?_⟩
    · rcases List.mem_or_eq_of_mem_set hy' with h | rfl
      · exact hy y h
      · exact gs_ok _ (List.getElem_mem hqg)
    · have hix : ∀ k : Nat → Res, oK (ixN (ys.map D.str).length 5) k = k 5 := fun k => by rw [List.length_map, hl]; rfl
      simp only [b_law_1b_6, b_law_1b_6t_q, b_law_1b_6t_0, stL_cons, stL_nil, getS_some, eq_ii, h0, decide_true, e', onRet_ret, unl_box, int_i, mod_ii, decide_eq_true (show (14 : Int) ≠ 0 by decide), ck_true, e3', ix_ls gs q hqg, pu_s, asL_l, hix, List.map_set]
  · refine ⟨a, ys, hy, hl, ?_⟩
    simp only [b_law_1b_6, b_law_1b_6f_q, stL_cons, stL_nil, getS_some, eq_ii, h0, decide_false]
abbrev S17 : Str := "()\" TFN-0195\\n\nx~"
theorem S17_len : S17.length = 17 := by decide +kernel
theorem S17_alp : Alp S17 := alp_of (by decide +kernel)
theorem st_chg (g : List D → Res) (wf n : Nat) (t sn : Str) (ht : TX t) (ht' : t.length ≤ 400) (hs : TX sn) (hs' : sn.length = 1) (p : Nat) (s o1 o2 o6 o7 o8 : Option D) (E : Nx) : ∃ ys : List Str, (∀ y ∈ ys, TX y) ∧ ys.length = 5 ∧
    st1 g wf n df_law 54 (at1 b_law_1b 3) [s, o1, o2, some (.str t), some (.int (p : Int)), some (.str sn), o6, o7, o8] E = E.nx [s, o1, o2, some (.str t), some (.int (p : Int)), some (.str sn), some (.lst (ys.map D.str)), o7, o8] := by
  have hz : (100000 : Nat) ≤ szLine := by unfold szLine; omega
  have tz : t.length ≤ szLine := by omega
  rw [b_law_1b_3]
  simp only [getS_some, pu_s, asI_i, sl_s, szl t tz, ck_true, add_ii, nat1]
  have aA := cut_alp ht.1 none (some (p : Int))
  have aB := cut_alp ht.1 (some ((p + 1 : Nat) : Int)) none
  have aC := cut_alp ht.1 (some (p : Int)) none
  have lA := cut_len t none (some (p : Int))
  have lB := cut_len t (some ((p + 1 : Nat) : Int)) none
  have lC := cut_len t (some (p : Int)) none
  generalize cutS t none (some (p : Int)) = A at aA lA ⊢
  generalize cutS t (some ((p + 1 : Nat) : Int)) none = B at aB lB ⊢
  generalize cutS t (some (p : Int)) none = C at aC lC ⊢
  have h1 : A.length + B.length ≤ szLine := by omega
  have h2 : A.length + sn.length ≤ szLine := by omega
  have h3 : (A ++ sn).length + C.length ≤ szLine := by rw [app_len]; omega
  have h4 : (A ++ sn).length + B.length ≤ szLine := by rw [app_len]; omega
  have h5 : t.length + sn.length ≤ szLine := by omega
  simp only [add_ss, h1, h2, h3, h4, h5, decide_true, ck_true]
  refine ⟨[A, A ++ B, A ++ sn ++ C, A ++ sn ++ B, t ++ sn], fun y hy => ?_, rfl, rfl⟩
  simp only [List.mem_cons, List.not_mem_nil, or_false] at hy
  rcases hy with rfl | rfl | rfl | rfl | rfl
  · exact ⟨aA, by omega⟩
  · exact ⟨alp_app aA aB, by rw [app_len]; omega⟩
  · exact ⟨alp_app (alp_app aA hs.1) aC, by rw [app_len, app_len]; omega⟩
  · exact ⟨alp_app (alp_app aA hs.1) aB, by rw [app_len, app_len]; omega⟩
  · exact ⟨alp_app ht.1 hs.1, by rw [app_len]; omega⟩
theorem law_step (wf lv n : Nat) (hl : 84 ≤ lv) (hn : 44 ≤ n) (hw : 20000 ≤ wf) (xs : List Int) (i a : Nat) (s o2 o3 o4 o5 o6 o7 o8 : Option D) (E : Nx) : ∃ (a' : Nat) (p2 p3 p4 p5 p6 p7 p8 : Option D),
    fst (gTold wf lv) wf (n + 1) df_law 58 (at1 b_law 1) (.int (i : Int)) [s, some (box xs a), o2, o3, o4, o5, o6, o7, o8] E = E.nx [s, some (box xs a'), p2, p3, p4, p5, p6, p7, p8] := by
  have hz : (100000 : Nat) ≤ szLine := by unfold szLine; omega
  obtain ⟨d, t, a1, ov, ⟨hdp, hpl, hta, htl⟩, ev⟩ := value_ok (gTold wf lv) wf xs 3 (by omega) (n + 1) (by omega) a
  obtain ⟨fp, ep⟩ := hpl (n + 1) (by omega)
  have ht4 : t.length ≤ 400 := Nat.le_trans htl (by decide)
  have htx : TX t := ⟨hta, by omega⟩
  have tz : t.length ≤ szLine := by omega
  obtain ⟨u, hu, ou, eu⟩ := draw_n (gTold wf lv) wf n xs a1 900 (by omega)
  obtain ⟨p, hp, ep2⟩ := fmod_nat (u : Int) (t.length + 1) (by omega)
  obtain ⟨u2, hu2, ou2, eu2⟩ := draw_n (gTold wf lv) wf n xs (a1 + 1) 900 (by omega)
  obtain ⟨q, hq, eq2⟩ := fmod_nat (u2 : Int) 17 (by omega)
  have hq17 : q < S17.length := by rw [S17_len]; exact hq
  have hsgl : ∃ c, (Ls S17)[q]? = some c := ⟨_, List.getElem?_eq_getElem (by rw [Ls_len]; exact hq17)⟩
  obtain ⟨c, hc⟩ := hsgl
  have hsn : TX (one c) := ⟨fun b hb => by
    rw [List.mem_singleton.mp (show b ∈ [c] from hb)]
    exact S17_alp c (List.mem_of_getElem? hc), by show (1 : Nat) ≤ 3000; omega⟩
  obtain ⟨u3, hu3, ou3, eu3⟩ := draw_n (gTold wf lv) wf n xs (a1 + 2) 900 (by omega)
  obtain ⟨q3, hq3, eq3⟩ := fmod_nat (u3 : Int) 8 (by omega)
  have hg3 : 4 + q3 < gs.length := by rw [gs_len]; omega
  have ev' : cl (gTold wf lv) wf (n + 1) "_law_value" [box xs a, .int 3] = _ := ev
  have eu' : cl (gTold wf lv) wf (n + 1) "_law_draw" [box xs a1, .int 900] = _ := eu
  have eu2' : cl (gTold wf lv) wf (n + 1) "_law_draw" [box xs (a1 + 1), .int 900] = _ := eu2
  have eu3' : cl (gTold wf lv) wf (n + 1) "_law_draw" [box xs (a1 + 2), .int 900] = _ := eu3
  have eq2' : (u2 : Int).fmod 17 = (q : Int) := eq2
  have eq3' : (u3 : Int).fmod 8 = (q3 : Int) := eq3
  have hne : decide (((t.length + 1 : Nat) : Int) ≠ 0) = true := decide_eq_true (by omega)
  rw [b_law_1x, b_law_1b_q, stL_cons, b_law_1b_0]
  simp only [getS_some, ev', onRet_ret, unl_box, ep]
  rw [stL_cons, b_law_1b_1]
  simp only [getS_some, eu', onRet_ret, unl_box, int_i, len_s, szl t tz, ck_true, add_ii, nat1, mod_ii, hne, ep2]
  rw [stL_cons, b_law_1b_2]
  simp only [getS_some, eu2', onRet_ret, unl_box, int_i, mod_ii, decide_eq_true (show (17 : Int) ≠ 0 by decide), ck_true, eq2', ix_sg hq17 (by rw [S17_len]; omega), sg_some hc, pu_s]
  rw [stL_cons]
  obtain ⟨ys, hys, hyl, ec⟩ := st_chg (gTold wf lv) wf (n + 1) t (one c) htx ht4 hsn rfl p s (some (box xs (a1 + 1 + 1))) (some (.int (i : Int))) o6 o7 o8 ⟨fun ρ1 => stL (gTold wf lv) wf (n + 1) df_law 54 [at1 b_law_1b 4, at1 b_law_1b 5, at1 b_law_1b 6, at1 b_law_1b 7, at1 b_law_1b 8, at1 b_law_1b 9] ρ1 E, E.bk, E.ct, E.rt⟩
  refine Exists.imp (fun a' => Exists.imp fun b2 => Exists.imp fun b3 => Exists.imp fun b4 => Exists.imp fun b5 => Exists.imp fun b6 => Exists.imp fun b7 => Exists.imp fun b8 hq => (show _ = _ from ec).trans hq) ?_
  dsimp only
  rw [stL_cons, great_st]
  dsimp only
  rw [stL_cons, b_law_1b_5]
  have hy6 : ∀ y ∈ ys ++ [gs[4 + q3]], TX y := fun y hy => by
    rcases List.mem_append.mp hy with h | h
    · exact hys y h
    · rw [List.mem_singleton.mp h]; exact gs_ok _ (List.getElem_mem hg3)
  have hyl6 : (ys ++ [gs[4 + q3]]).length = 6 := by rw [List.length_append, hyl]; rfl
  have hall := add_ll ys [gs[4 + q3]] (by rw [hyl]; simp; omega)
  have hall' : ∀ k : D → Res, dAdd (.lst (ys.map D.str)) (.lst [.str gs[4 + q3]]) k = k (.lst ((ys ++ [gs[4 + q3]]).map D.str)) := hall
  simp only [getS_some, eu3', onRet_ret, unl_box, int_i, mod_ii, decide_eq_true (show (8 : Int) ≠ 0 by decide), ck_true, eq3', add_ii, add4, ix_ls gs _ hg3, pu_s, hall']
  rw [stL_cons]
  obtain ⟨a2, zs, hzs, hzl, et⟩ := st_turn (gTold wf lv) wf n xs (a1 + 2 + 1) i (ys ++ [gs[4 + q3]]) hy6 hyl6 s (some (.str t)) (some (.int (p : Int))) (some (.str (one c))) o8 ⟨fun ρ1 => stL (gTold wf lv) wf (n + 1) df_law 51 [at1 b_law_1b 7, at1 b_law_1b 8, at1 b_law_1b 9] ρ1 E, E.bk, E.ct, E.rt⟩
  refine Exists.imp (fun a' => Exists.imp fun b2 => Exists.imp fun b3 => Exists.imp fun b4 => Exists.imp fun b5 => Exists.imp fun b6 => Exists.imp fun b7 => Exists.imp fun b8 hq => (show _ = _ from et).trans hq) ?_
  dsimp only
  obtain ⟨u4, hu4, ou4, eu4⟩ := draw_n (gTold wf lv) wf n xs a2 6 (by omega)
  have eu4' : cl (gTold wf lv) wf (n + 1) "_law_draw" [box xs a2, .int 6] = _ := eu4
  have hz6 : u4 < zs.length := by omega
  have htx4 := hzs _ (List.getElem_mem hz6)
  obtain ⟨dd, hddp, ⟨fr, er⟩, etd, ⟨fs, es⟩⟩ := text_ok wf lv (n + 1) hl (by omega) zs[u4] (by have := htx4.2; omega) (by have := htx4.2; omega) htx4.1
  rw [stL_cons, b_law_1b_7]
  simp only [getS_some, eu4', onRet_ret, unl_box, ix_ls zs u4 hz6, pu_s]
  rw [stL_cons, b_law_1b_8]
  simp only [getS_some, er, onRet_ret, unl_s]
  rw [stL_cons, b_law_1b_9]
  simp only [getS_some, etd, onRet_ret, unl_s, es, unlend_t hddp, tru_b, bnot_t, b_law_1b_9f_q, stL_nil]
  exact ⟨_, _, _, _, _, _, _, _, rfl⟩
theorem law_loop (wf lv n : Nat) (hl : 84 ≤ lv) (hn : 44 ≤ n) (hw : 20000 ≤ wf) (xs : List Int) (s : Option D) (E : Nx) : ∀ (j i a : Nat) (o2 o3 o4 o5 o6 o7 o8 : Option D), ∃ (a' : Nat) (p2 p3 p4 p5 p6 p7 p8 : Option D),
    forC (fst (gTold wf lv) wf (n + 1) df_law 58 (at1 b_law 1)) ((List.range' i j).map fun (i : Nat) => D.int (i : Int)) [s, some (box xs a), o2, o3, o4, o5, o6, o7, o8] E = E.nx [s, some (box xs a'), p2, p3, p4, p5, p6, p7, p8] := by
  intro j
  induction j with
  | zero => intro i a o2 o3 o4 o5 o6 o7 o8; exact ⟨a, o2, o3, o4, o5, o6, o7, o8, rfl⟩
  | succ j ih =>
    intro i a o2 o3 o4 o5 o6 o7 o8
    rw [List.range'_succ, List.map_cons, forC_cons]
    obtain ⟨a1, q2, q3, q4, q5, q6, q7, q8, e⟩ := law_step wf lv n hl hn hw xs i a s o2 o3 o4 o5 o6 o7 o8 ⟨fun ρ1 => forC (fst (gTold wf lv) wf (n + 1) df_law 58 (at1 b_law 1)) ((List.range' (i + 1) j).map fun (i : Nat) => D.int (i : Int)) ρ1 E, E.nx, fun ρ1 => forC (fst (gTold wf lv) wf (n + 1) df_law 58 (at1 b_law 1)) ((List.range' (i + 1) j).map fun (i : Nat) => D.int (i : Int)) ρ1 E, E.rt⟩
    rw [e]
    exact ih (i + 1) a1 q2 q3 q4 q5 q6 q7 q8
theorem law_ok (wf lv n : Nat) (hl : 84 ≤ lv) (hn : 44 ≤ n) (hw : 20000 ≤ wf) (ns : List Int) : ∃ fin, cl (gTold wf lv) wf (n + 2) "law" [.rol (ns.map D.int)] = .ret (.bl true) fin := by
  obtain ⟨m, rfl⟩ : ∃ m, n = m + 1 := ⟨n - 1, by omega⟩
  obtain ⟨zs, fin, e⟩ := digits_ok (gTold wf lv) wf m ns 63 (by omega)
  have e' : cl (gTold wf lv) wf (m + 1 + 1) "_law_digits" [.rol (ns.map D.int), .int 0, .int 63] = _ := e
  rw [cl_run (gTold wf lv) wf (m + 1 + 1) "law" df_law _ (by kernel_rfl), show env0 df_law [.rol (ns.map D.int)] = [some (.rol (ns.map D.int)), none, none, none, none, none, none, none, none] from rfl]
  rw [b_law_q, stL_cons, b_law_0]
  simp only [getS_some, e', onRet_ret]
  rw [stL_cons, b_law_1, show smallI 6 = true from by decide, ck_true, show rngL 0 (6 : Int).toNat = _ from rngL_nat 6]
  obtain ⟨a', p2, p3, p4, p5, p6, p7, p8, e2⟩ := law_loop wf lv (m + 1) hl hn hw zs (some (.rol (ns.map D.int))) ⟨fun ρ1 => stL (gTold wf lv) wf (m + 1 + 1) df_law 58 [at1 b_law 2] ρ1 (nx0 df_law.np), (nx0 df_law.np).bk, (nx0 df_law.np).ct, (nx0 df_law.np).rt⟩ 6 0 0 none none none none none none none
  have e2' : forC (fst (gTold wf lv) wf (m + 1 + 1) df_law 58 (at1 b_law 1)) _ [unlend (.rol (ns.map D.int)) fin[0]?, some (.lst [.lst (zs.map D.int), .int 0]), none, none, none, none, none, none, none] _ = _ := e2
  rw [e2']
  dsimp only
  rw [stL_cons, b_law_2]
  exact ⟨_, rfl⟩
end K29
set_option Elab.async false
set_option linter.all false
set_option maxRecDepth 100000
set_option maxHeartbeats 4000000
/-! the defs of the text, as the evaluator runs them -/
namespace K29
open PySem PySem.Spec PyProof.Rows L2 TI
/-! BODY -/
/-! the promise of _law_told -/
theorem told_body : ∃ v0 v1 v2 v3 v4 v5 v6 v7 v8 v9 v10 v11 v12 v13 v14 v15 v16 v17 v18 v19 v20 v21 v22 v23 v24 v25 v26 v27 v28 v29 v30 v31 v32 v33 v34 v35 v36 v37 v38 v39 v40 v41, defBody (topS 26) = [.Try [.Return (some (.Tuple [.Constant (.str "good") v0 v1, .Call (.Name "read_plain" v2) [.Name "text" v3] [] v4] v5 v6)) v7] [.ExceptHandler (some (.Name "BadPlain" v8)) (some "e") [.If (.BoolOp .Or [.UnaryOp .Not (.Call (.Name "isinstance" v9) [.Name "e" v10, .Name "WaterError" v11] [] v12) v13, .UnaryOp .Not (.Call (.Name "isinstance" v14) [.Name "e" v15, .Name "ValueError" v16] [] v17) v18, .Call (.Name "isinstance" v19) [.Name "e" v20, .Name "BadText" v21] [] v22] v23) [.Return (some (.Tuple [.Constant (.str "bad") v24 v25, .UnaryOp .USub (.Constant (.int 5) v26 v27) v28] v29 v30)) v31] [] v32, .Return (some (.Tuple [.Constant (.str "bad") v33 v34, .Attribute (.Name "e" v35) "place" v36] v37 v38)) v39] v40] [] [] v41] := ⟨_, _, _, _, _, _, _, _, _, _, _, _, _, _, _, _, _, _, _, _, _, _, _, _, _, _, _, _, _, _, _, _, _, _, _, _, _, _, _, _, _, _, rfl⟩
end K29
set_option Elab.async false
set_option linter.all false
set_option maxRecDepth 100000
set_option maxHeartbeats 4000000
/-! the defs of the text, as the evaluator runs them -/
namespace K29
open PySem PySem.Spec PyProof.Rows L2 TI
/-! BODY -/
/-! the promise of _law_told -/
theorem told_sc : FnScope ["text", "e"] ["text"] (defScope (topS 26)) := ⟨rfl, rfl, rfl, by decide +kernel, rfl, by decide +kernel, by decide +kernel⟩
/-- isinstance at the caught error -/
def rA (K : PySem.W.Frag) (C a : Addr) (cls : Value) (d : Option Addr) : List V → Hp → VK → Prop := fun xs H Q => cls = .ref C ∧ rAsk K C a d xs H Q
theorem call_askC {X : Cx} {a C : Addr} {cls : Value} {d : Option Addr} {oe : Obj} {pn : List (Addr × Obj)} (T : TX.AskC X.K C) (hz : Zc cls d oe) (hf : ∃ vs, oe.data = .fields vs) : CallR (X.suite a ((a, oe) :: pn)) (.builtin "isinstance") (rA X.K C a cls d) := by
  intro pins s σ H xs us Q I r h
  obtain ⟨rfl, h⟩ := h
  exact call_ask T hz hf pins s σ H xs us Q I r h
def tbT (K : PySem.W.Frag) (er : Er) (g0 : List D → Res) : WX → TS := fun W => tRet (tTup (tCons (tC (.str "good")) (tCons (tCallS (SpD K er 1 g0) (WE W) (tCons (tVar 0) tNil)) tNil)))
def isT (K : PySem.W.Frag) (C a : Addr) (cls : Value) (d : Option Addr) (c : V) : L2.TT := tB (tCB (rA K C a cls d) (tCons (tVar 1) (tCons (tC c) tNil)))
def tsT (K : PySem.W.Frag) (C Cw Cb : Addr) : Addr → Value → Option Addr → TS := fun a cls d =>
  tSeq (tIfS (tOr (tNot (isT K C a cls d (.ref Cw))) (tOr (tNot (isT K C a cls d (.ty "ValueError"))) (isT K C a cls d (.ref Cb)))) (tRet (tTup (tCons (tC (.str "bad")) (tCons (tUn (rU fun i => .int (-i)) (tC (.int 5))) tNil)))) tNext)
    (tRet (tTup (tCons (tC (.str "bad")) (tCons (tXf a cls d C "place" (tVar 1)) tNil))))
theorem told_ok2 {P : Program} {w : World} {K : PySem.W.Frag} {mg : Str → Option Value} {base : Heap} {C Cw Cb fr f : Addr} {fdr fd : FuncData} {psr : List Str} {nr : Nat} {g0 : List D → Res} {x qual : Str} {params : Arguments} {kws : List (Str × V)}
    (gC : mg "BadPlain" = some (.ref C)) (gW : mg "WaterError" = some (.ref Cw)) (gB : mg "BadText" = some (.ref Cb)) (gV : mg "ValueError" = none) (gI : mg "isinstance" = none)
    (ask : TX.AskC K C) (xf : XfC K C) (noat : PySem.W.findIn K (.ref C) "place" = some none)
    (k1 : PySem.W.kitOne K (.ref C) (.ref Cw) = some true) (k2 : PySem.W.kitOne K (.ref C) (.type "ValueError") = some true) (k3 : PySem.W.kitOne K (.ref C) (.ref Cb) = some false) (ex : PySem.W.exmOne K (.ref C) (.ref C) = some true)
    (RD : FnOk P w K mg base (L2.CX P w) nr fr fdr psr (SpD K (erX K mg) 1 g0)) (gR : mg "read_plain" = some (.ref fr)) (kR : PySem.W.keepIn K (.ref fr) = true) (bR : Binds K fdr psr [])
    (F : FunD K x qual params (defBody (topS 26)) (defScope (topS 26)) [] kws f fd) :
    FnOk P w K mg base (L2.CX P w) (nr + 1) f fd ["text"] (SpD K (erX K mg) 1 fun ds => match ds with | [.str x] => toldR (g0 [.str x]) | _ => .stuck) := by
  refine F.ok told_sc (fun vs H Q E h => h.1) (fun cdv A outer s H vs Q E hr h => ?_)
  obtain ⟨hl, ds, Fa, hds, hg⟩ := h
  obtain ⟨y, rfl⟩ : ∃ y, ds = [.str y] := by
    dsimp only at hg
    split at hg
    · exact ⟨_, rfl⟩
    · exact hg.elim
  obtain ⟨v, vs', G1, G2, rfl, hv, hvs', s1, s2, dj⟩ := hds
  rw [show vs' = [] from hvs'] at hg hl ⊢
  rw [show v = .str y from hv] at hg ⊢
  obtain ⟨v0, v1, v2, v3, v4, v5, v6, v7, v8, v9, v10, v11, v12, v13, v14, v15, v16, v17, v18, v19, v20, v21, v22, v23, v24, v25, v26, v27, v28, v29, v30, v31, v32, v33, v34, v35, v36, v37, v38, v39, v40, v41, hb⟩ := told_body
  rw [hb]
  refine ⟨fun D σ H => tbT K (erX K mg) g0 (wAs K (.ref C) 1 (tsT K C Cw Cb) (fun _ _ _ _ => False) D) D σ H, ?_, ?_⟩
  · refine pss_one (ps_try_as (i := 1) (tb := tbT K (erX K mg) g0) (ts := tsT K C Cw Cb) (Wout := fun _ _ _ _ => False) rfl rfl told_sc.nd rfl rfl ⟨rfl, by decide, .inl gC⟩ takes0
      (fun W pn xe tk _ => pss_one (ps_ret (pe_tup (pa_cons pe_str (pa_cons (by exact pe_callS RD hr rfl gR kR bR (fun σ => passAt tk σ) (pa_cons (pv 0) pa_nil)) pa_nil)))))
      (fun a oe cls d pn hz hf => ?_))
    have cA := fun (X : Cx) (e : X.K = K) => call_askC (X := X) (a := a) (cls := cls) (d := d) (oe := oe) (pn := pn) (C := C) (by rw [e]; exact ask) hz hf
    refine pss_cons (ps_if (pw_or (pt_not (pt_val ?i1)) (pw_or (pt_not (pt_val ?i2)) (pw_or1 (pt_val ?i3)))).pt (pss_one (ps_ret (pe_tup (pa_cons pe_str (pa_cons (pe_un un_neg pe_int) pa_nil))))) pss_nil)
      (pss_one (ps_ret (pe_tup (pa_cons pe_str (pa_cons (by exact pe_xf xf noat hz hf (pv 1)) pa_nil)))))
    case i1 => exact pe_callB (cA _ rfl) rfl gI rfl (pa_cons (pv 1) (pa_cons (pe_glob (v := .ref Cw) rfl gW rfl) pa_nil))
    case i2 => exact pe_callB (cA _ rfl) rfl gI rfl (pa_cons (pv 1) (pa_cons (pe_bltn (v := .ty "ValueError") rfl gV rfl rfl) pa_nil))
    case i3 => exact pe_callB (cA _ rfl) rfl gI rfl (pa_cons (pv 1) (pa_cons (pe_glob (v := .ref Cb) rfl gB rfl) pa_nil))
  · have st0 : (start ["text", "e"] [V.str y]) = [some (.str y), none] := rfl
    rw [st0]
    refine ⟨.str y, rfl, rfl, [.str y], Fa, ⟨.str y, [], F0, F0, rfl, rfl, rfl, fun _ z => False.elim z, fun _ z => False.elim z, fun _ z => False.elim z⟩, ?_⟩
    dsimp only at hg
    have ens : ∀ H', Ens K H' [none] ([V.str y].map some) F0 := fun H' => ⟨some (.str y), [], rfl, rfl⟩
    cases hr0 : g0 [.str y] with
    | ret d fin =>
      rw [hr0] at hg
      intro v' H' Fv Ff kp fv ff dj' rp en
      cases hp : D.pus [.str "good", d] with
      | false =>
        unfold toldR pusK at hg
        dsimp only at hg
        rw [hp] at hg
        exact hg.elim
      | true =>
        have hg' : RGood K (erX K mg) Fa H [.str y] (.ret (.tup [.str "good", d]) [none]) Q E := by
          unfold toldR pusK at hg
          dsimp only at hg
          rw [hp] at hg
          exact hg
        have hdp : d.pu = true := by
          have : (true && (d.pu && true)) = true := hp
          simpa using this
        refine ⟨by show 2 ≤ sizeLine; rw [sizeLine_eq]; omega, fun p hp2 => ?_⟩
        refine hg' (.ref p) _ F0 F0 (kp.trans (Keep.new (F := F0) hp2) (fun a z => False.elim z)) (fun _ z => False.elim z) (fun _ z => False.elim z) (fun _ z => False.elim z) ⟨p, [.str "good", v'], rfl, .inl (.inl upd_same), hp, ?_⟩ (ens _)
        exact ⟨.str "good", [v'], F0, F0, rfl, rfl, ⟨v', [], F0, F0, rfl, Rp.stay (Keep.new (F := F0) hp2) _ _ _ (fun _ z => False.elim z) (Rp.pure _ _ _ hdp rp), rfl, fun _ z => z, fun _ z => z, fun _ z => False.elim z⟩, fun _ z => z, fun _ z => z, fun _ z => False.elim z⟩
    | exc c fs =>
      rw [hr0] at hg
      intro cls dx H' kp he
      obtain ⟨f0, d0, rfl⟩ : ∃ f0 d0, fs = [(f0, d0)] := by
        unfold toldR at hg
        dsimp only at hg
        split at hg
        · exact ⟨_, _, rfl⟩
        · exact hg.elim
      by_cases hcf : c = "BadPlain" ∧ f0 = "place"
      · obtain ⟨rfl, rfl⟩ := hcf
        have hg' : RGood K (erX K mg) Fa H [.str y] (.ret (.tup [.str "bad", d0]) [none]) Q E := by
          have e : toldR (.exc "BadPlain" [("place", d0)]) = .ret (.tup [.str "bad", d0]) [none] := by
            show ckK (decide (("BadPlain" : Str) = "BadPlain") && decide (("place" : Str) = "place")) _ = _
            rw [decide_eq_true rfl, decide_eq_true rfl]
            rfl
          rw [e] at hg
          exact hg
        obtain ⟨Ca, dd, ws, hm, rfl, rfl, hdd, hlk⟩ := he
        obtain rfl : Ca = C := by
          have := hm.symm.trans gC
          injection this with h1
          injection h1
        obtain ⟨v2, hl2, hp2, rp2⟩ := hlk "place" d0 (by show (List.lookup _ _) = _; rw [List.lookup_cons]; rfl)
        refine ⟨true, ex, fun _ a ha => ?_, fun q => Bool.noConfusion q⟩
        have hs : ([some (V.str y), none] : List (Option V)).set 1 (some (.ref a)) = [some (.str y), some (.ref a)] := rfl
        rw [hs]
        have ask1 : ∀ (c : V) (cv : Value) (b : Bool) (QQ : Bool → Hp → Prop), (∀ u, RelV c u → u = cv) → PySem.W.kitOne K (.ref Ca) cv = some b → QQ b H' → isT K Ca a (.ref Ca) (some dd) c [some (.str y), some (.ref a)] H' QQ := fun c cv b QQ h1 h2 h3 =>
          ⟨.ref a, rfl, rfl, c, cv, b, dd, ws, rfl, h1, rfl, hdd, h2, b, rfl, h3⟩
        refine ask1 (.ref Cw) (.ref Cw) true _ (fun u h => h) k1 ?_
        refine ask1 (.ty "ValueError") (.type "ValueError") true _ (fun u h => h) k2 ?_
        refine ask1 (.ref Cb) (.ref Cb) false _ (fun u h => h) k3 ?_
        refine ⟨.ref a, rfl, rfl, rfl, dd, ws, v2, rfl, hdd, hl2, by show 2 ≤ sizeLine; rw [sizeLine_eq]; omega, fun p hp3 => ?_⟩
        have hpp : D.pus [.str "bad", d0] = true := by show (true && (d0.pu && true)) = true; rw [hp2]; rfl
        refine hg' (.ref p) _ F0 F0 (kp.trans (Keep.new (F := F0) hp3) (fun a z => False.elim z)) (fun _ z => False.elim z) (fun _ z => False.elim z) (fun _ z => False.elim z) ⟨p, [.str "bad", v2], rfl, .inl (.inl upd_same), hpp, ?_⟩ (ens _)
        exact ⟨.str "bad", [v2], F0, F0, rfl, rfl, ⟨v2, [], F0, F0, rfl, Rp.stay (Keep.new (F := F0) hp3) _ _ _ (fun _ z => False.elim z) rp2, rfl, fun _ z => z, fun _ z => z, fun _ z => False.elim z⟩, fun _ z => z, fun _ z => z, fun _ z => False.elim z⟩
      · exfalso
        have e : toldR (.exc c [(f0, d0)]) = .stuck := by
          show ckK (decide (c = "BadPlain") && decide (f0 = "place")) _ = _
          have : (decide (c = "BadPlain") && decide (f0 = "place")) = false := by
            cases q : (decide (c = "BadPlain") && decide (f0 = "place")) with
            | false => rfl
            | true =>
              rw [Bool.and_eq_true] at q
              exact absurd ⟨of_decide_eq_true q.1, of_decide_eq_true q.2⟩ hcf
          rw [this]
          rfl
        rw [e] at hg
        exact hg
    | stuck =>
      rw [hr0] at hg
      exact hg.elim
end K29
set_option Elab.async false
set_option linter.all false
set_option maxRecDepth 100000
set_option maxHeartbeats 4000000
/-! the defs of the text, as the evaluator runs them -/
namespace K29
open PySem PySem.Spec PyProof.Rows L2 TI
/-! BODY -/
/-! the head -/
def dD (x : Str) (i : Nat) : He.DefD := ⟨(x, none), x, x, defArgs (topS i), defBody (topS i), defScope (topS i), [], []⟩
def clsS (s : Stmt) (i : Nat) : Stmt := match s with
  | .ClassDef _ _ _ b _ _ _ _ _ _ _ => b.getD i (.Pass ⟨0, 0, 0, 0⟩)
  | _ => .Pass ⟨0, 0, 0, 0⟩
def iniS : Stmt := clsS (topS 4) 0
def fnZ : List He.DefD := [dD "read_plain" 10, dD "_value" 11, dD "_members" 12, dD "_integer" 13, dD "_unquoted" 14, dD "_first_of" 15, dD "_law_cell" 17, dD "_law_digits" 18, dD "_law_draw" 19, dD "_law_same" 20, dD "_law_plain" 21, dD "_law_text_at" 22, dD "_law_digits_at" 23, dD "_law_value_at" 24, dD "_law_read" 25, dD "_law_value" 27, dD "law" 28, dD "_law_told" 26, ⟨("BadPlain", some "__init__"), "__init__", "BadPlain.__init__", defArgs iniS, defBody iniS, defScope iniS, [], []⟩]
def faZ : List He.Fa := [.glo "read_plain", .glo "_value", .glo "_members", .glo "_integer", .glo "_unquoted", .glo "_first_of", .glo "_law_cell", .glo "_law_digits", .glo "_law_draw", .glo "_law_same", .glo "_law_plain", .glo "_law_text_at", .glo "_law_digits_at", .glo "_law_value_at", .glo "_law_read", .glo "_law_value", .glo "law", .glo "_law_told", .free "bool", .free "int", .free "isinstance", .free "len", .free "ord", .free "range", .free "str", .free "tuple", .free "ValueError", .str "DIGITS" "0123456789", .int "MOST_DIGITS" 2000, .int "DEEPEST" 40, .glo "WORDS", .glo "ESCAPES", .glo "BadPlain", .glo "WaterError", .glo "BadText"]
def kvW : List (Str × He.Dv) := [("T", .bl true), ("F", .bl false), ("N", .non)]
def kvE : List (Str × He.Dv) := [("\"", .str "\""), ("\\", .str "\\"), ("n", .str "\n")]
abbrev cB (K : PySem.W.Frag) : Addr := He.ga K "BadPlain"
def exB (K : PySem.W.Frag) : Bool := oexB2 K (cB K) && (decide (PySem.W.findIn K (.ref (cB K)) "__init__" = some (some (.ref (He.ma K (cB K) "__init__")))) && (decide (PySem.W.typeIn K (.ref (He.ma K (cB K) "__init__")) = some (.type "function")) &&
  (xfB K (cB K) && (decide (PySem.W.findIn K (.ref (cB K)) "place" = some none) && (decide (PySem.W.kitOne K (.ref (cB K)) (.ref (He.ga K "WaterError")) = some true) && (decide (PySem.W.kitOne K (.ref (cB K)) (.type "ValueError") = some true) &&
  (decide (PySem.W.kitOne K (.ref (cB K)) (.ref (He.ga K "BadText")) = some false) && (decide (PySem.W.exmOne K (.ref (cB K)) (.ref (cB K)) = some true) && (decide (PySem.W.findIn K (.ref (cB K)) "__class__" = some (some (.builtin "object.__class__"))) &&
  (decide (PySem.W.specialIn K (.builtin "object.__class__") "__get__" = some (some (.builtin "getset_descriptor.__get__"))) && (decide (PySem.W.takesIn K (.builtin "object.__class__") = some true) && decide (PySem.W.mroIn K (cB K) (.type "object") = some true))))))))))))
structure ExB (K : PySem.W.Frag) : Prop where
  oex : OexC K (cB K)
  ini : PySem.W.findIn K (.ref (cB K)) "__init__" = some (some (.ref (He.ma K (cB K) "__init__")))
  typ : PySem.W.typeIn K (.ref (He.ma K (cB K) "__init__")) = some (.type "function")
  xf : XfC K (cB K)
  noat : PySem.W.findIn K (.ref (cB K)) "place" = some none
  k1 : PySem.W.kitOne K (.ref (cB K)) (.ref (He.ga K "WaterError")) = some true
  k2 : PySem.W.kitOne K (.ref (cB K)) (.type "ValueError") = some true
  k3 : PySem.W.kitOne K (.ref (cB K)) (.ref (He.ga K "BadText")) = some false
  ex : PySem.W.exmOne K (.ref (cB K)) (.ref (cB K)) = some true
  ask : TX.AskC K (cB K)
theorem exB_ok {K : PySem.W.Frag} (h : exB K = true) : ExB K := by
  unfold exB at h
  simp only [Bool.and_eq_true, decide_eq_true_eq] at h
  obtain ⟨a1, a2, a3, a4, a5, a6, a7, a8, a9, a10, a11, a12, a13⟩ := h
  have xf := xfB_ok a4
  exact ⟨oex_ok a1, a2, a3, xf, a5, a6, a7, a8, a9, ⟨xf.ga, xf.gg, xf.exC, xf.hdC, a10, a11, a12, a13⟩⟩
theorem ini_body : ∃ p1 p2 p3 p4, defBody iniS = [.Assign [.Attribute (.Name "self" p1) "place" p2] (.Name "place" p3) p4] := ⟨_, _, _, _, rfl⟩
theorem ini_sc : FnScope ["self", "place"] ["self", "place"] (defScope iniS) := ⟨rfl, rfl, rfl, by decide +kernel, rfl, by decide +kernel, by decide +kernel⟩
section
variable {P : Program} {w : World} {K : PySem.W.Frag} {mg : Str → Option Value} {h : Heap} {cx : CXT} {er : Er}
theorem fns_ok (X : K.In h) (G : h.Ns mainGlobals mg) (c : He.SaysD faZ fnZ K) {base : Heap} : ∀ p ∈ defs, FnIs P w K mg base cx er p := by
  intro p hp
  simp only [defs, List.mem_cons, List.not_mem_nil, or_false] at hp
  rcases hp with rfl | rfl | rfl | rfl | rfl | rfl | rfl | rfl | rfl | rfl | rfl | rfl | rfl | rfl | rfl | rfl | rfl
  · exact fn_is (st := topS 10) X G rfl rfl (c.fact 0 (f := .glo "read_plain") rfl) (c.def_ 0 (d := dD "read_plain" 10) rfl) ⟨rfl, rfl, rfl, by decide +kernel, rfl, by decide +kernel, by decide +kernel⟩ rfl fun _ _ _ _ _ _ us hl => match us, hl with | [_], _ => rfl
  · exact fn_is (st := topS 11) X G rfl rfl (c.fact 1 (f := .glo "_value") rfl) (c.def_ 1 (d := dD "_value" 11) rfl) ⟨rfl, rfl, rfl, by decide +kernel, rfl, by decide +kernel, by decide +kernel⟩ rfl fun _ _ _ _ _ _ us hl => match us, hl with | [_, _, _], _ => rfl
  · exact fn_is (st := topS 12) X G rfl rfl (c.fact 2 (f := .glo "_members") rfl) (c.def_ 2 (d := dD "_members" 12) rfl) ⟨rfl, rfl, rfl, by decide +kernel, rfl, by decide +kernel, by decide +kernel⟩ rfl fun _ _ _ _ _ _ us hl => match us, hl with | [_, _, _], _ => rfl
  · exact fn_is (st := topS 13) X G rfl rfl (c.fact 3 (f := .glo "_integer") rfl) (c.def_ 3 (d := dD "_integer" 13) rfl) ⟨rfl, rfl, rfl, by decide +kernel, rfl, by decide +kernel, by decide +kernel⟩ rfl fun _ _ _ _ _ _ us hl => match us, hl with | [_, _], _ => rfl
  · exact fn_is (st := topS 14) X G rfl rfl (c.fact 4 (f := .glo "_unquoted") rfl) (c.def_ 4 (d := dD "_unquoted" 14) rfl) ⟨rfl, rfl, rfl, by decide +kernel, rfl, by decide +kernel, by decide +kernel⟩ rfl fun _ _ _ _ _ _ us hl => match us, hl with | [_, _], _ => rfl
  · exact fn_is (st := topS 15) X G rfl rfl (c.fact 5 (f := .glo "_first_of") rfl) (c.def_ 5 (d := dD "_first_of" 15) rfl) ⟨rfl, rfl, rfl, by decide +kernel, rfl, by decide +kernel, by decide +kernel⟩ rfl fun _ _ _ _ _ _ us hl => match us, hl with | [_, _], _ => rfl
  · exact fn_is (st := topS 17) X G rfl rfl (c.fact 6 (f := .glo "_law_cell") rfl) (c.def_ 6 (d := dD "_law_cell" 17) rfl) ⟨rfl, rfl, rfl, by decide +kernel, rfl, by decide +kernel, by decide +kernel⟩ rfl fun _ _ _ _ _ _ us hl => match us, hl with | [_, _], _ => rfl
  · exact fn_is (st := topS 18) X G rfl rfl (c.fact 7 (f := .glo "_law_digits") rfl) (c.def_ 7 (d := dD "_law_digits" 18) rfl) ⟨rfl, rfl, rfl, by decide +kernel, rfl, by decide +kernel, by decide +kernel⟩ rfl fun _ _ _ _ _ _ us hl => match us, hl with | [_, _, _], _ => rfl
  · exact fn_is (st := topS 19) X G rfl rfl (c.fact 8 (f := .glo "_law_draw") rfl) (c.def_ 8 (d := dD "_law_draw" 19) rfl) ⟨rfl, rfl, rfl, by decide +kernel, rfl, by decide +kernel, by decide +kernel⟩ rfl fun _ _ _ _ _ _ us hl => match us, hl with | [_, _], _ => rfl
  · exact fn_is (st := topS 20) X G rfl rfl (c.fact 9 (f := .glo "_law_same") rfl) (c.def_ 9 (d := dD "_law_same" 20) rfl) ⟨rfl, rfl, rfl, by decide +kernel, rfl, by decide +kernel, by decide +kernel⟩ rfl fun _ _ _ _ _ _ us hl => match us, hl with | [_, _], _ => rfl
  · exact fn_is (st := topS 21) X G rfl rfl (c.fact 10 (f := .glo "_law_plain") rfl) (c.def_ 10 (d := dD "_law_plain" 21) rfl) ⟨rfl, rfl, rfl, by decide +kernel, rfl, by decide +kernel, by decide +kernel⟩ rfl fun _ _ _ _ _ _ us hl => match us, hl with | [_], _ => rfl
  · exact fn_is (st := topS 22) X G rfl rfl (c.fact 11 (f := .glo "_law_text_at") rfl) (c.def_ 11 (d := dD "_law_text_at" 22) rfl) ⟨rfl, rfl, rfl, by decide +kernel, rfl, by decide +kernel, by decide +kernel⟩ rfl fun _ _ _ _ _ _ us hl => match us, hl with | [_, _], _ => rfl
  · exact fn_is (st := topS 23) X G rfl rfl (c.fact 12 (f := .glo "_law_digits_at") rfl) (c.def_ 12 (d := dD "_law_digits_at" 23) rfl) ⟨rfl, rfl, rfl, by decide +kernel, rfl, by decide +kernel, by decide +kernel⟩ rfl fun _ _ _ _ _ _ us hl => match us, hl with | [_, _], _ => rfl
  · exact fn_is (st := topS 24) X G rfl rfl (c.fact 13 (f := .glo "_law_value_at") rfl) (c.def_ 13 (d := dD "_law_value_at" 24) rfl) ⟨rfl, rfl, rfl, by decide +kernel, rfl, by decide +kernel, by decide +kernel⟩ rfl fun _ _ _ _ _ _ us hl => match us, hl with | [_, _, _], _ => rfl
  · exact fn_is (st := topS 25) X G rfl rfl (c.fact 14 (f := .glo "_law_read") rfl) (c.def_ 14 (d := dD "_law_read" 25) rfl) ⟨rfl, rfl, rfl, by decide +kernel, rfl, by decide +kernel, by decide +kernel⟩ rfl fun _ _ _ _ _ _ us hl => match us, hl with | [_], _ => rfl
  · exact fn_is (st := topS 27) X G rfl rfl (c.fact 15 (f := .glo "_law_value") rfl) (c.def_ 15 (d := dD "_law_value" 27) rfl) ⟨rfl, rfl, rfl, by decide +kernel, rfl, by decide +kernel, by decide +kernel⟩ rfl fun _ _ _ _ _ _ us hl => match us, hl with | [_, _], _ => rfl
  · exact fn_is (st := topS 28) X G rfl rfl (c.fact 16 (f := .glo "law") rfl) (c.def_ 16 (d := dD "law" 28) rfl) ⟨rfl, rfl, rfl, by decide +kernel, rfl, by decide +kernel, by decide +kernel⟩ rfl fun _ _ _ _ _ _ us hl => match us, hl with | [_], _ => rfl
theorem go_ok (g : List D → Res) (X : K.In h) (G : h.Ns mainGlobals mg) (c : He.SaysD faZ fnZ K) (cW : He.dicW K (He.ga K "WORDS") = some (He.keysIn w.params (kvW.map (·.1)))) (cE : He.dicW K (He.ga K "ESCAPES") = some (He.keysIn w.params (kvE.map (·.1))))
    (vW : He.valsB K (He.ga K "WORDS") kvW = true) (vE : He.valsB K (He.ga K "ESCAPES") kvE = true) : GOk K w mg (TT g).glo := by
  refine go_of (fun x hx => ?_) fun p hp => ?_
  · simp only [TT, bis, List.mem_cons, List.not_mem_nil, or_false] at hx
    rcases hx with rfl | rfl | rfl | rfl | rfl | rfl | rfl | rfl
    · exact He.free_ok X G (c.fact 18 (f := .free "bool") rfl)
    · exact He.free_ok X G (c.fact 19 (f := .free "int") rfl)
    · exact He.free_ok X G (c.fact 20 (f := .free "isinstance") rfl)
    · exact He.free_ok X G (c.fact 21 (f := .free "len") rfl)
    · exact He.free_ok X G (c.fact 22 (f := .free "ord") rfl)
    · exact He.free_ok X G (c.fact 23 (f := .free "range") rfl)
    · exact He.free_ok X G (c.fact 24 (f := .free "str") rfl)
    · exact He.free_ok X G (c.fact 25 (f := .free "tuple") rfl)
  · simp only [TT, cons, List.mem_cons, List.not_mem_nil, or_false] at hp
    rcases hp with rfl | rfl | rfl | rfl | rfl | rfl
    · exact con_str X G (c.fact 27 (f := .str "DIGITS" "0123456789") rfl)
    · exact con_int X G (c.fact 28 (f := .int "MOST_DIGITS" 2000) rfl)
    · exact con_int X G (c.fact 29 (f := .int "DEEPEST" 40) rfl)
    · exact con_kd X G (c.fact 30 (f := .glo "WORDS") rfl) cW vW rfl
    · exact con_kd X G (c.fact 31 (f := .glo "ESCAPES") rfl) cE vE rfl
    · trivial
theorem exc_is (X : K.In h) (G : h.Ns mainGlobals mg) (c : He.SaysD faZ fnZ K) (e : ExB K) {base : Heap} : ExcF P w K mg base (erX K mg) "BadPlain" ["place"] := by
  have gC := He.glo_ok X G (c.fact 32 (f := .glo "BadPlain") rfl)
  obtain ⟨fd, F⟩ := c.def_ 18 (d := ⟨("BadPlain", some "__init__"), "__init__", "BadPlain.__init__", defArgs iniS, defBody iniS, defScope iniS, [], []⟩) rfl
  have b := F.bindsN (ps := ["self", "place"]) fun _ _ _ _ _ _ us hl => match us, hl with | [_, _], _ => rfl
  obtain ⟨p1, p2, p3, p4, hb⟩ := ini_body
  dsimp only at F
  rw [hb] at F
  exact ⟨cB K, _, fd, e.oex, e.ini, e.typ, init_one F ini_sc rfl rfl (by decide) (by decide) e.oex e.noat, b, gC, erX_made gC⟩
theorem cls_ok (g : List D → Res) (X : K.In h) (G : h.Ns mainGlobals mg) (c : He.SaysD faZ fnZ K) (e : ExB K) {base : Heap} : ∀ x ps, (TT g).glo x = .cls ps → ExcF P w K mg base (erX K mg) x ps ∧ XTk (L2.CX P w) P w K mg base := by
  intro x ps hx
  have hm := lookup_mem (glo_cls hx)
  simp only [TT, cons, List.mem_cons, List.not_mem_nil, or_false, Prod.mk.injEq] at hm
  rcases hm with ⟨_, h⟩ | ⟨_, h⟩ | ⟨_, h⟩ | ⟨_, h⟩ | ⟨_, h⟩ | ⟨rfl, h⟩ <;> first | (cases h; done) | skip
  cases h
  exact ⟨exc_is X G c e, xtk⟩
/-- the law's promise: it lets nothing out -/
def spR (K : PySem.W.Frag) (np : Nat) (g : List D → Res) : Sp := fun vs H Q _ => vs.length = np ∧ ∃ ds F, Rps K H ds vs F ∧ ∃ d fin, g ds = .ret d fin ∧ ∀ v H' Fv Ff, Keep F H H' → Fr F H Fv → Fr F H Ff → Dis Ff Fv → Rp K H' d v Fv → Ens K H' fin (vs.map some) Ff → Q v H'
theorem spR_sp {np : Nat} {g : List D → Res} (vs : List V) (H : Hp) (Q : VK) (E : XK) (q : spR K np g vs H Q E) : SpD K er np g vs H Q E := by
  obtain ⟨hl, ds, F, hr, d, fin, e, q⟩ := q
  refine ⟨hl, ds, F, hr, ?_⟩
  rw [e]
  exact q
theorem law_spR {g : List D → Res} {H : Hp} {a : Addr} {ns : List Int} (ho : Only H) (hs : SqL K H a (ns.map V.int)) (e : ∃ fin, g [.rol (ns.map D.int)] = .ret (.bl true) fin) :
    spR K 1 g [.ref a] H (fun v _ => v = .bl true) fun _ _ _ => False := by
  obtain ⟨fin, e⟩ := e
  exact ⟨rfl, [.rol (ns.map D.int)], F0, ⟨.ref a, [], F0, F0, rfl, ⟨a, ns.map V.int, rfl, sqf_of ho hs, pus_ints ns, rps_ints ns⟩, rfl, fun _ q => q, fun _ q => q, fun _ q => False.elim q⟩, _, fin, e, fun v H' Fv Ff _ _ _ _ r _ => r⟩
theorem all_z {fa : Addr} (X : K.In h) (G : h.Ns mainGlobals mg) (hfa : mg "law" = some (.ref fa)) (c : He.obsD faZ fnZ K = He.valD fnZ) (cW : He.dicW K (He.ga K "WORDS") = some (He.keysIn w.params (kvW.map (·.1)))) (cE : He.dicW K (He.ga K "ESCAPES") = some (He.keysIn w.params (kvE.map (·.1))))
    (vW : He.valsB K (He.ga K "WORDS") kvW = true) (vE : He.valsB K (He.ga K "ESCAPES") kvE = true) (hx : exB K = true) (hd : PySem.W.nsIn K cStatics "sys.int_max_str_digits" = some none) :
    ∃ fd : FuncData, (∀ (s : Shared) (u : Value), BindsTo s fd ⟨[u], []⟩ [("script", u)]) ∧ ∀ base : Heap, K.In base → base.Ns mainGlobals mg → FnOk P w K mg base (L2.CX P w) 133 fa fd ["script"] (spR K 1 ((TT (gTold 20000 84)).call 20000 60 46 "law")) := by
  have c' : He.SaysD faZ fnZ K := c
  have e := exB_ok hx
  obtain ⟨fd, F⟩ := c'.def_ 16 (d := dD "law" 28) rfl
  have b := FunD.bindsA (ps := ["script"]) F fun _ _ _ _ _ _ us hl => match us, hl with | [_], _ => rfl
  refine ⟨fd, fun s v => b s [v] rfl, fun base hK hG => ?_⟩
  have hlim : LimOk K 16777216 := .inr ⟨by decide, hd⟩
  have e1 := hfa.symm.trans (He.glo_ok X G (c'.fact 16 (f := .glo "law") rfl))
  cases e1
  obtain ⟨fdT, FT⟩ := c'.def_ 17 (d := dD "_law_told" 26) rfl
  have bT := FT.bindsN (ps := ["text"]) fun _ _ _ _ _ _ us hl => match us, hl with | [_], _ => rfl
  have gT := He.glo_ok X G (c'.fact 17 (f := .glo "_law_told") rfl)
  have ext0 : ∀ p ∈ (TT fun _ => .stuck).exts, ExtIs P w K mg base (L2.CX P w) (erX K mg) 2 p := by
    intro p hp
    simp only [TT, List.mem_cons, List.not_mem_nil, or_false] at hp
    rcases hp with rfl
    exact ⟨_, fdT, ["text"], rfl, gT, FT.kp, bT, fn_never rfl⟩
  obtain ⟨fr, fdr, psr, hpl, RD, gR, kR, bR⟩ := all_ok (P := P) (base := base) (b := 2) xokX (by decide) hlim (go_ok (fun _ => .stuck) X G c' cW cE vW vE) (cls_ok (fun _ => .stuck) X G c' e) (fns_ok X G c') ext0 20000 60 84 "read_plain" 1 rfl
  have told := told_ok2 (He.glo_ok X G (c'.fact 32 (f := .glo "BadPlain") rfl)) (He.glo_ok X G (c'.fact 33 (f := .glo "WaterError") rfl)) (He.glo_ok X G (c'.fact 34 (f := .glo "BadText") rfl)) (He.free_ok X G (c'.fact 26 (f := .free "ValueError") rfl)) (He.free_ok X G (c'.fact 20 (f := .free "isinstance") rfl))
    e.ask e.xf e.noat e.k1 e.k2 e.k3 e.ex RD gR kR bR FT
  have ext1 : ∀ p ∈ (TT (gTold 20000 84)).exts, ExtIs P w K mg base (L2.CX P w) (erX K mg) 87 p := by
    intro p hp
    simp only [TT, List.mem_cons, List.not_mem_nil, or_false] at hp
    rcases hp with rfl
    exact ⟨_, fdT, ["text"], rfl, gT, FT.kp, bT, told⟩
  have fn := run_ok (P := P) (base := base) (er := erX K mg) xokX (d := df_law) F (⟨rfl, rfl, rfl, by decide +kernel, rfl, by decide +kernel, by decide +kernel⟩) rfl (TT (gTold 20000 84)).glo ((TT (gTold 20000 84)).call 20000 60 45) 16777216 20000 60 132 (by decide) hlim (cls_ok (gTold 20000 84) X G c' e) (go_ok (gTold 20000 84) X G c' cW cE vW vE)
    (all_ok xokX (by decide) hlim (go_ok (gTold 20000 84) X G c' cW cE vW vE) (cls_ok (gTold 20000 84) X G c' e) (fns_ok X G c') ext1 20000 60 45)
  exact FnOk.imp fn fun vs H Q E q => spR_sp vs H Q E q
end
theorem walk_ofKX {l : PySem.W.OpenLaw} {n k : Nat} {q : Program} {loose : List Str} {XP : (Str → Option Value) → Heap → Prop} {YP : World → Heap → Prop} {d : DefRec} {K : Params → PySem.W.Frag} {CX : World → CXT} {sp : PySem.W.Frag → Sp} {x : Str} (hn : l.most = some n) (hn2 : n ≤ sizeLine) (hdf : d.params.defaults = []) (hr : Room k callerA) (hY : ∀ (w : World) (h : Heap), YP w h → (K w.params).In h) (F : ∀ (w : World) (mg : Str → Option Value) (fa : Addr) (h : Heap), (K w.params).In h → h.Ns mainGlobals mg → mg d.name = some (.ref fa) → ∃ fd : FuncData, (∀ (s : Shared) (u : Value), BindsTo s fd ⟨[u], []⟩ [(x, u)]) ∧ ∀ base : Heap, (K w.params).In base → base.Ns mainGlobals mg → FnOk l.prog w (K w.params) mg base (CX w) k fa fd [x] (sp (K w.params))) (hsp : ∀ (K : PySem.W.Frag) (H : Hp) (a : Addr) (ns : List Int), ns.length ≤ n → Only H → SqL K H a (ns.map V.int) → sp K [.ref a] H (fun v _ => v = .bl true) fun _ _ _ => False) (hCX : ∀ (w : World) (H : Hp) (s : Shared) (e : Value) (s' : Shared), CX w [] H s (fun _ _ _ => False) e s' → False) : PySem.W.WalkO q loose XP YP l.row.toRowW d [] (fun f vs => PySem.call f vs) := walk_of (K := K) (CX := CX) (sp := fun w => sp (K w.params)) hn hn2 hdf hr hY F (fun w H a ns h1 h2 h3 => hsp (K w.params) H a ns h1 h2 h3) hCX
end K29
set_option Elab.async false
set_option linter.all false
set_option maxRecDepth 100000
open PySem PySem.W PyProof.Rows
set_option maxHeartbeats 0 in
theorem PySem.Challenge.cw_surewater_k29_plain_wrong_texts_holds : PySem.Challenge.rw_surewater_k29_plain_wrong_texts.Holds := by
  w_on; o_law; k_head; (case hw => w_witness2)
  k_fill
  refine K29.walk_ofKX (l := PySem.Challenge.rw_surewater_k29_plain_wrong_texts) (n := 63) (k := 133) (x := "script") (CX := fun w => L2.CX PySem.Challenge.rw_surewater_k29_plain_wrong_texts.prog w) (sp := fun K => K29.spR K 1 ((K29.TT (K29.gTold 20000 84)).call 20000 60 46 "law")) rfl (by decide) rfl ⟨rfl, by decide, by decide⟩ (fun w h Y => PySem.W.kIn_of Y) ?F ?g (fun _ _ _ _ _ ⟨_, _, _, _, _, _, _, _, _, _, _, _, z⟩ => z)
  case F =>
    intro w mg fa h KX G hmg
    exact K29.all_z KX G hmg (by kernel_rfl) (by kernel_rfl) (by kernel_rfl) (by kernel_rfl) (by kernel_rfl) (by kernel_rfl) (by kernel_rfl)
  case g =>
    intro K H a ns hl hO hS
    exact K29.law_spR hO hS (K29.law_ok 20000 84 44 (by decide) (by decide) (by decide) ns)
