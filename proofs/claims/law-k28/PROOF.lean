import PyProof.Rows.All
import Wide.All
import OpenK.AllK
import Wide.FinOn
import HandS.ForMost
import HandS.StrMore
import HandS.IsInst
import HandS.Flow
import HandS.Style
import HandS.TupAny
import HandS.Wide
import HandS.Replace
import HandS.ReplaceLit
import HandS.ReplaceDef
import HandS.WrittenGet
import HandS.Defaults
import HandS.Exc
import HandS.Head0
import HandS.Head1
import HandS.Head2
import HandS.HeadEnd
import HandS.HeadHook1
import HandS.HeadHook2
import HandS.HeadHook3
import KE.KIntText
import KE.IntTextLaws
import HandS.Ends
import HandS.Words
import HandS.Base
import HandS.Call
import PySem.Challenge.RW_surewater_k28_plain_there_and_back
set_option Elab.async false
set_option linter.all false
set_option maxRecDepth 100000
set_option maxHeartbeats 4000000
/-! values without addresses, and how they lie in the abstract heap -/
namespace TI
open PySem PySem.Spec PyProof.Rows L2

inductive D where
  | non | bl (b : Bool) | int (i : Int) | str (x : Str) | ty (n : String)
  | tup (xs : List D) | rol (xs : List D) | lst (xs : List D) | lck (xs : List D)

def D.pu : D → Bool
  | .lst _ => false
  | .lck _ => false
  | _ => true
def D.pus : List D → Bool
  | [] => true
  | d :: ds => d.pu && D.pus ds

abbrev Fp := Addr → Prop
abbrev F0 : Fp := fun _ => False
/-- a list that nobody writes -/
def SqF (K : PySem.W.Frag) (H : Hp) (a : Addr) (xs : List V) : Prop :=
  (∃ o, H a = some (.frz o (.lst xs))) ∨ ∃ (o : Obj) (its : Array Value) (n : Nat), K.lookup a = some o ∧ o.cls = .type "list" ∧ o.dict = none ∧ o.data = .seq its n ∧ its.size ≤ sizeLine ∧ Vals xs its.toList
theorem SqF.sq {K : PySem.W.Frag} {H : Hp} {a : Addr} {xs : List V} (h : SqF K H a xs) : SqL K H a xs := by
  rcases h with ⟨o, h⟩ | h
  · exact .inl (.inr ⟨o, h⟩)
  · exact .inr h

section
variable (K : PySem.W.Frag) (H : Hp)
mutual
def Rp : D → V → Fp → Prop
  | .non, v, _ => v = .non
  | .bl b, v, _ => v = .bl b
  | .int i, v, _ => v = .int i
  | .str x, v, _ => v = .str x
  | .ty n, v, _ => v = .ty n
  | .tup ds, v, F => ∃ a vs, v = .ref a ∧ SqT K H a vs ∧ D.pus ds = true ∧ Rps ds vs F
  | .rol ds, v, F => ∃ a vs, v = .ref a ∧ SqF K H a vs ∧ D.pus ds = true ∧ Rps ds vs F
  | .lst ds, v, F => ∃ a vs, v = .ref a ∧ H a = some (.lst vs) ∧ F a ∧ Rps ds vs (fun b => F b ∧ b ≠ a)
  | .lck ds, v, F => ∃ a vs, v = .ref a ∧ H a = some (.lst vs) ∧ F a ∧ Rps ds vs (fun b => F b ∧ b ≠ a)
def Rps : List D → List V → Fp → Prop
  | [], vs, _ => vs = []
  | d :: ds, vs, F => ∃ v ws G1 G2, vs = v :: ws ∧ Rp d v G1 ∧ Rps ds ws G2 ∧ (∀ a, G1 a → F a) ∧ (∀ a, G2 a → F a) ∧ (∀ a, G1 a → G2 a → False)
end
end

def Imm : HO → Prop
  | .tup _ => True
  | .frz _ _ => True
  | _ => False
/-- from H to H' all is kept but what stands in F -/
structure Keep (F : Fp) (H H' : Hp) : Prop where
  k : ∀ a o, H a = some o → (¬ F a ∨ Imm o) → H' a = some o
  g : ∀ a, H' a = none → H a = none
/-- what is new or was in F -/
def Fr (F : Fp) (H : Hp) (F' : Fp) : Prop := ∀ a, F' a → F a ∨ H a = none
def Dis (F G : Fp) : Prop := ∀ a, F a → G a → False

theorem Keep.refl (F : Fp) (H : Hp) : Keep F H H := ⟨fun _ _ h _ => h, fun _ h => h⟩
theorem Keep.trans {F F1 : Fp} {H H1 H2 : Hp} (a : Keep F H H1) (b : Keep F1 H1 H2) (s : Fr F H F1) : Keep F H H2 :=
  ⟨fun x o h hn => by
    have h1 := a.k x o h hn
    refine b.k x o h1 ?_
    rcases hn with hn | hn
    · refine .inl fun q => ?_
      rcases s x q with r | r
      · exact hn r
      · rw [h] at r; cases r
    · exact .inr hn, fun x h => a.g x (b.g x h)⟩
theorem Keep.mono {F G : Fp} {H H' : Hp} (a : Keep F H H') (h : ∀ x, F x → G x) : Keep G H H' :=
  ⟨fun x o e hn => a.k x o e (hn.elim (fun n => .inl fun q => n (h x q)) .inr), a.g⟩
/-- a fresh object -/
theorem Keep.new {F : Fp} {H : Hp} {p : Addr} {o : HO} (h : H p = none) : Keep F H (upd H p o) :=
  ⟨fun a u e _ => by rw [upd_ne (ne_of_none e h)]; exact e, fun a e => by
    by_cases q : a = p
    · subst q; exact h
    · rw [upd_ne q] at e; exact e⟩
/-- an object in F changes -/
theorem Keep.set {F : Fp} {H : Hp} {p : Addr} {o u : HO} (h : H p = some u) (hF : F p) (hu : ¬ Imm u) : Keep F H (upd H p o) :=
  ⟨fun a w e hn => by
    by_cases q : a = p
    · subst q
      rw [h] at e; cases e
      rcases hn with n | n
      · exact absurd hF n
      · exact absurd n hu
    · rw [upd_ne q]; exact e, fun a e => by
    by_cases q : a = p
    · subst q; rw [upd_same] at e; cases e
    · rw [upd_ne q] at e; exact e⟩
theorem Fr.trans {F F1 F2 : Fp} {H H1 : Hp} (a : Fr F H F1) (k : Keep F H H1) (b : Fr F1 H1 F2) : Fr F H F2 := fun x h => by
  rcases b x h with r | r
  · exact a x r
  · exact .inr (k.g x r)
theorem Fr.refl (F : Fp) (H : Hp) : Fr F H F := fun _ h => .inl h
theorem Fr.sub {F F' F2 : Fp} {H : Hp} (a : Fr F H F') (h : ∀ x, F2 x → F' x) : Fr F H F2 := fun x q => a x (h x q)

section
variable {K : PySem.W.Frag} {H H' : Hp}
theorem sqt_keep {F : Fp} {a : Addr} {vs : List V} (k : Keep F H H') (h : SqT K H a vs) : SqT K H' a vs := by
  rcases h with (h | ⟨o, h⟩) | h
  · exact .inl (.inl (k.k _ _ h (.inr trivial)))
  · exact .inl (.inr ⟨o, k.k _ _ h (.inr trivial)⟩)
  · exact .inr h
theorem sqf_keep {F : Fp} {a : Addr} {vs : List V} (k : Keep F H H') (h : SqF K H a vs) : SqF K H' a vs := by
  rcases h with ⟨o, h⟩ | h
  · exact .inl ⟨o, k.k _ _ h (.inr trivial)⟩
  · exact .inr h
mutual
theorem Rp.mono : ∀ (d : D) (v : V) (F G : Fp), (∀ a, F a → G a) → Rp K H d v F → Rp K H d v G
  | .non, v, F, G, s, h => h
  | .bl b, v, F, G, s, h => h
  | .int i, v, F, G, s, h => h
  | .str x, v, F, G, s, h => h
  | .ty n, v, F, G, s, h => h
  | .tup ds, v, F, G, s, h => by
    obtain ⟨a, vs, e, q, p, r⟩ := h
    exact ⟨a, vs, e, q, p, Rps.mono ds vs F G s r⟩
  | .rol ds, v, F, G, s, h => by
    obtain ⟨a, vs, e, q, p, r⟩ := h
    exact ⟨a, vs, e, q, p, Rps.mono ds vs F G s r⟩
  | .lst ds, v, F, G, s, h => by
    obtain ⟨a, vs, e, q, hf, r⟩ := h
    exact ⟨a, vs, e, q, s a hf, Rps.mono ds vs _ _ (fun b hb => ⟨s b hb.1, hb.2⟩) r⟩
  | .lck ds, v, F, G, s, h => by
    obtain ⟨a, vs, e, q, hf, r⟩ := h
    exact ⟨a, vs, e, q, s a hf, Rps.mono ds vs _ _ (fun b hb => ⟨s b hb.1, hb.2⟩) r⟩
theorem Rps.mono : ∀ (ds : List D) (vs : List V) (F G : Fp), (∀ a, F a → G a) → Rps K H ds vs F → Rps K H ds vs G
  | [], vs, F, G, s, h => h
  | d :: ds, vs, F, G, s, h => by
    obtain ⟨v, ws, G1, G2, e, h1, h2, s1, s2, dj⟩ := h
    exact ⟨v, ws, G1, G2, e, h1, h2, fun a q => s a (s1 a q), fun a q => s a (s2 a q), dj⟩
end
mutual
theorem Rp.stay {B : Fp} (k : Keep B H H') : ∀ (d : D) (v : V) (F : Fp), (∀ a, F a → B a → False) → Rp K H d v F → Rp K H' d v F
  | .non, v, F, s, h => h
  | .bl b, v, F, s, h => h
  | .int i, v, F, s, h => h
  | .str x, v, F, s, h => h
  | .ty n, v, F, s, h => h
  | .tup ds, v, F, s, h => by
    obtain ⟨a, vs, e, q, p, r⟩ := h
    exact ⟨a, vs, e, sqt_keep k q, p, Rps.stay k ds vs F s r⟩
  | .rol ds, v, F, s, h => by
    obtain ⟨a, vs, e, q, p, r⟩ := h
    exact ⟨a, vs, e, sqf_keep k q, p, Rps.stay k ds vs F s r⟩
  | .lst ds, v, F, s, h => by
    obtain ⟨a, vs, e, q, hf, r⟩ := h
    exact ⟨a, vs, e, k.k _ _ q (.inl (s a hf)), hf, Rps.stay k ds vs _ (fun b hb => s b hb.1) r⟩
  | .lck ds, v, F, s, h => by
    obtain ⟨a, vs, e, q, hf, r⟩ := h
    exact ⟨a, vs, e, k.k _ _ q (.inl (s a hf)), hf, Rps.stay k ds vs _ (fun b hb => s b hb.1) r⟩
theorem Rps.stay {B : Fp} (k : Keep B H H') : ∀ (ds : List D) (vs : List V) (F : Fp), (∀ a, F a → B a → False) → Rps K H ds vs F → Rps K H' ds vs F
  | [], vs, F, s, h => h
  | d :: ds, vs, F, s, h => by
    obtain ⟨v, ws, G1, G2, e, h1, h2, s1, s2, dj⟩ := h
    exact ⟨v, ws, G1, G2, e, Rp.stay k d v G1 (fun a q => s a (s1 a q)) h1, Rps.stay k ds ws G2 (fun a q => s a (s2 a q)) h2, s1, s2, dj⟩
end
mutual
theorem Rp.pure : ∀ (d : D) (v : V) (F : Fp), d.pu = true → Rp K H d v F → Rp K H d v F0
  | .non, v, F, s, h => h
  | .bl b, v, F, s, h => h
  | .int i, v, F, s, h => h
  | .str x, v, F, s, h => h
  | .ty n, v, F, s, h => h
  | .tup ds, v, F, s, h => by
    obtain ⟨a, vs, e, q, p, r⟩ := h
    exact ⟨a, vs, e, q, p, Rps.pure ds vs F p r⟩
  | .rol ds, v, F, s, h => by
    obtain ⟨a, vs, e, q, p, r⟩ := h
    exact ⟨a, vs, e, q, p, Rps.pure ds vs F p r⟩
  | .lst ds, v, F, s, h => by rw [D.pu] at s; cases s
  | .lck ds, v, F, s, h => by rw [D.pu] at s; cases s
theorem Rps.pure : ∀ (ds : List D) (vs : List V) (F : Fp), D.pus ds = true → Rps K H ds vs F → Rps K H ds vs F0
  | [], vs, F, s, h => h
  | d :: ds, vs, F, s, h => by
    obtain ⟨v, ws, G1, G2, e, h1, h2, s1, s2, dj⟩ := h
    rw [D.pus, Bool.and_eq_true] at s
    exact ⟨v, ws, F0, F0, e, Rp.pure d v G1 s.1 h1, Rps.pure ds ws G2 s.2 h2, fun _ q => q, fun _ q => q, fun _ q => q.elim⟩
end
mutual
theorem Rp.trim : ∀ (d : D) (v : V) (F : Fp), Rp K H d v F → Rp K H d v (fun a => F a ∧ H a ≠ none)
  | .non, v, F, h => h
  | .bl b, v, F, h => h
  | .int i, v, F, h => h
  | .str x, v, F, h => h
  | .ty n, v, F, h => h
  | .tup ds, v, F, h => by
    obtain ⟨a, vs, e, q, p, r⟩ := h
    exact ⟨a, vs, e, q, p, Rps.trim ds vs F r⟩
  | .rol ds, v, F, h => by
    obtain ⟨a, vs, e, q, p, r⟩ := h
    exact ⟨a, vs, e, q, p, Rps.trim ds vs F r⟩
  | .lst ds, v, F, h => by
    obtain ⟨a, vs, e, q, hf, r⟩ := h
    exact ⟨a, vs, e, q, ⟨hf, by rw [q]; exact fun z => nomatch z⟩, Rps.mono ds vs _ _ (fun b hb => ⟨⟨hb.1.1, hb.2⟩, hb.1.2⟩) (Rps.trim ds vs _ r)⟩
  | .lck ds, v, F, h => by
    obtain ⟨a, vs, e, q, hf, r⟩ := h
    exact ⟨a, vs, e, q, ⟨hf, by rw [q]; exact fun z => nomatch z⟩, Rps.mono ds vs _ _ (fun b hb => ⟨⟨hb.1.1, hb.2⟩, hb.1.2⟩) (Rps.trim ds vs _ r)⟩
theorem Rps.trim : ∀ (ds : List D) (vs : List V) (F : Fp), Rps K H ds vs F → Rps K H ds vs (fun a => F a ∧ H a ≠ none)
  | [], vs, F, h => h
  | d :: ds, vs, F, h => by
    obtain ⟨v, ws, G1, G2, e, h1, h2, s1, s2, dj⟩ := h
    exact ⟨v, ws, _, _, e, Rp.trim d v G1 h1, Rps.trim ds ws G2 h2, fun a q => ⟨s1 a q.1, q.2⟩, fun a q => ⟨s2 a q.1, q.2⟩, fun a q r => dj a q.1 r.1⟩
end
theorem Rps.length : ∀ (ds : List D) (vs : List V) (F : Fp), Rps K H ds vs F → vs.length = ds.length
  | [], vs, F, h => by rw [show vs = [] from h]; rfl
  | d :: ds, vs, F, h => by
    obtain ⟨v, ws, G1, G2, e, h1, h2, _⟩ := h
    rw [e, List.length_cons, List.length_cons, Rps.length ds ws G2 h2]
theorem Rps.get : ∀ (ds : List D) (vs : List V) (F : Fp) (i : Nat) (d : D), Rps K H ds vs F → ds[i]? = some d → ∃ v, vs[i]? = some v ∧ Rp K H d v F
  | [], vs, F, i, d, h, e => by simp at e
  | x :: ds, vs, F, 0, d, h, e => by
    obtain ⟨v, ws, G1, G2, ev, h1, h2, s1, _⟩ := h
    simp at e; subst e
    exact ⟨v, by rw [ev]; rfl, Rp.mono _ _ _ _ s1 h1⟩
  | x :: ds, vs, F, i + 1, d, h, e => by
    obtain ⟨v, ws, G1, G2, ev, h1, h2, s1, s2, _⟩ := h
    obtain ⟨u, hu, ru⟩ := Rps.get ds ws G2 i d h2 (by simpa using e)
    exact ⟨u, by rw [ev]; simpa using hu, Rp.mono _ _ _ _ s2 ru⟩
/-- a fresh value put behind -/
theorem Rps.snoc : ∀ (ds : List D) (vs : List V) (F G : Fp) (d : D) (v : V), Rps K H ds vs F → Rp K H d v G → Dis F G → Rps K H (ds ++ [d]) (vs ++ [v]) (fun a => F a ∨ G a)
  | [], vs, F, G, d, v, h, hd, dj => by
    rw [show vs = [] from h]
    exact ⟨v, [], G, F0, rfl, hd, rfl, fun a q => .inr q, fun _ q => q.elim, fun _ _ q => q⟩
  | x :: ds, vs, F, G, d, v, h, hd, dj => by
    obtain ⟨u, ws, G1, G2, ev, h1, h2, s1, s2, d2⟩ := h
    subst ev
    exact ⟨u, ws ++ [v], G1, fun a => G2 a ∨ G a, rfl, h1, Rps.snoc ds ws G2 G d v h2 hd (fun a p q => dj a (s2 a p) q), fun a q => .inl (s1 a q), fun a q => q.elim (fun r => .inl (s2 a r)) .inr,
      fun a q r => r.elim (fun z => d2 a q z) fun z => dj a (s1 a q) z⟩
theorem Rps.append : ∀ (ds : List D) (vs : List V) (F G : Fp) (es : List D) (ws : List V), Rps K H ds vs F → Rps K H es ws G → Dis F G → Rps K H (ds ++ es) (vs ++ ws) (fun a => F a ∨ G a)
  | [], vs, F, G, es, ws, h, he, dj => by
    rw [show vs = [] from h]
    exact Rps.mono _ _ _ _ (fun a q => .inr q) he
  | x :: ds, vs, F, G, es, ws, h, he, dj => by
    obtain ⟨u, us, G1, G2, ev, h1, h2, s1, s2, d2⟩ := h
    subst ev
    exact ⟨u, us ++ ws, G1, fun a => G2 a ∨ G a, rfl, h1, Rps.append ds us G2 G es ws h2 he (fun a p q => dj a (s2 a p) q), fun a q => .inl (s1 a q), fun a q => q.elim (fun r => .inl (s2 a r)) .inr,
      fun a q r => r.elim (fun z => d2 a q z) fun z => dj a (s1 a q) z⟩
theorem Rps.set : ∀ (ds : List D) (vs : List V) (F G : Fp) (i : Nat) (d : D) (v : V), Rps K H ds vs F → Rp K H d v G → Dis F G → Rps K H (ds.set i d) (vs.set i v) (fun a => F a ∨ G a)
  | [], vs, F, G, i, d, v, h, hd, dj => by
    rw [show vs = [] from h]
    rfl
  | x :: ds, vs, F, G, 0, d, v, h, hd, dj => by
    obtain ⟨u, ws, G1, G2, ev, h1, h2, s1, s2, d2⟩ := h
    subst ev
    exact ⟨v, ws, G, G2, rfl, hd, h2, fun a q => .inr q, fun a q => .inl (s2 a q), fun a q r => dj a (s2 a r) q⟩
  | x :: ds, vs, F, G, i + 1, d, v, h, hd, dj => by
    obtain ⟨u, ws, G1, G2, ev, h1, h2, s1, s2, d2⟩ := h
    subst ev
    exact ⟨u, ws.set i v, G1, fun a => G2 a ∨ G a, rfl, h1, Rps.set ds ws G2 G i d v h2 hd (fun a p q => dj a (s2 a p) q), fun a q => .inl (s1 a q), fun a q => q.elim (fun r => .inl (s2 a r)) .inr,
      fun a q r => r.elim (fun z => d2 a q z) fun z => dj a (s1 a q) z⟩
theorem Rps.take : ∀ (ds : List D) (vs : List V) (F : Fp) (n : Nat), Rps K H ds vs F → Rps K H (ds.take n) (vs.take n) F
  | ds, vs, F, 0, h => by rw [List.take_zero, List.take_zero]; rfl
  | [], vs, F, n + 1, h => by rw [show vs = [] from h]; rfl
  | x :: ds, vs, F, n + 1, h => by
    obtain ⟨u, ws, G1, G2, ev, h1, h2, s1, s2, d2⟩ := h
    subst ev
    exact ⟨u, ws.take n, G1, G2, rfl, h1, Rps.take ds ws G2 n h2, s1, s2, d2⟩
theorem Rps.drop : ∀ (ds : List D) (vs : List V) (F : Fp) (n : Nat), Rps K H ds vs F → Rps K H (ds.drop n) (vs.drop n) F
  | ds, vs, F, 0, h => h
  | [], vs, F, n + 1, h => by rw [show vs = [] from h]; rfl
  | x :: ds, vs, F, n + 1, h => by
    obtain ⟨u, ws, G1, G2, ev, h1, h2, s1, s2, d2⟩ := h
    subst ev
    exact Rps.mono _ _ _ _ s2 (Rps.drop ds ws G2 n h2)
theorem Rps.reverse : ∀ (ds : List D) (vs : List V) (F : Fp), Rps K H ds vs F → Rps K H ds.reverse vs.reverse F
  | [], vs, F, h => by rw [show vs = [] from h]; rfl
  | x :: ds, vs, F, h => by
    obtain ⟨u, ws, G1, G2, ev, h1, h2, s1, s2, d2⟩ := h
    subst ev
    rw [List.reverse_cons, List.reverse_cons]
    exact Rps.mono _ _ _ _ (fun a q => q.elim (s2 a) (s1 a)) (Rps.snoc _ _ _ _ _ _ (Rps.reverse ds ws G2 h2) h1 fun a p q => d2 a q p)
end

/-! ### slots -/
abbrev Env := List (Option D)
section
variable (K : PySem.W.Frag) (H : Hp)
def Ens : Env → L2.St → Fp → Prop
  | [], σ, _ => σ = []
  | none :: ρ, σ, F => ∃ o τ, σ = o :: τ ∧ Ens ρ τ F
  | some d :: ρ, σ, F => ∃ v τ G1 G2, σ = some v :: τ ∧ Rp K H d v G1 ∧ Ens ρ τ G2 ∧ (∀ a, G1 a → F a) ∧ (∀ a, G2 a → F a) ∧ Dis G1 G2
end
section
variable {K : PySem.W.Frag} {H H' : Hp}
theorem Ens.mono : ∀ (ρ : Env) (σ : L2.St) (F G : Fp), (∀ a, F a → G a) → Ens K H ρ σ F → Ens K H ρ σ G
  | [], σ, F, G, s, h => h
  | none :: ρ, σ, F, G, s, h => by
    obtain ⟨o, τ, e, r⟩ := h
    exact ⟨o, τ, e, Ens.mono ρ τ F G s r⟩
  | some d :: ρ, σ, F, G, s, h => by
    obtain ⟨v, τ, G1, G2, e, h1, h2, s1, s2, dj⟩ := h
    exact ⟨v, τ, G1, G2, e, h1, h2, fun a q => s a (s1 a q), fun a q => s a (s2 a q), dj⟩
theorem Ens.stay {B : Fp} (k : Keep B H H') : ∀ (ρ : Env) (σ : L2.St) (F : Fp), (∀ a, F a → B a → False) → Ens K H ρ σ F → Ens K H' ρ σ F
  | [], σ, F, s, h => h
  | none :: ρ, σ, F, s, h => by
    obtain ⟨o, τ, e, r⟩ := h
    exact ⟨o, τ, e, Ens.stay k ρ τ F s r⟩
  | some d :: ρ, σ, F, s, h => by
    obtain ⟨v, τ, G1, G2, e, h1, h2, s1, s2, dj⟩ := h
    exact ⟨v, τ, G1, G2, e, Rp.stay k d v G1 (fun a q => s a (s1 a q)) h1, Ens.stay k ρ τ G2 (fun a q => s a (s2 a q)) h2, s1, s2, dj⟩
theorem Ens.trim : ∀ (ρ : Env) (σ : L2.St) (F : Fp), Ens K H ρ σ F → Ens K H ρ σ (fun a => F a ∧ H a ≠ none)
  | [], σ, F, h => h
  | none :: ρ, σ, F, h => by
    obtain ⟨o, τ, e, r⟩ := h
    exact ⟨o, τ, e, Ens.trim ρ τ F r⟩
  | some d :: ρ, σ, F, h => by
    obtain ⟨v, τ, G1, G2, e, h1, h2, s1, s2, dj⟩ := h
    exact ⟨v, τ, _, _, e, Rp.trim d v G1 h1, Ens.trim ρ τ G2 h2, fun a q => ⟨s1 a q.1, q.2⟩, fun a q => ⟨s2 a q.1, q.2⟩, fun a q r => dj a q.1 r.1⟩
theorem Ens.length : ∀ (ρ : Env) (σ : L2.St) (F : Fp), Ens K H ρ σ F → σ.length = ρ.length
  | [], σ, F, h => by rw [show σ = [] from h]; rfl
  | none :: ρ, σ, F, h => by
    obtain ⟨o, τ, e, r⟩ := h
    rw [e, List.length_cons, List.length_cons, Ens.length ρ τ F r]
  | some d :: ρ, σ, F, h => by
    obtain ⟨v, τ, G1, G2, e, h1, h2, _⟩ := h
    rw [e, List.length_cons, List.length_cons, Ens.length ρ τ G2 h2]
theorem Ens.get : ∀ (ρ : Env) (σ : L2.St) (F : Fp) (i : Nat) (d : D), Ens K H ρ σ F → ρ[i]? = some (some d) → ∃ v, σ[i]? = some (some v) ∧ Rp K H d v F
  | [], σ, F, i, d, h, e => by simp at e
  | none :: ρ, σ, F, 0, d, h, e => by simp at e
  | none :: ρ, σ, F, i + 1, d, h, e => by
    obtain ⟨o, τ, ev, r⟩ := h
    subst ev
    obtain ⟨v, hv, rv⟩ := Ens.get ρ τ F i d r (by simpa using e)
    exact ⟨v, by simpa using hv, rv⟩
  | some x :: ρ, σ, F, 0, d, h, e => by
    obtain ⟨v, τ, G1, G2, ev, h1, h2, s1, _⟩ := h
    simp at e; subst e; subst ev
    exact ⟨v, rfl, Rp.mono _ _ _ _ s1 h1⟩
  | some x :: ρ, σ, F, i + 1, d, h, e => by
    obtain ⟨v, τ, G1, G2, ev, h1, h2, s1, s2, _⟩ := h
    subst ev
    obtain ⟨u, hu, ru⟩ := Ens.get ρ τ G2 i d h2 (by simpa using e)
    exact ⟨u, by simpa using hu, Rp.mono _ _ _ _ s2 ru⟩
/-- a slot forgets -/
theorem Ens.forget : ∀ (ρ : Env) (σ : L2.St) (F : Fp) (i : Nat), Ens K H ρ σ F → Ens K H (ρ.set i none) σ F
  | [], σ, F, i, h => h
  | none :: ρ, σ, F, 0, h => h
  | none :: ρ, σ, F, i + 1, h => by
    obtain ⟨o, τ, ev, r⟩ := h
    exact ⟨o, τ, ev, Ens.forget ρ τ F i r⟩
  | some x :: ρ, σ, F, 0, h => by
    obtain ⟨v, τ, G1, G2, ev, h1, h2, s1, s2, _⟩ := h
    exact ⟨some v, τ, ev, Ens.mono _ _ _ _ s2 h2⟩
  | some x :: ρ, σ, F, i + 1, h => by
    obtain ⟨v, τ, G1, G2, ev, h1, h2, s1, s2, dj⟩ := h
    exact ⟨v, τ, G1, G2, ev, h1, Ens.forget ρ τ G2 i h2, s1, s2, dj⟩
/-- σ at a slot that the environment does not know may be anything -/
theorem Ens.other : ∀ (ρ : Env) (σ : L2.St) (F : Fp) (i : Nat) (o : Option V), Ens K H ρ σ F → ρ[i]? ≠ none → (∀ d, ρ[i]? ≠ some (some d)) → Ens K H ρ (σ.set i o) F
  | [], σ, F, i, o, h, e, e2 => by rw [show σ = [] from h]; rfl
  | none :: ρ, σ, F, 0, o, h, e, e2 => by
    obtain ⟨u, τ, ev, r⟩ := h
    exact ⟨o, τ, by rw [ev]; rfl, r⟩
  | none :: ρ, σ, F, i + 1, o, h, e, e2 => by
    obtain ⟨u, τ, ev, r⟩ := h
    exact ⟨u, τ.set i o, by rw [ev]; rfl, Ens.other ρ τ F i o r (by simpa using e) (by simpa using e2)⟩
  | some x :: ρ, σ, F, 0, o, h, e, e2 => absurd rfl (e2 x)
  | some x :: ρ, σ, F, i + 1, o, h, e, e2 => by
    obtain ⟨v, τ, G1, G2, ev, h1, h2, s1, s2, dj⟩ := h
    exact ⟨v, τ.set i o, G1, G2, by rw [ev]; rfl, h1, Ens.other ρ τ G2 i o h2 (by simpa using e) (by simpa using e2), s1, s2, dj⟩
/-- a value laid into a slot -/
theorem Ens.put : ∀ (ρ : Env) (σ : L2.St) (F G : Fp) (i : Nat) (d : D) (v : V), Ens K H ρ σ F → Rp K H d v G → Dis F G → Ens K H (ρ.set i (some d)) (σ.set i (some v)) (fun a => F a ∨ G a)
  | [], σ, F, G, i, d, v, h, hd, dj => by rw [show σ = [] from h]; rfl
  | none :: ρ, σ, F, G, 0, d, v, h, hd, dj => by
    obtain ⟨u, τ, ev, r⟩ := h
    exact ⟨v, τ, G, F, by rw [ev]; rfl, hd, r, fun a q => .inr q, fun a q => .inl q, fun a p q => dj a q p⟩
  | none :: ρ, σ, F, G, i + 1, d, v, h, hd, dj => by
    obtain ⟨u, τ, ev, r⟩ := h
    exact ⟨u, τ.set i (some v), by rw [ev]; rfl, Ens.put ρ τ F G i d v r hd dj⟩
  | some x :: ρ, σ, F, G, 0, d, v, h, hd, dj => by
    obtain ⟨u, τ, G1, G2, ev, h1, h2, s1, s2, d2⟩ := h
    exact ⟨v, τ, G, G2, by rw [ev]; rfl, hd, h2, fun a q => .inr q, fun a q => .inl (s2 a q), fun a p q => dj a (s2 a q) p⟩
  | some x :: ρ, σ, F, G, i + 1, d, v, h, hd, dj => by
    obtain ⟨u, τ, G1, G2, ev, h1, h2, s1, s2, d2⟩ := h
    exact ⟨u, τ.set i (some v), G1, fun a => G2 a ∨ G a, by rw [ev]; rfl, h1, Ens.put ρ τ G2 G i d v h2 hd (fun a p q => dj a (s2 a p) q), fun a q => .inl (s1 a q), fun a q => q.elim (fun r => .inl (s2 a r)) .inr,
      fun a p q => q.elim (fun z => d2 a p z) fun z => dj a (s1 a p) z⟩
/-- a slot's value taken out: what it has is apart from the rest -/
theorem Ens.take : ∀ (ρ : Env) (σ : L2.St) (F : Fp) (i : Nat) (d : D), Ens K H ρ σ F → ρ[i]? = some (some d) → ∃ v G1 G2, σ[i]? = some (some v) ∧ Rp K H d v G1 ∧ Ens K H (ρ.set i none) σ G2 ∧ (∀ a, G1 a → F a) ∧ (∀ a, G2 a → F a) ∧ Dis G1 G2
  | [], σ, F, i, d, h, e => by simp at e
  | none :: ρ, σ, F, 0, d, h, e => by simp at e
  | none :: ρ, σ, F, i + 1, d, h, e => by
    obtain ⟨o, τ, ev, r⟩ := h
    obtain ⟨v, G1, G2, hv, rv, re, s1, s2, dj⟩ := Ens.take ρ τ F i d r (by simpa using e)
    exact ⟨v, G1, G2, by rw [ev]; simpa using hv, rv, ⟨o, τ, ev, re⟩, s1, s2, dj⟩
  | some x :: ρ, σ, F, 0, d, h, e => by
    obtain ⟨v, τ, G1, G2, ev, h1, h2, s1, s2, dj⟩ := h
    simp at e; subst e
    exact ⟨v, G1, G2, by rw [ev]; rfl, h1, ⟨some v, τ, ev, h2⟩, s1, s2, dj⟩
  | some x :: ρ, σ, F, i + 1, d, h, e => by
    obtain ⟨u, τ, G1, G2, ev, h1, h2, s1, s2, dj⟩ := h
    obtain ⟨v, G3, G4, hv, rv, re, s3, s4, d4⟩ := Ens.take ρ τ G2 i d h2 (by simpa using e)
    refine ⟨v, G3, fun a => G1 a ∨ G4 a, by rw [ev]; simpa using hv, rv, ⟨u, τ, G1, G4, ev, h1, re, fun a q => .inl q, fun a q => .inr q, fun a p q => dj a p (s4 a q)⟩, fun a q => s2 a (s3 a q),
      fun a q => q.elim (s1 a) fun r => s2 a (s4 a r), fun a p q => q.elim (fun r => dj a r (s3 a p)) fun r => d4 a p r⟩
theorem set_same {α : Type} : ∀ (l : List α) (i : Nat) (x : α), l[i]? = some x → l.set i x = l
  | [], i, x, h => by simp at h
  | y :: l, 0, x, h => by simp at h; rw [h]; rfl
  | y :: l, i + 1, x, h => by
    show y :: l.set i x = y :: l
    rw [set_same l i x (by simpa using h)]
/-- laid back at the slot's own place -/
theorem Ens.back {ρ : Env} {σ : L2.St} {F G : Fp} {i : Nat} {d : D} {v : V} (h : Ens K H (ρ.set i none) σ F) (hv : σ[i]? = some (some v)) (hd : Rp K H d v G) (dj : Dis F G) : Ens K H (ρ.set i (some d)) σ (fun a => F a ∨ G a) := by
  have q := Ens.put _ _ F G i d v h hd dj
  rw [List.set_set, set_same σ i (some v) hv] at q
  exact q
end
end TI
set_option Elab.async false
set_option linter.all false
set_option maxRecDepth 100000
set_option maxHeartbeats 4000000
/-! a small evaluator over values without addresses -/
namespace TI
open PySem PySem.Spec PyProof.Rows L2

inductive Res where
  | ret (d : D) (fin : Env)
  | exc (c : Str) (fs : List (Str × D))
  | stuck
structure Nx where
  nx : Env → Res
  bk : Env → Res
  ct : Env → Res
  rt : D → Env → Res
/-- what a global name is -/
inductive Glo where
  | fn (n : Nat) | bi | con (d : D) | kd (kvs : List (Str × D)) | no
structure Cd where
  N : List Str
  np : Nat
  glo : Str → Glo
  call : Str → List D → Res
  wf : Nat
  own : Str → Bool
  xc : Str → List (Str × D) → Env → Res

inductive Arg where
  | nm (i : Nat) | own (d : D) | bor (d : D)

def ixOf : List Str → Str → Option Nat
  | [], _ => none
  | y :: l, x => if y = x then some 0 else (ixOf l x).map (· + 1)
def vis (sc : Scope) (x : Str) : Bool :=
  match sc.names.lookup x with
  | some .local => true
  | some .cell => true
  | some .free => true
  | _ => false
def locl (sc : Scope) (x : Str) : Bool :=
  match sc.names.lookup x with
  | some .local => true
  | some .cell => true
  | _ => false
def okName (x : Str) : Bool := !(x == ("__debug__" : Str)) && !(x == ("__classdict__" : Str)) && !(x == ("__name__" : Str))
def slotOf (C : Cd) (sc : Scope) (x : Str) : Option Nat := if vis sc x && okName x then ixOf C.N x else none
def globOf (C : Cd) (sc : Scope) (x : Str) : Glo := match sc.names.lookup x with
  | some .globalImplicit => if okName x then C.glo x else .no
  | _ => .no
def isBi (C : Cd) (sc : Scope) (x : Str) : Bool := match globOf C sc x with
  | .bi => true
  | _ => false
def isFn (C : Cd) (sc : Scope) (x : Str) : Option Nat := match globOf C sc x with
  | .fn n => some n
  | _ => none
def noStar : List Expr → Bool
  | [] => true
  | .Starred _ _ :: _ => false
  | _ :: r => noStar r

def oK {α : Type} (o : Option α) (k : α → Res) : Res := match o with
  | some a => k a
  | none => .stuck
def puK (d : D) (r : Res) : Res := match d.pu with
  | true => r
  | false => .stuck
def pusK (ds : List D) (r : Res) : Res := match D.pus ds with
  | true => r
  | false => .stuck
def ckK (b : Bool) (r : Res) : Res := match b with
  | true => r
  | false => .stuck
def getK (ρ : Env) (i : Nat) (k : D → Res) : Res := match ρ[i]? with
  | some (some d) => k d
  | _ => .stuck

def isPath : Expr → Bool
  | .Name _ _ => true
  | .Subscript _ (.Slice _ _ _ _) _ => false
  | .Subscript _ _ _ => true
  | .Attribute _ _ _ => true
  | .IfExp _ _ _ _ => true
  | .BoolOp _ _ _ => true
  | _ => false
def isCalm : Expr → Bool
  | .Name _ _ => true
  | .Constant _ _ _ => true
  | _ => false
/-- a value that is kept while e is evaluated -/
def holdK (e1 : Expr) (d1 : D) (e2 : Expr) (r : Res) : Res := if isPath e1 && !isCalm e2 then puK d1 r else r
def storK (e : Expr) (d : D) (r : Res) : Res := if isPath e then puK d r else r

def szLine : Nat := 16777216
/-! ### operators by values -/
def mulOk (i j : Int) : Bool := decide (i.natAbs < 18446744073709551616) || decide (j.natAbs < 18446744073709551616) || decide (i.natAbs.log2 + j.natAbs.log2 < 1000000)
def divOk (j : Int) : Bool := (decide (j ≠ 0) && decide (j.natAbs < 1073741824)) || (decide (0 < j) && decide (j.natAbs.log2 < 9000))
def dAdd (x y : D) (k : D → Res) : Res := match x, y with
  | .int i, .int j => k (.int (i + j))
  | .str a, .str b => ckK (decide (a.length + b.length ≤ szLine)) (k (.str (a ++ b)))
  | .tup xs, .tup ys => ckK (decide (xs.length + ys.length ≤ szLine)) (k (.tup (xs ++ ys)))
  | .lst xs, .lst ys => ckK (decide (xs.length + ys.length ≤ szLine)) (pusK xs (pusK ys (k (.lst (xs ++ ys)))))
  | _, _ => .stuck
def dSub (x y : D) (k : D → Res) : Res := match x, y with
  | .int i, .int j => k (.int (i - j))
  | _, _ => .stuck
def dMul (x y : D) (k : D → Res) : Res := match x, y with
  | .int i, .int j => ckK (mulOk i j) (k (.int (i * j)))
  | _, _ => .stuck
def dDiv (x y : D) (k : D → Res) : Res := match x, y with
  | .int i, .int j => ckK (divOk j) (k (.int (i.fdiv j)))
  | _, _ => .stuck
def dMod (x y : D) (k : D → Res) : Res := match x, y with
  | .int i, .int j => ckK (decide (j ≠ 0)) (k (.int (i.fmod j)))
  | _, _ => .stuck
def dPow (x y : D) (k : D → Res) : Res := match x, y with
  | .int i, .int j => ckK (decide (0 ≤ j) && decide (j ≤ 1000000) && decide (i.natAbs < 18446744073709551616)) (k (.int (i ^ j.toNat)))
  | _, _ => .stuck
def binD (op : Operator) (x y : D) (k : D → Res) : Res := match op with
  | .Add => dAdd x y k
  | .Sub => dSub x y k
  | .Mult => dMul x y k
  | .FloorDiv => dDiv x y k
  | .Mod => dMod x y k
  | .Pow => dPow x y k
  | _ => .stuck

def dEq (x y : D) (k : Bool → Res) : Res := match x, y with
  | .int i, .int j => k (decide (i = j))
  | .str a, .str b => k (decide (a = b))
  | .bl a, .bl b => k (decide (a = b))
  | .non, .int _ => k false
  | .int _, .non => k false
  | .non, .str _ => k false
  | .str _, .non => k false
  | .int _, .str _ => k false
  | .str _, .int _ => k false
  | .non, .non => k true
  | _, _ => .stuck
def dLt (x y : D) (k : Bool → Res) : Res := match x, y with
  | .int i, .int j => k (decide (i < j))
  | .str a, .str b => k (decide (a.cps.toList < b.cps.toList))
  | _, _ => .stuck
def dLe (x y : D) (k : Bool → Res) : Res := match x, y with
  | .int i, .int j => k (decide (i ≤ j))
  | _, _ => .stuck
def isN : D → Bool
  | .non => true
  | _ => false
def isB (b : Bool) : D → Bool
  | .bl c => decide (c = b)
  | _ => false
/-- x is y, y a written None, True or False -/
def dIs (x y : D) (k : Bool → Res) : Res := match y with
  | .non => k (isN x)
  | .bl b => k (isB b x)
  | _ => .stuck
def cmpD (op : CmpOp) (x y : D) (k : Bool → Res) : Res := match op with
  | .Eq => dEq x y k
  | .NotEq => dEq x y fun b => k (!b)
  | .Lt => dLt x y k
  | .Gt => dLt y x k
  | .LtE => dLe x y k
  | .GtE => dLe y x k
  | .Is => dIs x y k
  | .IsNot => dIs x y fun b => k (!b)
  | _ => .stuck

def atK (ds : List D) (i : Int) (k : D → Res) : Res := match atI ds i with
  | some d => k d
  | none => .stuck
/-- d[i] -/
def dIx (d i : D) (k : D → Res) : Res := match d, i with
  | .tup ds, .int j => atK ds j k
  | .rol ds, .int j => atK ds j k
  | .lst ds, .int j => atK ds j k
  | .lck ds, .int j => atK ds j k
  | .str x, .int j => ckK (decide (x.length ≤ szLine)) (match atI x.cps.toList j with
    | some c => k (.str ⟨#[c]⟩)
    | none => .stuck)
  | _, _ => .stuck
def cutL (ds : List D) (lo hi : Option Int) : List D := (ds.drop (HT.sIx ds.length 0 lo)).take (HT.sIx ds.length ds.length hi - HT.sIx ds.length 0 lo)
/-- d[lo:hi] -/
def dSl (d : D) (lo hi : Option Int) (k : D → Res) : Res := match d with
  | .tup ds => k (.tup (cutL ds lo hi))
  | .rol ds => k (.lst (cutL ds lo hi))
  | .lst ds => pusK ds (k (.lst (cutL ds lo hi)))
  | .lck ds => pusK ds (k (.lst (cutL ds lo hi)))
  | .str x => ckK (decide (x.length ≤ szLine)) (k (.str (cutS x lo hi)))
  | _ => .stuck
def dNeg (d : D) (k : D → Res) : Res := match d with
  | .int i => k (.int (-i))
  | _ => .stuck
/-- the truth of a value -/
def dTru (d : D) (k : Bool → Res) : Res := match d with
  | .non => k false
  | .bl b => k b
  | .int i => k (decide (i ≠ 0))
  | .str x => ckK (decide (x.length ≤ szLine)) (k (decide (x.length ≠ 0)))
  | .tup ds => k (!ds.isEmpty)
  | .rol ds => k (!ds.isEmpty)
  | .lst ds => k (!ds.isEmpty)
  | .lck ds => k (!ds.isEmpty)
  | _ => .stuck
def dLen (d : D) (k : D → Res) : Res := match d with
  | .str x => ckK (decide (x.length ≤ szLine)) (k (.int x.length))
  | .tup ds => k (.int ds.length)
  | .rol ds => k (.int ds.length)
  | .lst ds => k (.int ds.length)
  | .lck ds => k (.int ds.length)
  | _ => .stuck
def dInt (d : D) (k : D → Res) : Res := match d with
  | .int i => k (.int i)
  | .bl b => k (.int (if b then 1 else 0))
  | .str x => ckK (decide (x.length ≤ 640)) (match intText? x with
    | some n => k (.int n)
    | none => .stuck)
  | _ => .stuck
def dStr (d : D) (k : D → Res) : Res := match d with
  | .int i => ckK (decide (i.natAbs.log2 < 1920)) (k (.str (Str.ofString (toString i))))
  | _ => .stuck
def dTup (d : D) (k : D → Res) : Res := match d with
  | .tup ds => k (.tup ds)
  | .rol ds => k (.tup ds)
  | .lst ds => pusK ds (k (.tup ds))
  | .lck ds => pusK ds (k (.tup ds))
  | _ => .stuck
def tyD : D → Option String
  | .non => some "NoneType"
  | .bl _ => some "bool"
  | .int _ => some "int"
  | .str _ => some "str"
  | .tup _ => some "tuple"
  | .rol _ => some "list"
  | .lst _ => some "list"
  | .lck _ => some "list"
  | .ty _ => none
def isiCls (c : Str) : Option String :=
  if c = "int" then some "int"
  else if c = "str" then some "str"
  else if c = "tuple" then some "tuple"
  else if c = "list" then some "list"
  else if c = "bool" then some "bool"
  else none
def dIsi (d : D) (n : String) (k : D → Res) : Res := oK (tyD d) fun t => k (.bl (t == n || (n == "int" && t == "bool")))
def strsD : List D → Option (List Str)
  | [] => some []
  | .str x :: ds => (strsD ds).map (x :: ·)
  | _ :: _ => none
def joinLen (a : Str) (ys : List Str) : Nat := (Txt.join a ys).length
def dJoin (a : Str) (d : D) (k : D → Res) : Res :=
  let go (ds : List D) : Res := match strsD ds with
    | some ys => ckK (decide ((ys.map (·.length)).sum + ys.length * a.length ≤ szLine)) (k (.str (Txt.join a ys)))
    | none => .stuck
  match d with
  | .tup ds => go ds
  | .rol ds => go ds
  | .lst ds => go ds
  | .lck ds => go ds
  | _ => .stuck

/-! ### arguments -/
def resP : List Arg → Env → (List D → Res) → Res
  | [], _, k => k []
  | .nm i :: as, ρ, k => getK ρ i fun d => puK d (resP as ρ fun ds => k (d :: ds))
  | .own d :: as, ρ, k => resP as ρ fun ds => k (d :: ds)
  | .bor d :: as, ρ, k => puK d (resP as ρ fun ds => k (d :: ds))
def resB : List Arg → Env → (List D → Res) → Res
  | [], _, k => k []
  | .nm i :: as, ρ, k => getK ρ i fun d => resB as ρ fun ds => k (d :: ds)
  | .own d :: as, ρ, k => resB as ρ fun ds => k (d :: ds)
  | .bor d :: as, ρ, k => resB as ρ fun ds => k (d :: ds)
/-- what stays in a slot that lends its value; what comes back -/
def lend (d : D) : Option D := match d.pu with
  | true => some d
  | false => none
def unlend (d : D) (o : Option (Option D)) : Option D := match d.pu with
  | true => some d
  | false => match o with
    | some o' => o'
    | none => none
/-- the arguments of a call of one's own: what is written through a name is lent -/
def takeK : List Arg → Nat → Env → (List D → Env → List (Nat × Nat × D) → Res) → Res
  | [], _, ρ, k => k [] ρ []
  | .nm i :: as, p, ρ, k => getK ρ i fun d => takeK as (p + 1) (ρ.set i (lend d)) fun ds ρ1 l => k (d :: ds) ρ1 ((i, p, d) :: l)
  | .own d :: as, p, ρ, k => takeK as (p + 1) ρ fun ds ρ1 l => k (d :: ds) ρ1 l
  | .bor d :: as, p, ρ, k => puK d (takeK as (p + 1) ρ fun ds ρ1 l => k (d :: ds) ρ1 l)
def back : List (Nat × Nat × D) → Env → Env → Env
  | [], _, ρ => ρ
  | e :: l, fin, ρ => back l fin (ρ.set e.1 (unlend e.2.2 fin[e.2.1]?))
def callK (C : Cd) (f : Str) (as : List Arg) (ρ : Env) (k : D → Env → Res) : Res :=
  takeK as 0 ρ fun ds ρ1 l => match C.call f ds with
    | .ret d fin => k d (back l fin ρ1)
    | .exc c fs => C.xc c fs ρ1
    | .stuck => .stuck

/-- what of the parameters is handed back: their objects -/
def fin1 (o : Option D) : Option D := match o with
  | some d => (match d.pu with
    | true => none
    | false => some d)
  | none => none
def finOf : Nat → Env → Env
  | 0, _ => []
  | n + 1, [] => none :: finOf n []
  | n + 1, o :: ρ => fin1 o :: finOf n ρ

/-! ### the evaluator's parts -/
structure Fns where
  E : Cd → Scope → Expr → Env → (D → Env → Res) → Res
  T : Cd → Scope → Expr → Env → (Bool → Env → Res) → Res
  A : Cd → Scope → List Expr → Env → (List Arg → Env → Res) → Res
  P : Cd → Scope → Expr → Env → (D → Env → Res) → Res
  G : Cd → Scope → Expr → D → Env → (Env → Res) → Res
  S : Cd → Scope → List Stmt → Env → Nx → Res
def dead : Fns := ⟨fun _ _ _ _ _ => .stuck, fun _ _ _ _ _ => .stuck, fun _ _ _ _ _ => .stuck, fun _ _ _ _ _ => .stuck, fun _ _ _ _ _ _ => .stuck, fun _ _ _ _ _ => .stuck⟩

def nameE (C : Cd) (sc : Scope) (x : Str) (ρ : Env) (k : D → Env → Res) : Res :=
  match slotOf C sc x with
  | some i => getK ρ i fun d => k d ρ
  | none => match globOf C sc x with
    | .con d => k d ρ
    | _ => .stuck
def constE (c : Const) (k : D → Res) : Res := match c with
  | .int i => k (.int i)
  | .bool b => k (.bl b)
  | .none => k .non
  | .str x => k (.str x)
  | _ => .stuck
/-- a slot's new value: an own parameter's object is never lost -/
def setK (C : Cd) (i : Nat) (d : D) (ρ : Env) (k : Env → Res) : Res :=
  if i < C.np then puK d (match ρ[i]? with
    | some (some o) => puK o (k (ρ.set i (some d)))
    | _ => .stuck)
  else k (ρ.set i (some d))
/-- parts of a slice -/
def optE (R : Fns) (C : Cd) (sc : Scope) (o : Option Expr) (ρ : Env) (k : Option Int → Env → Res) : Res := match o with
  | none => k none ρ
  | some e => R.E C sc e ρ fun d ρ1 => match d with
    | .int i => k (some i) ρ1
    | _ => .stuck
def kdGet (kvs : List (Str × D)) (x : Str) : Option D := kvs.lookup x

def callE (R : Fns) (C : Cd) (sc : Scope) (f : Str) (n : Nat) (args : List Expr) (ρ : Env) (k : D → Env → Res) : Res := match args with
  | [] => ckK (decide (0 = n)) (callK C f [] ρ k)
  | a :: r => R.A C sc (a :: r) ρ fun as ρ1 => ckK (decide (as.length = n)) (callK C f as ρ1 k)
def as1 : List D → Option D
  | [d] => some d
  | _ => none
/-- a built-in called by its name -/
def isB1 (f : Str) : Bool := f == "len" || f == "int" || f == "str" || f == "tuple"
def biE (f : Str) (as : List Arg) (ρ : Env) (k : D → Env → Res) : Res :=
  resB as ρ fun ds =>
    if f = "len" then oK (as1 ds) fun d => dLen d fun r => k r ρ
    else if f = "int" then oK (as1 ds) fun d => dInt d fun r => k r ρ
    else if f = "str" then oK (as1 ds) fun d => dStr d fun r => k r ρ
    else if f = "tuple" then oK (as1 ds) fun d => dTup d fun r => k r ρ
    else .stuck
def isiE (R : Fns) (C : Cd) (sc : Scope) (args : List Expr) (ρ : Env) (k : D → Env → Res) : Res := match args with
  | [a, .Name c _] => ckK (isBi C sc c) (oK (isiCls c) fun n => R.E C sc a ρ fun d ρ1 => dIsi d n fun r => k r ρ1)
  | _ => .stuck

def nmOf : Expr → Option Str
  | .Name x _ => some x
  | _ => none
def opG : Expr → Bool
  | .Call (.Name _ _) [] [] _ => false
  | _ => true
def asS : List D → Option Str
  | [.str y] => some y
  | _ => none
def asSII : List D → Option (Str × Int × Int)
  | [.str y, .int i, .int j] => some (y, i, j)
  | _ => none
/-- a method of a text -/
def strM (m : Str) (x : Str) (ds : List D) (k : D → Res) : Res :=
  if m = "join" then (match ds with
    | [d] => dJoin x d k
    | _ => .stuck)
  else if m = "find" then oK (asSII ds) fun t => k (.int (Txt.findIn x t.1 t.2.1 t.2.2))
  else if m = "lstrip" then oK (asS ds) fun y => ckK (decide (x.length ≤ szLine)) (k (.str (Txt.lstripChars x y)))
  else .stuck

/-- a name's item -/
def ixN1 (R : Fns) (C : Cd) (sc : Scope) (x : Str) (i : Expr) (ρ : Env) (k : D → Env → Res) : Res := match slotOf C sc x with
  | some j => getK ρ j fun _ => R.E C sc i ρ fun y ρ1 => getK ρ1 j fun d => dIx d y fun z => k z ρ1
  | none => (match globOf C sc x with
    | .kd kvs => R.E C sc i ρ fun y ρ1 => oK (asS [y]) fun s => oK (kdGet kvs s) fun d => k d ρ1
    | .con d => R.E C sc i ρ fun y ρ1 => dIx d y fun z => k z ρ1
    | _ => .stuck)
/-- arguments, one at least -/
def argE (R : Fns) (C : Cd) (sc : Scope) (args : List Expr) (ρ : Env) (k : List Arg → Env → Res) : Res := match args with
  | [] => .stuck
  | a :: r => R.A C sc (a :: r) ρ k
/-- a method called -/
def appE (R : Fns) (C : Cd) (sc : Scope) (m : Str) (i : Nat) (args : List Expr) (ρ : Env) (k : D → Env → Res) : Res :=
  if m = "append" then R.A C sc args ρ fun as ρ1 => resP as ρ1 fun ys => oK (as1 ys) fun y => getK ρ1 i fun d1 => (match d1 with
    | .lst zs => ckK (decide (zs.length < szLine)) (k .non (ρ1.set i (some (.lst (zs ++ [y])))))
    | _ => .stuck)
  else .stuck
def isStrM (m : Str) : Bool := m == "join" || m == "find" || m == "lstrip"
def strE (R : Fns) (C : Cd) (sc : Scope) (o : Expr) (m : Str) (args : List Expr) (ρ : Env) (k : D → Env → Res) : Res :=
  ckK (isStrM m) (R.E C sc o ρ fun d ρ1 => oK (asS [d]) fun x => R.A C sc args ρ1 fun as ρ2 => resB as ρ2 fun ds => strM m x ds fun z => k z ρ2)
def methE (R : Fns) (C : Cd) (sc : Scope) (o : Expr) (m : Str) (args : List Expr) (ρ : Env) (k : D → Env → Res) : Res :=
  if m = "append" then (match o with
    | .Name x _ => (match slotOf C sc x with
      | some i => getK ρ i fun d => (match d with
        | .lst _ => appE R C sc m i args ρ k
        | _ => .stuck)
      | none => .stuck)
    | _ => .stuck)
  else strE R C sc o m args ρ k
/-- [elt for tg in ds if ..] -/
def lcC (step : D → Env → (Option D → Env → Res) → Res) : List D → List D → Env → (List D → Env → Res) → Res
  | [], acc, ρ, k => k acc ρ
  | d :: ds, acc, ρ, k => step d ρ fun o ρ1 => match o with
    | some y => ckK (decide (acc.length < szLine)) (lcC step ds (acc ++ [y]) ρ1 k)
    | none => lcC step ds acc ρ1 k
def forC (step : D → Env → Nx → Res) : List D → Env → Nx → Res
  | [], ρ, E => E.nx ρ
  | d :: ds, ρ, E => step d ρ { nx := fun ρ1 => forC step ds ρ1 E, bk := E.nx, ct := fun ρ1 => forC step ds ρ1 E, rt := E.rt }
def whileC (test : Env → (Bool → Env → Res) → Res) (body : Env → Nx → Res) : Nat → Env → Nx → Res
  | 0, _, _ => .stuck
  | n + 1, ρ, E => test ρ fun b ρ1 => match b with
    | true => body ρ1 { nx := fun ρ2 => whileC test body n ρ2 E, bk := E.nx, ct := fun ρ2 => whileC test body n ρ2 E, rt := E.rt }
    | false => E.nx ρ1
def rngL (lo : Int) (n : Nat) : List D := (List.range n).map fun (i : Nat) => .int (lo + (i : Int))
def smallI (i : Int) : Bool := decide (i.natAbs < 4611686018427387904)
/-- what a for, a comprehension walks: its items -/
def seqK (e : Expr) (d : D) (k : List D → Res) : Res := match d with
  | .tup ds => k ds
  | .rol ds => k ds
  | .lst ds => ckK (!isPath e) (pusK ds (k ds))
  | _ => .stuck
def rngE (R : Fns) (C : Cd) (sc : Scope) (args : List Expr) (ρ : Env) (k : List D → Env → Res) : Res := match args with
  | [a] => R.A C sc [a] ρ fun as ρ1 => resB as ρ1 fun ds => (match ds with
    | [.int hi] => ckK (smallI hi) (k (rngL 0 hi.toNat) ρ1)
    | _ => .stuck)
  | [a, b] => R.A C sc [a, b] ρ fun as ρ1 => resB as ρ1 fun ds => (match ds with
    | [.int lo, .int hi] => ckK (smallI lo && smallI hi) (k (rngL lo (hi - lo).toNat) ρ1)
    | _ => .stuck)
  | _ => .stuck
def rngF : Expr → Option (Str × List Expr)
  | .Call (.Name f _) args [] _ => some (f, args)
  | _ => none
def isSet : Expr → Bool
  | .Set _ _ _ => true
  | _ => false
def iterE (R : Fns) (C : Cd) (sc : Scope) (e : Expr) (ρ : Env) (k : List D → Env → Res) : Res :=
  ckK (!isSet e) (match rngF e with
  | some (f, args) => if f = "range" then ckK (isBi C sc f && noStar args) (rngE R C sc args ρ k) else R.E C sc e ρ fun d ρ1 => seqK e d fun ds => k ds ρ1
  | none => R.E C sc e ρ fun d ρ1 => seqK e d fun ds => k ds ρ1)
def ownOf (N : List Str) (scope : Scope) : List (Str × Nat) := scope.names.filterMap fun y => match y.2 with
  | .local => (ixOf N y.1).map fun i => (y.1, i)
  | .cell => (ixOf N y.1).map fun i => (y.1, i)
  | _ => none
def wipeE (ρ : Env) : List Nat → Env
  | [] => ρ
  | v :: vs => (wipeE ρ vs).set v none
def wipeB (ρ ρ0 : Env) : List Nat → Env
  | [] => ρ
  | v :: vs => wipeB (ρ.set v (ρ0[v]?.getD none)) ρ0 vs
/-- the slots that a comprehension's names hide hold nothing that is written -/
def hidOk (ρ : Env) : List Nat → Bool
  | [] => true
  | v :: vs => (match ρ[v]? with
    | some (some d) => d.pu
    | some none => true
    | none => false) && hidOk ρ vs
def ifsE (R : Fns) (C : Cd) (sc : Scope) (ifs : List Expr) (ρ : Env) (k : Bool → Env → Res) : Res := match ifs with
  | [] => k true ρ
  | [c] => R.T C sc c ρ k
  | _ => .stuck
def few {α : Type} : List α → Bool
  | [] => true
  | [_] => true
  | _ => false
/-- within a comprehension's block -/
def lcCd (C : Cd) (scope : Scope) : Cd := { C with own := fun x => locl scope x, xc := fun _ _ _ => .stuck }
def lcStep (R : Fns) (C : Cd) (sc : Scope) (elt tg : Expr) (ifs : List Expr) (scope : Scope) (d : D) (ρ2 : Env) (k2 : Option D → Env → Res) : Res :=
  R.G (lcCd C scope) (relS scope sc) tg d (wipeE ρ2 ((ownOf C.N scope).map (·.2))) fun ρ3 => ifsE R (lcCd C scope) (relS scope sc) ifs ρ3 fun b ρ4 => match b with
      | true => R.E (lcCd C scope) (relS scope sc) elt ρ4 fun y ρ5 => storK elt y (k2 (some y) ρ5)
      | false => k2 none ρ4
def lcE (R : Fns) (C : Cd) (sc : Scope) (elt tg it : Expr) (ifs : List Expr) (scope : Scope) (ρ : Env) (k : D → Env → Res) : Res :=
  ckK (blkC C.N sc scope (ownOf C.N scope) && few ifs && !isSet it) <|
  iterE R C sc it ρ fun ds ρ1 =>
    ckK (hidOk ρ1 ((ownOf C.N scope).map (·.2))) <|
    lcC (lcStep R C sc elt tg ifs scope) ds [] (wipeE ρ1 ((ownOf C.N scope).map (·.2))) fun acc ρ6 => k (.lst acc) (wipeB ρ6 ρ1 ((ownOf C.N scope).map (·.2)))

/-- membership: in a written dict -/
def kdOf (C : Cd) (sc : Scope) (b : Expr) : Option (List (Str × D)) := match b with
  | .Name y _ => (match slotOf C sc y with
    | none => (match globOf C sc y with
      | .kd kvs => some kvs
      | _ => none)
    | _ => none)
  | _ => none
def cmpE (R : Fns) (C : Cd) (sc : Scope) (a : Expr) (op : CmpOp) (b : Expr) (ρ : Env) (k : Bool → Env → Res) : Res :=
  match op with
  | .In => oK (kdOf C sc b) fun kvs => R.E C sc a ρ fun x ρ1 => oK (asS [x]) fun s => k (kdGet kvs s).isSome ρ1
  | .NotIn => oK (kdOf C sc b) fun kvs => R.E C sc a ρ fun x ρ1 => oK (asS [x]) fun s => k (!(kdGet kvs s).isSome) ρ1
  | op => R.E C sc a ρ fun x ρ1 => holdK a x b (R.E C sc b ρ1 fun y ρ2 => cmpD op x y fun c => k c ρ2)

def nIn : CmpOp → Bool
  | .In => false
  | .NotIn => false
  | _ => true
def stepE (R : Fns) (C : Cd) (sc : Scope) (e : Expr) (ρ : Env) (k : D → Env → Res) : Res :=
  match e with
  | .Name x _ => nameE C sc x ρ k
  | .Constant c _ _ => constE c fun d => k d ρ
  | .Tuple es _ _ => R.A C sc es ρ fun as ρ1 => ckK (decide (as.length ≤ 1000)) (resP as ρ1 fun ds => pusK ds (k (.tup ds) ρ1))
  | .List es _ => R.A C sc es ρ fun as ρ1 => ckK (decide (as.length ≤ 1000)) (resP as ρ1 fun ds => k (.lst ds) ρ1)
  | .BinOp (.Constant (.str x) _ _) .Add b _ => R.P C sc b ρ fun y ρ2 => binD .Add (.str x) y fun z => k z ρ2
  | .BinOp a op b _ => R.E C sc a ρ fun x ρ1 => holdK a x b (R.E C sc b ρ1 fun y ρ2 => binD op x y fun z => k z ρ2)
  | .UnaryOp .USub a _ => R.E C sc a ρ fun x ρ1 => dNeg x fun z => k z ρ1
  | .IfExp t a b _ => R.T C sc t ρ fun c ρ1 => match c with
    | true => R.E C sc a ρ1 fun x ρ2 => puK x (k x ρ2)
    | false => R.E C sc b ρ1 fun x ρ2 => puK x (k x ρ2)
  | .Compare a [op] [b] _ => cmpE R C sc a op b ρ fun c ρ1 => k (.bl c) ρ1
  | .UnaryOp .Not a _ => R.E C sc a ρ fun x ρ1 => dTru x fun c => k (.bl (!c)) ρ1
  | .BoolOp .And [a] _ => R.E C sc a ρ k
  | .BoolOp .Or [a] _ => R.E C sc a ρ k
  | .BoolOp .And (a :: b :: r) p => R.E C sc a ρ fun x ρ1 => match x with
    | .bl true => R.E C sc (.BoolOp .And (b :: r) p) ρ1 k
    | .bl false => k (.bl false) ρ1
    | _ => .stuck
  | .BoolOp .Or (a :: b :: r) p => R.E C sc a ρ fun x ρ1 => match x with
    | .bl true => k (.bl true) ρ1
    | .bl false => R.E C sc (.BoolOp .Or (b :: r) p) ρ1 k
    | _ => .stuck
  | .Subscript b (.Slice lo hi none _) _ => R.E C sc b ρ fun d ρ1 => puK d (optE R C sc lo ρ1 fun l ρ2 => optE R C sc hi ρ2 fun h ρ3 => dSl d l h fun z => k z ρ3)
  | .Subscript _ (.Slice _ _ (some _) _) _ => .stuck
  | .Subscript (.Name x _) i _ => ixN1 R C sc x i ρ k
  | .Subscript b i _ => R.E C sc b ρ fun d ρ1 => holdK b d i (R.E C sc i ρ1 fun y ρ2 => dIx d y fun z => k z ρ2)
  | .Call (.Name f _) args [] _ => ckK (noStar args) (match isFn C sc f with
    | some n => callE R C sc f n args ρ k
    | none => ckK (isBi C sc f) (if f = "isinstance" then isiE R C sc args ρ k
      else ckK (isB1 f) (argE R C sc args ρ fun as ρ1 => biE f as ρ1 k)))
  | .Call (.Attribute o m ap) args [] p => ckK (opG o && (ap.endLine == p.line) && noStar args && !args.isEmpty && decide (args.length < 20)) (methE R C sc o m args ρ k)
  | .ListComp elt [⟨tg, it, ifs, 0⟩] scope _ => lcE R C sc elt tg it ifs scope ρ k
  | _ => .stuck

def stepT (R : Fns) (C : Cd) (sc : Scope) (e : Expr) (ρ : Env) (k : Bool → Env → Res) : Res :=
  match e with
  | .UnaryOp .Not a _ => R.T C sc a ρ fun b ρ1 => k (!b) ρ1
  | .BoolOp .And [a] _ => R.T C sc a ρ k
  | .BoolOp .Or [a] _ => R.T C sc a ρ k
  | .BoolOp .And (a :: b :: r) p => R.T C sc a ρ fun c ρ1 => match c with
    | true => R.T C sc (.BoolOp .And (b :: r) p) ρ1 k
    | false => k false ρ1
  | .BoolOp .Or (a :: b :: r) p => R.T C sc a ρ fun c ρ1 => match c with
    | true => k true ρ1
    | false => R.T C sc (.BoolOp .Or (b :: r) p) ρ1 k
  | .Compare a [op] [b] _ => cmpE R C sc a op b ρ k
  | .Compare a [op, op'] [b, c] _ => ckK (nIn op') <| R.E C sc a ρ fun x ρ1 => puK x (R.E C sc b ρ1 fun y ρ2 => puK y (cmpD op x y fun t => match t with
    | true => R.E C sc c ρ2 fun z ρ3 => cmpD op' y z fun u => k u ρ3
    | false => k false ρ2))
  | .Compare _ _ _ _ => .stuck
  | .IfExp _ _ _ _ => .stuck
  | .BoolOp _ _ _ => .stuck
  | e => R.E C sc e ρ fun d ρ1 => dTru d fun b => k b ρ1

def argRest (R : Fns) (C : Cd) (sc : Scope) (e : Expr) (r : List Expr) (k : List Arg → Env → Res) (d : D) (ρ1 : Env) : Res :=
  if isPath e then (match r with
    | [] => k [.bor d] ρ1
    | _ :: _ => puK d (R.A C sc r ρ1 fun as ρ2 => k (.own d :: as) ρ2))
  else R.A C sc r ρ1 fun as ρ2 => k (.own d :: as) ρ2
def stepA (R : Fns) (C : Cd) (sc : Scope) (es : List Expr) (ρ : Env) (k : List Arg → Env → Res) : Res :=
  match es with
  | [] => k [] ρ
  | .Starred _ _ :: _ => .stuck
  | .Name x p :: r => (match slotOf C sc x with
    | some i => getK ρ i fun _ => R.A C sc r ρ fun as ρ1 => k (.nm i :: as) ρ1
    | none => R.E C sc (.Name x p) ρ fun d ρ1 => puK d (R.A C sc r ρ1 fun as ρ2 => k (.own d :: as) ρ2))
  | e :: r => R.E C sc e ρ fun d ρ1 => argRest R C sc e r k d ρ1

/-- an expression behind a written text: there replace(lit, lit) may stand -/
def stepP (R : Fns) (C : Cd) (sc : Scope) (e : Expr) (ρ : Env) (k : D → Env → Res) : Res :=
  match e with
  | .Call (.Attribute o m ap) [.Constant (.str y) _ _, .Constant (.str z) _ _] [] p =>
    if m = "replace" then ckK (opG o && (ap.endLine == p.line) && !(y == z)) (R.P C sc o ρ fun d ρ1 => oK (asS [d]) fun x => ckK (decide (x.length + (x.length + 1) * z.length ≤ szLine)) (k (.str (Txt.replace x y z)) ρ1))
    else R.E C sc e ρ k
  | e => R.E C sc e ρ k

def tgsE (R : Fns) (C : Cd) (sc : Scope) : List Expr → List D → Env → (Env → Res) → Res
  | [], [], ρ, k => k ρ
  | e :: es, d :: ds, ρ, k => R.G C sc e d ρ fun ρ1 => tgsE R C sc es ds ρ1 k
  | _, _, _, _ => .stuck
/-- a target takes a value -/
def stepG (R : Fns) (C : Cd) (sc : Scope) (tg : Expr) (d : D) (ρ : Env) (k : Env → Res) : Res :=
  match tg with
  | .Name x _ => (match slotOf C sc x with
    | some i => ckK (C.own x && locl sc x) (setK C i d ρ k)
    | none => .stuck)
  | .Tuple es _ _ => ckK (noStar es) (match d with
    | .tup ds => ckK (decide (ds.length = es.length)) (tgsE R C sc es ds ρ k)
    | _ => .stuck)
  | _ => .stuck

def isLc : Expr → Bool
  | .ListComp _ _ _ _ => true
  | .SetComp _ _ _ _ => true
  | .DictComp _ _ _ _ _ => true
  | _ => false
def isSl : Expr → Bool
  | .Slice _ _ _ _ => true
  | _ => false
def asI : D → Option Int
  | .int i => some i
  | _ => none
def isAS : Operator → Bool
  | .Add => true
  | .Sub => true
  | _ => false
/-- d op= y, ints and texts -/
def augD (op : Operator) (d y : D) (k : D → Res) : Res := match op, d, y with
  | .Add, .int a, .int b => k (.int (a + b))
  | .Add, .str a, .str b => ckK (decide (a.length + b.length ≤ szLine)) (k (.str (a ++ b)))
  | .Sub, .int a, .int b => k (.int (a - b))
  | _, _, _ => .stuck
def isTup : Expr → Bool
  | .Tuple _ _ _ => true
  | _ => false
def lcOf : Expr → Option (Expr × Expr × Expr × List Expr × Scope)
  | .ListComp elt [⟨tg, it, ifs, 0⟩] scope _ => some (elt, tg, it, ifs, scope)
  | _ => none
def stepS1 (R : Fns) (C : Cd) (sc : Scope) (st : Stmt) (ρ : Env) (E : Nx) : Res :=
  match st with
  | .Pass _ => E.nx ρ
  | .Break _ => E.bk ρ
  | .Continue _ => E.ct ρ
  | .Expr e _ => ckK (!isLc e) (R.E C sc e ρ fun _ ρ1 => E.nx ρ1)
  | .Return none _ => E.rt .non ρ
  | .Return (some e) _ => (match e with
    | .Name x _ => (match slotOf C sc x with
      | some i => getK ρ i fun d => (match d.pu with
        | true => E.rt d ρ
        | false => ckK (decide (C.np ≤ i)) (E.rt d (ρ.set i none)))
      | none => R.E C sc e ρ fun d ρ1 => puK d (E.rt d ρ1))
    | e => R.E C sc e ρ fun d ρ1 => storK e d (E.rt d ρ1))
  | .Assign [tg] e _ => (match tg with
    | .Name x _ => (match slotOf C sc x with
      | some i => ckK (C.own x && locl sc x) (match isLc e with
        | true => (match lcOf e with
          | some (elt, tg', it, ifs, scope) => lcE R C sc elt tg' it ifs scope ρ fun d ρ1 => setK C i d ρ1 E.nx
          | none => .stuck)
        | false => R.E C sc e ρ fun d ρ1 => storK e d (setK C i d ρ1 E.nx))
      | none => .stuck)
    | .Tuple es n tp => ckK (!isLc e && !isTup e) (R.E C sc e ρ fun d ρ1 => ckK (!isPath e || d.pu) (R.G C sc (.Tuple es n tp) d ρ1 E.nx))
    | .Subscript (.Name x _) i _ => ckK (!isLc e && !isSl i) (match slotOf C sc x with
      | some j => R.E C sc e ρ fun d ρ1 => puK d (getK ρ1 j fun _ => R.E C sc i ρ1 fun y ρ2 => oK (asI y) fun n => getK ρ2 j fun c => (match c with
          | .lst ds => oK (ixN ds.length n) fun m => E.nx (ρ2.set j (some (.lst (ds.set m d))))
          | _ => .stuck))
      | none => .stuck)
    | _ => .stuck)
  | .AugAssign (.Name x _) op e _ => (match slotOf C sc x with
    | some i => ckK (C.own x && locl sc x && isAS op) (getK ρ i fun d => puK d (R.E C sc e ρ fun y ρ1 => augD op d y fun z => setK C i z ρ1 E.nx))
    | none => .stuck)
  | .If c a b _ => R.T C sc c ρ fun t ρ1 => match t with
    | true => R.S C sc a ρ1 E
    | false => R.S C sc b ρ1 E
  | .For tg it body [] _ => ckK (!isSet it) (iterE R C sc it ρ fun ds ρ1 =>
      forC (fun d ρ2 E2 => R.G C sc tg d ρ2 fun ρ3 => R.S C sc body ρ3 E2) ds ρ1 E)
  | .While c body [] _ => whileC (fun ρ1 k => R.T C sc c ρ1 k) (fun ρ1 E2 => R.S C sc body ρ1 E2) C.wf ρ E
  | _ => .stuck
def stepS (R : Fns) (C : Cd) (sc : Scope) (ss : List Stmt) (ρ : Env) (E : Nx) : Res :=
  match ss with
  | [] => E.nx ρ
  | st :: r => stepS1 R C sc st ρ { E with nx := fun ρ1 => R.S C sc r ρ1 E }

def step (R : Fns) : Fns := ⟨stepE R, stepT R, stepA R, stepP R, stepG R, stepS R⟩
def ev : Nat → Fns
  | 0 => dead
  | n + 1 => step (ev n)

/-- a def of the text -/
structure Df where
  N : List Str
  np : Nat
  sc : Scope
  body : List Stmt
def cdOf (glo : Str → Glo) (call : Str → List D → Res) (wf : Nat) (d : Df) : Cd := { N := d.N, np := d.np, glo := glo, call := call, wf := wf, own := fun _ => true, xc := fun c fs _ => .exc c fs }
def nx0 (np : Nat) : Nx := { nx := fun ρ => .ret .non (finOf np ρ), bk := fun _ => .stuck, ct := fun _ => .stuck, rt := fun d' ρ => .ret d' (finOf np ρ) }
def env0 (d : Df) (ds : List D) : Env := ds.map some ++ List.replicate (d.N.length - ds.length) none
def runD (glo : Str → Glo) (call : Str → List D → Res) (wf m : Nat) (d : Df) (ds : List D) : Res :=
  (ev m).S (cdOf glo call wf d) d.sc d.body (env0 d ds) (nx0 d.np)
/-- what the names of the text are -/
structure Tab where
  fns : List (Str × Df)
  exts : List (Str × Nat × (List D → Res))
  cons : List (Str × Glo)
  bis : List Str
def Tab.glo (T : Tab) (x : Str) : Glo := match T.fns.lookup x with
  | some d => .fn d.np
  | none => match T.exts.lookup x with
    | some g => .fn g.1
    | none => match T.cons.lookup x with
      | some (.con d) => .con d
      | some (.kd kvs) => .kd kvs
      | _ => match T.bis.contains x with
        | true => .bi
        | false => .no
def Tab.call (T : Tab) (wf m : Nat) : Nat → Str → List D → Res
  | 0, _, _ => .stuck
  | n + 1, f, ds => match T.fns.lookup f with
    | some d => runD T.glo (T.call wf m n) wf m d ds
    | none => match T.exts.lookup f with
      | some g => g.2 ds
      | none => .stuck
end TI
set_option Elab.async false
set_option linter.all false
set_option maxRecDepth 100000
set_option maxHeartbeats 4000000
/-! the operators by values -/
namespace TI
open PySem PySem.Spec PyProof.Rows L2

theorem ckK_of {G : Res → Prop} (hG : ¬ G .stuck) {b : Bool} {r : Res} (h : G (ckK b r)) : b = true ∧ G r := by
  cases b with
  | true => exact ⟨rfl, h⟩
  | false => exact absurd h hG
theorem puK_of {G : Res → Prop} (hG : ¬ G .stuck) {d : D} {r : Res} (h : G (puK d r)) : d.pu = true ∧ G r := by
  unfold puK at h
  cases e : d.pu with
  | true => rw [e] at h; exact ⟨rfl, h⟩
  | false => rw [e] at h; exact absurd h hG
theorem pusK_of {G : Res → Prop} (hG : ¬ G .stuck) {d : List D} {r : Res} (h : G (pusK d r)) : D.pus d = true ∧ G r := by
  unfold pusK at h
  cases e : D.pus d with
  | true => rw [e] at h; exact ⟨rfl, h⟩
  | false => rw [e] at h; exact absurd h hG
theorem oK_of {α : Type} {G : Res → Prop} (hG : ¬ G .stuck) {o : Option α} {k : α → Res} (h : G (oK o k)) : ∃ a, o = some a ∧ G (k a) := by
  cases o with
  | none => exact absurd h hG
  | some a => exact ⟨a, rfl, h⟩
theorem getK_of {G : Res → Prop} (hG : ¬ G .stuck) {ρ : Env} {i : Nat} {k : D → Res} (h : G (getK ρ i k)) : ∃ d, ρ[i]? = some (some d) ∧ G (k d) := by
  unfold getK at h
  cases e : ρ[i]? with
  | none => rw [e] at h; exact absurd h hG
  | some o =>
    cases o with
    | none => rw [e] at h; exact absurd h hG
    | some d => rw [e] at h; exact ⟨d, rfl, h⟩
theorem pus_append : ∀ {xs ys : List D}, D.pus xs = true → D.pus ys = true → D.pus (xs ++ ys) = true
  | [], ys, _, h => h
  | d :: xs, ys, h1, h2 => by
    rw [D.pus, Bool.and_eq_true] at h1
    rw [List.cons_append, D.pus, h1.1, pus_append h1.2 h2]
    rfl
theorem pus_take : ∀ {xs : List D} (n : Nat), D.pus xs = true → D.pus (xs.take n) = true
  | xs, 0, _ => by rw [List.take_zero]; rfl
  | [], n + 1, h => by rw [List.take_nil]; rfl
  | d :: xs, n + 1, h => by
    rw [D.pus, Bool.and_eq_true] at h
    rw [List.take_succ_cons, D.pus, h.1, pus_take n h.2]
    rfl
theorem pus_drop : ∀ {xs : List D} (n : Nat), D.pus xs = true → D.pus (xs.drop n) = true
  | xs, 0, h => h
  | [], n + 1, h => by rw [List.drop_nil]; rfl
  | d :: xs, n + 1, h => by
    rw [D.pus, Bool.and_eq_true] at h
    exact pus_drop n h.2
theorem pus_get : ∀ {xs : List D} {i : Nat} {d : D}, D.pus xs = true → xs[i]? = some d → d.pu = true
  | [], i, d, _, h => by simp at h
  | x :: xs, 0, d, h, e => by
    rw [D.pus, Bool.and_eq_true] at h
    simp at e; subst e; exact h.1
  | x :: xs, i + 1, d, h, e => by
    rw [D.pus, Bool.and_eq_true] at h
    exact pus_get h.2 (by simpa using e)
theorem szLine_eq : szLine = sizeLine := by rw [sizeLine_eq]; rfl

/-- what an operation on values hands on -/
def VRes (G : Res → Prop) (K : PySem.W.Frag) (k : D → Res) (H : Hp) (Q : VK) : Prop :=
  ∀ d v H' Fv, Keep F0 H H' → Fr F0 H Fv → Rp K H' d v Fv → G (k d) → Q v H'
theorem VRes.here {G : Res → Prop} {K : PySem.W.Frag} {k : D → Res} {H : Hp} {Q : VK} (h : VRes G K k H Q) {d : D} {v : V} (r : Rp K H d v F0) (g : G (k d)) : Q v H :=
  h d v H F0 (Keep.refl _ _) (Fr.refl _ _) r g
theorem VRes.new {G : Res → Prop} {K : PySem.W.Frag} {k : D → Res} {H : Hp} {Q : VK} (h : VRes G K k H Q) {d : D} {p : Addr} {o : HO} (hp : H p = none) (r : Rp K (upd H p o) d (.ref p) (fun a => a = p)) (g : G (k d)) : Q (.ref p) (upd H p o) :=
  h d _ _ (fun a => a = p) (Keep.new hp) (fun a q => .inr (by rw [q]; exact hp)) r g

section
variable {X : Cx} {G : Res → Prop}
theorem keep_new {H : Hp} {p : Addr} {o : HO} (hp : H p = none) : Keep F0 H (upd H p o) := Keep.new hp
theorem Rps.cut {K : PySem.W.Frag} {H : Hp} {ds : List D} {vs : List V} {F : Fp} (lo hi : Option Int) (h : Rps K H ds vs F) : Rps K H (cutL ds lo hi) (cutV vs lo hi) F := by
  unfold cutL cutV
  rw [Rps.length ds vs F h]
  exact Rps.take _ _ _ _ (Rps.drop _ _ _ _ h)
theorem Rp.lst_new {K : PySem.W.Frag} {H : Hp} {ds : List D} {vs : List V} {p : Addr} (hp : H p = none) (pu : D.pus ds = true) {F : Fp} (h : Rps K H ds vs F) : Rp K (upd H p (.lst vs)) (.lst ds) (.ref p) (fun a => a = p) := by
  have h0 := Rps.stay (B := F0) (keep_new (o := .lst vs) hp) ds vs F0 (fun _ q => q.elim) (Rps.pure _ _ _ pu h)
  exact ⟨p, vs, rfl, upd_same, rfl, Rps.mono _ _ _ _ (fun _ q => q.elim) h0⟩
theorem Rp.tup_new {K : PySem.W.Frag} {H : Hp} {ds : List D} {vs : List V} {p : Addr} (hp : H p = none) (pu : D.pus ds = true) {F : Fp} (h : Rps K H ds vs F) : Rp K (upd H p (.tup vs)) (.tup ds) (.ref p) (fun a => a = p) := by
  have h0 := Rps.stay (B := F0) (keep_new (o := .tup vs) hp) ds vs F0 (fun _ q => q.elim) (Rps.pure _ _ _ pu h)
  exact ⟨p, vs, rfl, SqT.of upd_same, pu, Rps.mono _ _ _ _ (fun _ q => q.elim) h0⟩

def rBinD (G : Res → Prop) (K : PySem.W.Frag) (op : Operator) : R2 := fun x y H Q => ∃ dx dy Fx Fy k, Rp K H dx x Fx ∧ Rp K H dy y Fy ∧ G (binD op dx dy k) ∧ VRes G K k H Q
theorem mulOk_c {i j : Int} (h : mulOk i j = true) : CMul i j ∨ CMulW i j := by
  unfold mulOk at h
  rw [Bool.or_eq_true, Bool.or_eq_true] at h
  rcases h with (h | h) | h
  · have := of_decide_eq_true h
    exact .inl (.inl ⟨by omega, by omega⟩)
  · have := of_decide_eq_true h
    exact .inl (.inr ⟨by omega, by omega⟩)
  · exact .inr (show _ < _ from of_decide_eq_true h)
theorem divOk_c {j : Int} (h : divOk j = true) : CDivN 0 j ∨ CDivW 0 j := by
  unfold divOk at h
  rw [Bool.or_eq_true, Bool.and_eq_true, Bool.and_eq_true] at h
  rcases h with ⟨a, b⟩ | ⟨a, b⟩
  · exact .inl ⟨of_decide_eq_true a, of_decide_eq_true b⟩
  · exact .inr ⟨of_decide_eq_true a, of_decide_eq_true b⟩
theorem op_binD (hG : ¬ G .stuck) (op : Operator) : OpR X (binaryOp op) (rBinD G X.K op) := by
  intro pins s σ H x y v u Q I rx ry h
  obtain ⟨dx, dy, Fx, Fy, k, hx, hy, g, q⟩ := h
  cases op with
  | Add =>
    cases dx with
    | int i =>
      cases dy with
      | int j =>
        cases (show x = .int i from hx); cases (show y = .int j from hy)
        exact op_add pins s σ H _ _ v u Q I rx ry ⟨i, j, rfl, rfl, q.here (d := .int (i + j)) rfl g⟩
      | _ => exact absurd g hG
    | str a =>
      cases dy with
      | str b =>
        cases (show x = .str a from hx); cases (show y = .str b from hy)
        obtain ⟨hb, g⟩ := ckK_of hG g
        exact op_add_str pins s σ H _ _ v u Q I rx ry ⟨a, b, rfl, rfl, by rw [← szLine_eq]; exact of_decide_eq_true hb, q.here (d := .str (a ++ b)) rfl g⟩
      | _ => exact absurd g hG
    | tup xs =>
      cases dy with
      | tup ys =>
        obtain ⟨p, vs, rfl, hp, pu1, rv⟩ := hx
        obtain ⟨p2, vs2, rfl, hp2, pu2, rv2⟩ := hy
        obtain ⟨hb, g⟩ := ckK_of hG g
        have hl : vs.length + vs2.length ≤ sizeLine := by rw [Rps.length _ _ _ rv, Rps.length _ _ _ rv2, ← szLine_eq]; exact of_decide_eq_true hb
        have r12 : Rps X.K H (xs ++ ys) (vs ++ vs2) F0 := Rps.mono _ _ _ _ (fun a z => z.elim id id) (Rps.append _ _ _ _ _ _ (Rps.pure _ _ _ pu1 rv) (Rps.pure _ _ _ pu2 rv2) fun _ z => z.elim)
        have pu12 : D.pus (xs ++ ys) = true := pus_append pu1 pu2
        refine op_catA pins s σ H _ _ v u Q I rx ry ⟨p, p2, vs, vs2, rfl, rfl, hp, hp2, hl, ?_⟩
        refine ⟨fun e => ?_, fun e1 e2 => ?_, fun e1 e2 z hz => ?_⟩
        · have ex : xs = [] := by
            have := Rps.length _ _ _ rv
            rw [e] at this
            exact List.length_eq_zero_iff.mp this.symm
          subst ex
          exact q.here (d := .tup ([] ++ ys)) ⟨p2, vs2, rfl, hp2, pu2, Rps.pure _ _ _ pu2 rv2⟩ g
        · have ey : ys = [] := by
            have := Rps.length _ _ _ rv2
            rw [e2] at this
            exact List.length_eq_zero_iff.mp this.symm
          subst ey
          exact q.here (d := .tup (xs ++ [])) ⟨p, vs, rfl, hp, by rw [List.append_nil]; exact pu1, by rw [List.append_nil]; exact Rps.pure _ _ _ pu1 rv⟩ g
        · exact q.new (d := .tup (xs ++ ys)) hz (Rp.tup_new hz pu12 r12) g
      | _ => exact absurd g hG
    | lst xs =>
      cases dy with
      | lst ys =>
        obtain ⟨p, vs, rfl, hp, _, rv⟩ := hx
        obtain ⟨p2, vs2, rfl, hp2, _, rv2⟩ := hy
        obtain ⟨hb, g⟩ := ckK_of hG g
        obtain ⟨pu1, g⟩ := pusK_of hG g
        obtain ⟨pu2, g⟩ := pusK_of hG g
        have hl : vs.length + vs2.length ≤ sizeLine := by rw [Rps.length _ _ _ rv, Rps.length _ _ _ rv2, ← szLine_eq]; exact of_decide_eq_true hb
        have r12 : Rps X.K H (xs ++ ys) (vs ++ vs2) F0 := Rps.mono _ _ _ _ (fun a z => z.elim id id) (Rps.append _ _ _ _ _ _ (Rps.pure _ _ _ pu1 rv) (Rps.pure _ _ _ pu2 rv2) fun _ z => z.elim)
        have pu12 : D.pus (xs ++ ys) = true := pus_append pu1 pu2
        exact op_cat pins s σ H _ _ v u Q I rx ry ⟨p, p2, vs, vs2, rfl, rfl, hp, hp2, hl, fun z hz => q.new (d := .lst (xs ++ ys)) hz (Rp.lst_new hz pu12 r12) g⟩
      | _ => exact absurd g hG
    | _ => cases dy <;> exact absurd g hG
  | Sub =>
    cases dx with
    | int i =>
      cases dy with
      | int j =>
        cases (show x = .int i from hx); cases (show y = .int j from hy)
        exact op_sub pins s σ H _ _ v u Q I rx ry ⟨i, j, rfl, rfl, q.here (d := .int (i - j)) rfl g⟩
      | _ => exact absurd g hG
    | _ => cases dy <;> exact absurd g hG
  | Mult =>
    cases dx with
    | int i =>
      cases dy with
      | int j =>
        cases (show x = .int i from hx); cases (show y = .int j from hy)
        obtain ⟨hb, g⟩ := ckK_of hG g
        rcases mulOk_c hb with hc | hc
        · exact op_mul pins s σ H _ _ v u Q I rx ry ⟨i, j, rfl, rfl, hc, q.here (d := .int (i * j)) rfl g⟩
        · exact op_mulW pins s σ H _ _ v u Q I rx ry ⟨i, j, rfl, rfl, hc, q.here (d := .int (i * j)) rfl g⟩
      | _ => exact absurd g hG
    | _ => cases dy <;> exact absurd g hG
  | FloorDiv =>
    cases dx with
    | int i =>
      cases dy with
      | int j =>
        cases (show x = .int i from hx); cases (show y = .int j from hy)
        obtain ⟨hb, g⟩ := ckK_of hG g
        rcases divOk_c hb with hc | hc
        · exact op_fdivN pins s σ H _ _ v u Q I rx ry ⟨i, j, rfl, rfl, hc, q.here (d := .int (i.fdiv j)) rfl g⟩
        · have e : i.fdiv j = i / j := Int.fdiv_eq_ediv_of_nonneg _ (by have := hc.1; omega)
          rw [e] at g
          exact op_fdivW pins s σ H _ _ v u Q I rx ry ⟨i, j, rfl, rfl, hc, q.here (d := .int (i / j)) rfl g⟩
      | _ => exact absurd g hG
    | _ => cases dy <;> exact absurd g hG
  | Mod =>
    cases dx with
    | int i =>
      cases dy with
      | int j =>
        cases (show x = .int i from hx); cases (show y = .int j from hy)
        obtain ⟨hb, g⟩ := ckK_of hG g
        exact op_modN pins s σ H _ _ v u Q I rx ry ⟨i, j, rfl, rfl, of_decide_eq_true hb, q.here (d := .int (i.fmod j)) rfl g⟩
      | _ => exact absurd g hG
    | _ => cases dy <;> exact absurd g hG
  | Pow =>
    cases dx with
    | int i =>
      cases dy with
      | int j =>
        cases (show x = .int i from hx); cases (show y = .int j from hy)
        obtain ⟨hb, g⟩ := ckK_of hG g
        rw [Bool.and_eq_true, Bool.and_eq_true] at hb
        exact op_pow pins s σ H _ _ v u Q I rx ry ⟨i, j, rfl, rfl, ⟨of_decide_eq_true hb.1.1, of_decide_eq_true hb.1.2, of_decide_eq_true hb.2⟩, q.here (d := .int (i ^ j.toNat)) rfl g⟩
      | _ => exact absurd g hG
    | _ => cases dy <;> exact absurd g hG
  | _ => exact absurd g hG

/-! ### comparisons -/
def rCmpD (G : Res → Prop) (K : PySem.W.Frag) (op : CmpOp) : R2 := fun x y H Q => ∃ dx dy Fx Fy k, Rp K H dx x Fx ∧ Rp K H dy y Fy ∧ G (cmpD op dx dy k) ∧ ∀ b, G (k b) → Q (.bl b) H
theorem op_isBlAny (neg : Bool) : OpR X (compareOp (if neg then .IsNot else .Is)) (fun x y H Q => ∃ b, y = .bl b ∧ Q (.bl (if neg then !decide (x = .bl b) else decide (x = .bl b))) H) := by
  intro pins s σ H x y v u Q I rx ry h
  obtain ⟨b, rfl, q⟩ := h
  cases (show u = Value.bool b from ry)
  cases neg with
  | false =>
    cases x with
    | bl c => exact op_isBl pins s σ H (.bl c) (.bl b) v (.bool b) Q I rx rfl ⟨c, b, rfl, rfl, by simpa using q⟩
    | non => cases (show v = Value.none from rx); exact wpAny_pure ⟨.bl false, H, I, rfl, by simpa using q⟩
    | int i => obtain ⟨t, rfl⟩ := rx; exact wpAny_pure ⟨.bl false, H, I, rfl, by simpa using q⟩
    | str i => obtain ⟨t, rfl⟩ := rx; exact wpAny_pure ⟨.bl false, H, I, rfl, by simpa using q⟩
    | byt i => obtain ⟨t, rfl⟩ := rx; exact wpAny_pure ⟨.bl false, H, I, rfl, by simpa using q⟩
    | flt i => obtain ⟨t, rfl⟩ := rx; exact wpAny_pure ⟨.bl false, H, I, rfl, by simpa using q⟩
    | ref a => cases (show v = Value.ref a from rx); exact wpAny_pure ⟨.bl false, H, I, rfl, by simpa using q⟩
    | ty n => cases (show v = Value.type n from rx); exact wpAny_pure ⟨.bl false, H, I, rfl, by simpa using q⟩
  | true =>
    cases x with
    | bl c => exact op_notBl pins s σ H (.bl c) (.bl b) v (.bool b) Q I rx rfl ⟨c, b, rfl, rfl, by simpa using q⟩
    | non => cases (show v = Value.none from rx); exact wpAny_pure ⟨.bl true, H, I, rfl, by simpa using q⟩
    | int i => obtain ⟨t, rfl⟩ := rx; exact wpAny_pure ⟨.bl true, H, I, rfl, by simpa using q⟩
    | str i => obtain ⟨t, rfl⟩ := rx; exact wpAny_pure ⟨.bl true, H, I, rfl, by simpa using q⟩
    | byt i => obtain ⟨t, rfl⟩ := rx; exact wpAny_pure ⟨.bl true, H, I, rfl, by simpa using q⟩
    | flt i => obtain ⟨t, rfl⟩ := rx; exact wpAny_pure ⟨.bl true, H, I, rfl, by simpa using q⟩
    | ref a => cases (show v = Value.ref a from rx); exact wpAny_pure ⟨.bl true, H, I, rfl, by simpa using q⟩
    | ty n => cases (show v = Value.type n from rx); exact wpAny_pure ⟨.bl true, H, I, rfl, by simpa using q⟩

theorem rp_non {K : PySem.W.Frag} {H : Hp} {v : V} {F : Fp} (h : Rp K H .non v F) : v = .non := h
theorem op_cmpD (hG : ¬ G .stuck) (op : CmpOp) : OpR X (compareOp op) (rCmpD G X.K op) := by
  intro pins s σ H x y v u Q I rx ry h
  obtain ⟨dx, dy, Fx, Fy, k, hx, hy, g, q⟩ := h
  have eqc : ∀ {b : Bool}, scal x y = true → decide (x = y) = b → Q (.bl b) H → wpAny (model X.prog X.w) X.A (compareOp .Eq v u) (EP X pins σ Q) X.xe s := fun hs e z =>
    op_eq pins s σ H x y v u Q I rx ry ⟨hs, by rw [e]; exact z⟩
  have nec : ∀ {b : Bool}, scal x y = true → decide (x = y) = b → Q (.bl (!b)) H → wpAny (model X.prog X.w) X.A (compareOp .NotEq v u) (EP X pins σ Q) X.xe s := fun hs e z =>
    op_ne pins s σ H x y v u Q I rx ry ⟨hs, by rw [e]; exact z⟩
  have two : ∀ {f : Bool → Bool} {c : CmpOp} {Z : Prop}, (∀ {b : Bool}, scal x y = true → decide (x = y) = b → Q (.bl (f b)) H → Z) → G (dEq dx dy fun b => k (f b)) → Z := by
    intro f c Z eqc g
    cases dx with
    | non =>
      cases (show x = .non from hx)
      cases dy with
      | non => cases (show y = .non from hy); exact eqc rfl (b := true) (by simp) (q _ g)
      | int j => cases (show y = .int j from hy); exact eqc rfl (b := false) (by simp) (q _ g)
      | str j => cases (show y = .str j from hy); exact eqc rfl (b := false) (by simp) (q _ g)
      | _ => exact absurd g hG
    | bl a =>
      cases (show x = .bl a from hx)
      cases dy with
      | bl j => cases (show y = .bl j from hy); exact eqc rfl (b := decide (a = j)) (by simp) (q _ g)
      | _ => exact absurd g hG
    | int i =>
      cases (show x = .int i from hx)
      cases dy with
      | non => cases (show y = .non from hy); exact eqc rfl (b := false) (by simp) (q _ g)
      | int j => cases (show y = .int j from hy); exact eqc rfl (b := decide (i = j)) (by simp) (q _ g)
      | str j => cases (show y = .str j from hy); exact eqc rfl (b := false) (by simp) (q _ g)
      | _ => exact absurd g hG
    | str i =>
      cases (show x = .str i from hx)
      cases dy with
      | non => cases (show y = .non from hy); exact eqc rfl (b := false) (by simp) (q _ g)
      | int j => cases (show y = .int j from hy); exact eqc rfl (b := false) (by simp) (q _ g)
      | str j => cases (show y = .str j from hy); exact eqc rfl (b := decide (i = j)) (by simp) (q _ g)
      | _ => exact absurd g hG
    | _ => cases dy <;> exact absurd g hG
  have isc : ∀ {neg : Bool}, G (dIs dx dy fun b => k (if neg then !b else b)) → wpAny (model X.prog X.w) X.A (compareOp (if neg then .IsNot else .Is) v u) (EP X pins σ Q) X.xe s := by
    intro neg g
    cases dy with
    | non =>
      cases (show y = .non from hy)
      have e : isN dx = decide (x = .non) := by
        cases dx <;> first
          | (cases (show x = _ from hx); simp [isN, isB])
          | (obtain ⟨p, vs, rfl, _⟩ := hx; simp [isN, isB])
      have g := q _ g
      rw [e] at g
      cases neg with
      | false => exact op_isN pins s σ H x .non v u Q I rx ry ⟨rfl, g⟩
      | true => exact op_notN pins s σ H x .non v u Q I rx ry ⟨rfl, g⟩
    | bl b =>
      cases (show y = .bl b from hy)
      have e : isB b dx = decide (x = .bl b) := by
        cases dx <;> first
          | (cases (show x = _ from hx); simp [isN, isB])
          | (obtain ⟨p, vs, rfl, _⟩ := hx; simp [isN, isB])
      have g := q _ g
      rw [e] at g
      exact op_isBlAny neg pins s σ H x (.bl b) v u Q I rx ry ⟨b, rfl, g⟩
    | _ => exact absurd g hG
  cases op with
  | Eq => exact two (f := id) (c := .Eq) (fun a b c => eqc a b c) g
  | NotEq => exact two (f := fun b => !b) (c := .Eq) (fun a b c => nec a b c) g
  | Lt =>
    cases dx with
    | int i =>
      cases dy with
      | int j =>
        cases (show x = .int i from hx); cases (show y = .int j from hy)
        exact op_lt pins s σ H _ _ v u Q I rx ry ⟨i, j, rfl, rfl, q _ g⟩
      | _ => exact absurd g hG
    | str a =>
      cases dy with
      | str b =>
        cases (show x = .str a from hx); cases (show y = .str b from hy)
        exact op_lt_str pins s σ H _ _ v u Q I rx ry ⟨a, b, rfl, rfl, q _ g⟩
      | _ => exact absurd g hG
    | _ => cases dy <;> exact absurd g hG
  | LtE =>
    cases dx with
    | int i =>
      cases dy with
      | int j =>
        cases (show x = .int i from hx); cases (show y = .int j from hy)
        exact op_le pins s σ H _ _ v u Q I rx ry ⟨i, j, rfl, rfl, q _ g⟩
      | _ => exact absurd g hG
    | _ => cases dy <;> exact absurd g hG
  | Gt =>
    cases dy with
    | int j =>
      cases dx with
      | int i =>
        cases (show x = .int i from hx); cases (show y = .int j from hy)
        exact op_gt pins s σ H _ _ v u Q I rx ry ⟨i, j, rfl, rfl, q _ g⟩
      | _ => exact absurd g hG
    | str b =>
      cases dx with
      | str a =>
        cases (show x = .str a from hx); cases (show y = .str b from hy)
        exact op_gt_str pins s σ H _ _ v u Q I rx ry ⟨a, b, rfl, rfl, q _ g⟩
      | _ => exact absurd g hG
    | _ => cases dx <;> exact absurd g hG
  | GtE =>
    cases dy with
    | int j =>
      cases dx with
      | int i =>
        cases (show x = .int i from hx); cases (show y = .int j from hy)
        exact op_ge pins s σ H _ _ v u Q I rx ry ⟨i, j, rfl, rfl, q _ g⟩
      | _ => exact absurd g hG
    | _ => cases dx <;> exact absurd g hG
  | Is => exact isc (neg := false) g
  | IsNot => exact isc (neg := true) g
  | In => exact absurd g hG
  | NotIn => exact absurd g hG

/-! ### subscripts, slices, truth, negation -/
theorem Rps.at {K : PySem.W.Frag} {H : Hp} {ds : List D} {vs : List V} {F : Fp} {i : Int} {d : D} (h : Rps K H ds vs F) (e : atI ds i = some d) : ∃ v, atI vs i = some v ∧ Rp K H d v F := by
  unfold atI at e ⊢
  rw [Rps.length ds vs F h]
  cases q : ixN ds.length i with
  | none => rw [q] at e; cases e
  | some j =>
    rw [q] at e
    exact Rps.get ds vs F j d h e
/-- x[i]: the item may be written through x (F: what x stands in) -/
def rIxD (G : Res → Prop) (K : PySem.W.Frag) : R2 := fun x y H Q => ∃ d di F Fy k, Rp K H d x F ∧ Rp K H di y Fy ∧ G (dIx d di k) ∧ ∀ r v, Rp K H r v F → G (k r) → Q v H
theorem atK_of {G : Res → Prop} (hG : ¬ G .stuck) {ds : List D} {i : Int} {k : D → Res} (h : G (atK ds i k)) : ∃ d, atI ds i = some d ∧ G (k d) := by
  unfold atK at h
  cases e : atI ds i with
  | none => rw [e] at h; exact absurd h hG
  | some d => rw [e] at h; exact ⟨d, rfl, h⟩
theorem ix_D (hG : ¬ G .stuck) : IxR X (rIxD G X.K) := by
  intro b0 b1 pins s σ H x y v u Q I rx ry h hp
  obtain ⟨d, di, F, Fy, k, hx, hy, g, q⟩ := h
  cases d with
  | tup ds =>
    cases di with
    | int j =>
      cases (show y = .int j from hy)
      obtain ⟨p, vs, rfl, hs, _, rv⟩ := hx
      obtain ⟨e, he, g⟩ := atK_of hG g
      obtain ⟨w, hw, rw'⟩ := rv.at he
      exact ix_tup b0 b1 pins s σ H _ _ v u Q I rx ry ⟨p, vs, j, w, rfl, rfl, hs, hw, q e w rw' g⟩ hp
    | _ => exact absurd g hG
  | rol ds =>
    cases di with
    | int j =>
      cases (show y = .int j from hy)
      obtain ⟨p, vs, rfl, hs, _, rv⟩ := hx
      obtain ⟨e, he, g⟩ := atK_of hG g
      obtain ⟨w, hw, rw'⟩ := rv.at he
      exact ix_list b0 b1 pins s σ H _ _ v u Q I rx ry ⟨p, vs, j, w, rfl, rfl, hs.sq, hw, q e w rw' g⟩ hp
    | _ => exact absurd g hG
  | lst ds =>
    cases di with
    | int j =>
      cases (show y = .int j from hy)
      obtain ⟨p, vs, rfl, hs, _, rv⟩ := hx
      obtain ⟨e, he, g⟩ := atK_of hG g
      obtain ⟨w, hw, rw'⟩ := rv.at he
      exact ix_list b0 b1 pins s σ H _ _ v u Q I rx ry ⟨p, vs, j, w, rfl, rfl, SqL.of hs, hw, q e w (Rp.mono _ _ _ _ (fun _ z => z.1) rw') g⟩ hp
    | _ => exact absurd g hG
  | lck ds =>
    cases di with
    | int j =>
      cases (show y = .int j from hy)
      obtain ⟨p, vs, rfl, hs, _, rv⟩ := hx
      obtain ⟨e, he, g⟩ := atK_of hG g
      obtain ⟨w, hw, rw'⟩ := rv.at he
      exact ix_list b0 b1 pins s σ H _ _ v u Q I rx ry ⟨p, vs, j, w, rfl, rfl, SqL.of hs, hw, q e w (Rp.mono _ _ _ _ (fun _ z => z.1) rw') g⟩ hp
    | _ => exact absurd g hG
  | str z =>
    cases di with
    | int j =>
      cases (show y = .int j from hy)
      cases (show x = .str z from hx)
      obtain ⟨hb, g⟩ := ckK_of hG g
      cases e : atI z.cps.toList j with
      | none => rw [e] at g; exact absurd g hG
      | some c =>
        rw [e] at g
        exact ix_str b0 b1 pins s σ H _ _ v u Q I rx ry ⟨z, j, c, rfl, rfl, by rw [← szLine_eq]; exact of_decide_eq_true hb, e, q (.str ⟨#[c]⟩) _ rfl g⟩ hp
    | _ => exact absurd g hG
  | _ => cases di <;> exact absurd g hG

def rSlD (G : Res → Prop) (K : PySem.W.Frag) : V → Option Int → Option Int → Hp → VK → Prop := fun x lo hi H Q => ∃ d F k, Rp K H d x F ∧ G (dSl d lo hi k) ∧ VRes G K k H Q
theorem sl_D (hG : ¬ G .stuck) : SlR X (rSlD G X.K) := by
  intro pins s σ H x v vl vu lo hi sl Q I rx hs pl pu h
  obtain ⟨d, F, k, hx, g, q⟩ := h
  cases d with
  | tup ds =>
    obtain ⟨p, vs, rfl, hq, pu0, rv⟩ := hx
    have pu1 : D.pus (cutL ds lo hi) = true := pus_take _ (pus_drop _ pu0)
    have rv0 := Rps.pure _ _ _ pu0 rv
    refine sl_tupA pins s σ H _ v vl vu lo hi sl Q I rx hs pl pu ⟨p, vs, rfl, hq, ?_⟩
    refine ⟨fun e => ?_, fun e z hz => ?_⟩
    · refine q.here (d := .tup (cutL ds lo hi)) ⟨p, vs, rfl, hq, pu1, ?_⟩ g
      have r1 := rv0.cut lo hi
      have e2 : cutV vs lo hi = vs := by
        unfold cutV
        rw [e.1, e.2]
        simp
      rw [e2] at r1
      exact r1
    · exact q.new (d := .tup (cutL ds lo hi)) hz (Rp.tup_new hz pu1 (rv0.cut lo hi)) g
  | rol ds =>
    obtain ⟨p, vs, rfl, hq, pu0, rv⟩ := hx
    have pu1 : D.pus (cutL ds lo hi) = true := pus_take _ (pus_drop _ pu0)
    exact sl_list pins s σ H _ v vl vu lo hi sl Q I rx hs pl pu ⟨p, vs, rfl, hq.sq, fun z hz => q.new (d := .lst (cutL ds lo hi)) hz (Rp.lst_new hz pu1 ((Rps.pure _ _ _ pu0 rv).cut lo hi)) g⟩
  | lst ds =>
    obtain ⟨p, vs, rfl, hq, _, rv⟩ := hx
    obtain ⟨pu0, g⟩ := pusK_of hG g
    have pu1 : D.pus (cutL ds lo hi) = true := pus_take _ (pus_drop _ pu0)
    exact sl_list pins s σ H _ v vl vu lo hi sl Q I rx hs pl pu ⟨p, vs, rfl, SqL.of hq, fun z hz => q.new (d := .lst (cutL ds lo hi)) hz (Rp.lst_new hz pu1 ((Rps.pure _ _ _ pu0 rv).cut lo hi)) g⟩
  | lck ds =>
    obtain ⟨p, vs, rfl, hq, _, rv⟩ := hx
    obtain ⟨pu0, g⟩ := pusK_of hG g
    have pu1 : D.pus (cutL ds lo hi) = true := pus_take _ (pus_drop _ pu0)
    exact sl_list pins s σ H _ v vl vu lo hi sl Q I rx hs pl pu ⟨p, vs, rfl, SqL.of hq, fun z hz => q.new (d := .lst (cutL ds lo hi)) hz (Rp.lst_new hz pu1 ((Rps.pure _ _ _ pu0 rv).cut lo hi)) g⟩
  | str z =>
    cases (show x = .str z from hx)
    obtain ⟨hb, g⟩ := ckK_of hG g
    exact sl_str pins s σ H _ v vl vu lo hi sl Q I rx hs pl pu ⟨z, rfl, by rw [← szLine_eq]; exact of_decide_eq_true hb, q.here (d := .str (cutS z lo hi)) rfl g⟩
  | _ => exact absurd g hG

/-- a value's truth -/
theorem tru_D (hG : ¬ G .stuck) {H : Hp} {d : D} {x : V} {F : Fp} {k : Bool → Res} (hx : Rp X.K H d x F) (g : G (dTru d k)) : ∃ b, TruV X.K x H b ∧ G (k b) := by
  cases d with
  | non => cases (show x = .non from hx); exact ⟨false, rfl, g⟩
  | bl b => cases (show x = .bl b from hx); exact ⟨b, rfl, g⟩
  | int i => cases (show x = .int i from hx); exact ⟨_, (show decide (i ≠ 0) = (i != 0) by by_cases e : i = 0 <;> simp [e]), g⟩
  | str z =>
    cases (show x = .str z from hx)
    obtain ⟨hb, g⟩ := ckK_of hG g
    refine ⟨_, ⟨by rw [← szLine_eq]; exact of_decide_eq_true hb, ?_⟩, g⟩
    by_cases e : z.length = 0
    · simp [e]
    · have e2 : ¬ ((z.length : Int) = 0) := by omega
      simp [e]
  | tup ds =>
    obtain ⟨p, vs, rfl, hs, _, rv⟩ := hx
    refine ⟨_, .inr (.inl ⟨vs, hs, ?_⟩), g⟩
    have := Rps.length _ _ _ rv
    cases ds <;> cases vs <;> simp_all
  | rol ds =>
    obtain ⟨p, vs, rfl, hs, _, rv⟩ := hx
    refine ⟨_, .inl ⟨vs, hs.sq, ?_⟩, g⟩
    have := Rps.length _ _ _ rv
    cases ds <;> cases vs <;> simp_all
  | lst ds =>
    obtain ⟨p, vs, rfl, hs, _, rv⟩ := hx
    refine ⟨_, .inl ⟨vs, SqL.of hs, ?_⟩, g⟩
    have := Rps.length _ _ _ rv
    cases ds <;> cases vs <;> simp_all
  | lck ds =>
    obtain ⟨p, vs, rfl, hs, _, rv⟩ := hx
    refine ⟨_, .inl ⟨vs, SqL.of hs, ?_⟩, g⟩
    have := Rps.length _ _ _ rv
    cases ds <;> cases vs <;> simp_all
  | ty n => exact absurd g hG
def rNegD (G : Res → Prop) (K : PySem.W.Frag) : V → Hp → VK → Prop := fun x H Q => ∃ d F k, Rp K H d x F ∧ G (dNeg d k) ∧ VRes G K k H Q
theorem un_negD (hG : ¬ G .stuck) : UnR X (unaryOp .USub) (rNegD G X.K) := by
  intro pins s σ H x v Q I rx h
  obtain ⟨d, F, k, hx, g, q⟩ := h
  cases d with
  | int i =>
    cases (show x = .int i from hx)
    exact un_neg pins s σ H _ v Q I rx ⟨i, rfl, q.here (d := .int (-i)) rfl g⟩
  | _ => exact absurd g hG
end
end TI
set_option Elab.async false
set_option linter.all false
set_option maxRecDepth 100000
set_option maxHeartbeats 4000000
/-! built-ins and methods by values -/
namespace TI
open PySem PySem.Spec PyProof.Rows L2
section
variable {X : Cx} {G : Res → Prop}
def rB1 (G : Res → Prop) (K : PySem.W.Frag) (f : D → (D → Res) → Res) : List V → Hp → VK → Prop := fun xs H Q => ∃ d x F k, xs = [x] ∧ Rp K H d x F ∧ G (f d k) ∧ VRes G K k H Q
theorem c_len (hG : ¬ G .stuck) : CallR X (.builtin "len") (rB1 G X.K dLen) := by
  intro pins s σ H xs us Q I r h
  obtain ⟨d, x, F, k, rfl, hx, g, q⟩ := h
  cases d with
  | str z =>
    cases (show x = .str z from hx)
    obtain ⟨hb, g⟩ := ckK_of hG g
    exact call_len pins s σ H _ us Q I r ⟨_, z.length, rfl, ⟨by rw [← szLine_eq]; exact of_decide_eq_true hb, rfl⟩, q.here (d := .int z.length) rfl g⟩
  | tup ds =>
    obtain ⟨p, vs, rfl, hs, _, rv⟩ := hx
    exact call_len pins s σ H _ us Q I r ⟨_, ds.length, rfl, .inr ⟨vs, hs, (Rps.length _ _ _ rv).symm⟩, q.here (d := .int ds.length) rfl g⟩
  | rol ds =>
    obtain ⟨p, vs, rfl, hs, _, rv⟩ := hx
    exact call_len pins s σ H _ us Q I r ⟨_, ds.length, rfl, .inl ⟨vs, hs.sq, (Rps.length _ _ _ rv).symm⟩, q.here (d := .int ds.length) rfl g⟩
  | lst ds =>
    obtain ⟨p, vs, rfl, hs, _, rv⟩ := hx
    exact call_len pins s σ H _ us Q I r ⟨_, ds.length, rfl, .inl ⟨vs, SqL.of hs, (Rps.length _ _ _ rv).symm⟩, q.here (d := .int ds.length) rfl g⟩
  | lck ds =>
    obtain ⟨p, vs, rfl, hs, _, rv⟩ := hx
    exact call_len pins s σ H _ us Q I r ⟨_, ds.length, rfl, .inl ⟨vs, SqL.of hs, (Rps.length _ _ _ rv).symm⟩, q.here (d := .int ds.length) rfl g⟩
  | _ => exact absurd g hG
theorem c_int (hG : ¬ G .stuck) : CallR X (.type "int") (rB1 G X.K dInt) := by
  intro pins s σ H xs us Q I r h
  obtain ⟨d, x, F, k, rfl, hx, g, q⟩ := h
  cases d with
  | int i =>
    cases (show x = .int i from hx)
    exact call_int1 pins s σ H _ us Q I r (.inl ⟨i, rfl, q.here (d := .int i) rfl g⟩)
  | bl b =>
    cases (show x = .bl b from hx)
    exact call_int1 pins s σ H _ us Q I r (.inr ⟨b, rfl, q.here (d := .int (if b then 1 else 0)) rfl g⟩)
  | str z =>
    cases (show x = .str z from hx)
    obtain ⟨hb, g⟩ := ckK_of hG g
    cases e : intText? z with
    | none => rw [e] at g; exact absurd g hG
    | some n =>
      rw [e] at g
      exact call_int_str pins s σ H _ us Q I r ⟨z, n, rfl, e, of_decide_eq_true hb, q.here (d := .int n) rfl g⟩
  | _ => exact absurd g hG
theorem c_str (hG : ¬ G .stuck) : CallR X (.type "str") (rB1 G X.K dStr) := by
  intro pins s σ H xs us Q I r h
  obtain ⟨d, x, F, k, rfl, hx, g, q⟩ := h
  cases d with
  | int i =>
    cases (show x = .int i from hx)
    obtain ⟨hb, g⟩ := ckK_of hG g
    exact call_str_int pins s σ H _ us Q I r ⟨i, rfl, of_decide_eq_true hb, q.here (d := .str (Str.ofString (toString i))) rfl g⟩
  | _ => exact absurd g hG
theorem c_tuple (hG : ¬ G .stuck) : CallR X (.type "tuple") (rB1 G X.K dTup) := by
  intro pins s σ H xs us Q I r h
  obtain ⟨d, x, F, k, rfl, hx, g, q⟩ := h
  cases d with
  | tup ds =>
    obtain ⟨p, vs, rfl, hs, pu, rv⟩ := hx
    exact call_tuple_of pins s σ H _ us Q I r ⟨p, vs, rfl, .inr ⟨hs, q.here (d := .tup ds) ⟨p, vs, rfl, hs, pu, Rps.pure _ _ _ pu rv⟩ g⟩⟩
  | rol ds =>
    obtain ⟨p, vs, rfl, hs, pu, rv⟩ := hx
    exact call_tuple_of pins s σ H _ us Q I r ⟨p, vs, rfl, .inl ⟨hs.sq, fun z hz => q.new (d := .tup ds) hz (Rp.tup_new hz pu rv) g⟩⟩
  | lst ds =>
    obtain ⟨p, vs, rfl, hs, _, rv⟩ := hx
    obtain ⟨pu, g⟩ := pusK_of hG g
    exact call_tuple_of pins s σ H _ us Q I r ⟨p, vs, rfl, .inl ⟨SqL.of hs, fun z hz => q.new (d := .tup ds) hz (Rp.tup_new hz pu rv) g⟩⟩
  | lck ds =>
    obtain ⟨p, vs, rfl, hs, _, rv⟩ := hx
    obtain ⟨pu, g⟩ := pusK_of hG g
    exact call_tuple_of pins s σ H _ us Q I r ⟨p, vs, rfl, .inl ⟨SqL.of hs, fun z hz => q.new (d := .tup ds) hz (Rp.tup_new hz pu rv) g⟩⟩
  | _ => exact absurd g hG

/-! ### isinstance -/
theorem tyX_of {H : Hp} {d : D} {x : V} {F : Fp} {t : String} (hx : Rp X.K H d x F) (ht : tyD d = some t) : TyX X.K H x (.type t) := by
  cases d with
  | non => cases (show x = .non from hx); cases ht; exact .base .non
  | bl b => cases (show x = .bl b from hx); cases ht; exact .base (.bl b)
  | int i => cases (show x = .int i from hx); cases ht; exact .base (.int i)
  | str z => cases (show x = .str z from hx); cases ht; exact .base (.str z)
  | tup ds =>
    obtain ⟨p, vs, rfl, hs, _, rv⟩ := hx
    cases ht
    rcases hs with (hs | ⟨o, hs⟩) | ⟨o, its, n, hk, hc, _⟩
    · exact .base (.tup hs)
    · exact .fTuple hs
    · exact .kTuple hk hc
  | rol ds =>
    obtain ⟨p, vs, rfl, hs, _, rv⟩ := hx
    cases ht
    rcases hs with ⟨o, hs⟩ | ⟨o, its, n, hk, hc, _⟩
    · exact .base (.frz hs)
    · exact .kList hk hc
  | lst ds =>
    obtain ⟨p, vs, rfl, hs, _, rv⟩ := hx
    cases ht
    exact .base (.lst hs)
  | lck ds =>
    obtain ⟨p, vs, rfl, hs, _, rv⟩ := hx
    cases ht
    exact .base (.lst hs)
  | ty n => cases ht
theorem tyD_cases {d : D} {t : String} (h : tyD d = some t) : t = "NoneType" ∨ t = "bool" ∨ t = "int" ∨ t = "str" ∨ t = "tuple" ∨ t = "list" := by
  cases d <;> first
    | (cases h; simp)
    | cases h
/-- the built-in classes that isinstance is asked of -/
theorem isiCls_of {c : Str} {n : String} (h : isiCls c = some n) : bootBuiltins c = some (.type n) ∧ (n = "int" ∨ n = "str" ∨ n = "tuple" ∨ n = "list" ∨ n = "bool") := by
  unfold isiCls at h
  by_cases e : c = "int"
  · subst e; rw [if_pos rfl] at h; cases h; exact ⟨by decide +kernel, by simp⟩
  rw [if_neg e] at h
  by_cases e : c = "str"
  · subst e; rw [if_pos rfl] at h; cases h; exact ⟨by decide +kernel, by simp⟩
  rw [if_neg e] at h
  by_cases e : c = "tuple"
  · subst e; rw [if_pos rfl] at h; cases h; exact ⟨by decide +kernel, by simp⟩
  rw [if_neg e] at h
  by_cases e : c = "list"
  · subst e; rw [if_pos rfl] at h; cases h; exact ⟨by decide +kernel, by simp⟩
  rw [if_neg e] at h
  by_cases e : c = "bool"
  · subst e; rw [if_pos rfl] at h; cases h; exact ⟨by decide +kernel, by simp⟩
  rw [if_neg e] at h
  cases h
theorem kit_all {t n : String} (ht : t = "NoneType" ∨ t = "bool" ∨ t = "int" ∨ t = "str" ∨ t = "tuple" ∨ t = "list") (hn : n = "int" ∨ n = "str" ∨ n = "tuple" ∨ n = "list" ∨ n = "bool") :
    kitB t n = some (t == n || (n == "int" && t == "bool")) := by
  rcases ht with rfl | rfl | rfl | rfl | rfl | rfl <;> rcases hn with rfl | rfl | rfl | rfl | rfl <;> decide +kernel
def rIsiD (G : Res → Prop) (K : PySem.W.Frag) (n : String) : List V → Hp → VK → Prop := fun xs H Q => ∃ d x F k, xs = [x, .ty n] ∧ Rp K H d x F ∧ G (dIsi d n k) ∧ VRes G K k H Q
theorem c_isi (hG : ¬ G .stuck) {n : String} (hn : n = "int" ∨ n = "str" ∨ n = "tuple" ∨ n = "list" ∨ n = "bool") : CallR X (.builtin "isinstance") (rIsiD G X.K n) := by
  intro pins s σ H xs us Q I r h
  obtain ⟨d, x, F, k, rfl, hx, g, q⟩ := h
  obtain ⟨t, ht, g⟩ := oK_of hG g
  exact call_isi pins s σ H _ us Q I r ⟨x, .ty n, .type t, .type n, _, rfl, .ty n, tyX_of hx ht, kit_ty (kit_all (tyD_cases ht) hn), q.here (d := .bl _) rfl g⟩

/-! ### methods of a text -/
theorem strs_of {K : PySem.W.Frag} {H : Hp} : ∀ {ds : List D} {vs : List V} {F : Fp} {ys : List Str}, Rps K H ds vs F → strsD ds = some ys → vs = ys.map V.str
  | [], vs, F, ys, h, e => by
    cases e
    exact h
  | .str x :: ds, vs, F, ys, h, e => by
    obtain ⟨v, ws, G1, G2, rfl, h1, h2, _⟩ := h
    rw [strsD] at e
    cases q : strsD ds with
    | none => rw [q] at e; cases e
    | some zs =>
      rw [q] at e
      cases e
      rw [show v = .str x from h1, strs_of h2 q]
      rfl
  | .non :: ds, vs, F, ys, h, e => by cases e
  | .bl _ :: ds, vs, F, ys, h, e => by cases e
  | .int _ :: ds, vs, F, ys, h, e => by cases e
  | .ty _ :: ds, vs, F, ys, h, e => by cases e
  | .tup _ :: ds, vs, F, ys, h, e => by cases e
  | .rol _ :: ds, vs, F, ys, h, e => by cases e
  | .lst _ :: ds, vs, F, ys, h, e => by cases e
  | .lck _ :: ds, vs, F, ys, h, e => by cases e
/-- arguments that are read (they may be lent) -/
def RpB (K : PySem.W.Frag) (H : Hp) : List D → List V → Prop
  | [], vs => vs = []
  | d :: ds, vs => ∃ v ws F, vs = v :: ws ∧ Rp K H d v F ∧ RpB K H ds ws
theorem asS_of {ds : List D} {y : Str} (h : asS ds = some y) : ds = [.str y] := by
  unfold asS at h
  split at h
  · cases h; rfl
  · cases h
theorem asSII_of {ds : List D} {t : Str × Int × Int} (h : asSII ds = some t) : ds = [.str t.1, .int t.2.1, .int t.2.2] := by
  unfold asSII at h
  split at h
  · cases h; rfl
  · cases h
def rStrM (G : Res → Prop) (K : PySem.W.Frag) (m : Str) : V → List V → Hp → VK → Prop := fun x vs H Q => ∃ z ds k, x = .str z ∧ RpB K H ds vs ∧ G (strM m z ds k) ∧ VRes G K k H Q
theorem m_join (hG : ¬ G .stuck) : MtR X "str.join" (rStrM G X.K "join") := by
  intro pins s σ H x xs v us Q I rx rs h
  obtain ⟨z, ds, k, rfl, hd, g, q⟩ := h
  unfold strM at g
  rw [if_pos rfl] at g
  match ds, hd, g with
  | [], hd, g => exact absurd g hG
  | [d], hd, g =>
    obtain ⟨w, ws, F, rfl, hw, hn⟩ := hd
    cases (show ws = [] from hn)
    have fin : ∀ {es : List D} {p : Addr} {vs : List V} {F : Fp}, w = .ref p → (SqL X.K H p vs ∨ SqT X.K H p vs) → Rps X.K H es vs F →
        G (match strsD es with
          | some ys => ckK (decide ((ys.map (·.length)).sum + ys.length * z.length ≤ szLine)) (k (.str (Txt.join z ys)))
          | none => .stuck) → wpAny (model X.prog X.w) X.A (call (.builtin "str.join") (v :: us)) (EP X pins σ Q) X.xe s := by
      intro es p vs F ew hp rv g
      cases e : strsD es with
      | none => rw [e] at g; exact absurd g hG
      | some ys =>
        rw [e] at g
        obtain ⟨hb, g⟩ := ckK_of hG g
        have ev := strs_of rv e
        subst ev; subst ew
        exact mt_join pins s σ H _ _ v us Q I rx rs ⟨z, p, ys, rfl, rfl, hp, of_decide_eq_true hb, q.here (d := .str (Txt.join z ys)) rfl g⟩
    cases d with
    | tup es =>
      obtain ⟨p, vs, ew, hs, rv⟩ := hw
      exact fin ew (.inr hs) rv.2 g
    | rol es =>
      obtain ⟨p, vs, ew, hs, rv⟩ := hw
      exact fin ew (.inl hs.sq) rv.2 g
    | lst es =>
      obtain ⟨p, vs, ew, hs, _, rv⟩ := hw
      exact fin ew (.inl (SqL.of hs)) rv g
    | lck es =>
      obtain ⟨p, vs, ew, hs, _, rv⟩ := hw
      exact fin ew (.inl (SqL.of hs)) rv g
    | _ => exact absurd g hG
  | _ :: _ :: _, hd, g => exact absurd g hG
theorem m_find (hG : ¬ G .stuck) : MtR X "str.find" (rStrM G X.K "find") := by
  intro pins s σ H x xs v us Q I rx rs h
  obtain ⟨z, ds, k, rfl, hd, g, q⟩ := h
  unfold strM at g
  rw [if_neg (by decide +kernel), if_pos rfl] at g
  obtain ⟨t, e, g⟩ := oK_of hG g
  cases asSII_of e
  obtain ⟨w1, ws1, F1, rfl, h1, w2, ws2, F2, rfl, h2, w3, ws3, F3, rfl, h3, hn⟩ := hd
  cases (show ws3 = [] from hn); cases (show w1 = .str _ from h1); cases (show w2 = .int _ from h2); cases (show w3 = .int _ from h3)
  exact mt_find4 pins s σ H _ _ v us Q I rx rs ⟨z, t.1, t.2.1, t.2.2, rfl, rfl, q.here (d := .int (Txt.findIn z t.1 t.2.1 t.2.2)) rfl g⟩
theorem m_lstrip (hG : ¬ G .stuck) : MtR X "str.lstrip" (rStrM G X.K "lstrip") := by
  intro pins s σ H x xs v us Q I rx rs h
  obtain ⟨z, ds, k, rfl, hd, g, q⟩ := h
  unfold strM at g
  rw [if_neg (by decide +kernel), if_neg (by decide +kernel), if_pos rfl] at g
  obtain ⟨y, e, g⟩ := oK_of hG g
  cases asS_of e
  obtain ⟨w1, ws1, F1, rfl, h1, hn⟩ := hd
  cases (show ws1 = [] from hn); cases (show w1 = .str y from h1)
  obtain ⟨hb, g⟩ := ckK_of hG g
  exact mt_lstripChars pins s σ H _ _ v us Q I rx rs ⟨z, y, rfl, rfl, by rw [← szLine_eq]; exact of_decide_eq_true hb, q.here (d := .str (Txt.lstripChars z y)) rfl g⟩
end
end TI
set_option Elab.async false
set_option linter.all false
set_option maxRecDepth 100000
set_option maxHeartbeats 4000000
/-! the evaluator against the model: what is wanted of each part, and the parts of expressions -/
namespace TI
open PySem PySem.Spec PyProof.Rows L2

theorem PE.imp {X : Cx} {e : Expr} {t t' : TE} (h : PE X e t) (w : ∀ σ H Q, t' σ H Q → t σ H Q) : PE X e t' := ⟨fun pins s σ H Q I q => h.run pins s σ H Q I (w σ H Q q)⟩
theorem PT.imp {X : Cx} {e : Expr} {t t' : TT} (h : PT X e t) (w : ∀ σ H Q, t' σ H Q → t σ H Q) : PT X e t' := ⟨fun pins s σ H Q I q => h.run pins s σ H Q I (w σ H Q q)⟩
theorem PW.imp {X : Cx} {e : Expr} {t t' : TT} (h : PW X e t) (w : ∀ σ H Q, t' σ H Q → t σ H Q) : PW X e t' := ⟨fun wh pins s σ H Q I q => h.run wh pins s σ H Q I (w σ H Q q)⟩
theorem PA.imp {X : Cx} {e : List Expr} {t t' : TA} (h : PA X e t) (w : ∀ σ H Q, t' σ H Q → t σ H Q) : PA X e t' := ⟨fun pos pins s σ H Q I q => h.run pos pins s σ H Q I (w σ H Q q)⟩
theorem PS.imp {X : Cx} {e : Stmt} {t t' : TS} (h : PS X e t) (w : ∀ D σ H, t' D σ H → t D σ H) : PS X e t' := ⟨fun pins s σ H D I q => h.run pins s σ H D I (w D σ H q)⟩
theorem PSs.imp {X : Cx} {e : List Stmt} {t t' : TS} (h : PSs X e t) (w : ∀ D σ H, t' D σ H → t D σ H) : PSs X e t' := ⟨fun pins s σ H D I q => h.run pins s σ H D I (w D σ H q)⟩
theorem PG.imp {X : Cx} {e : Expr} {t t' : TG} (h : PG X e t) (w : ∀ v σ H Q, t' v σ H Q → t v σ H Q) : PG X e t' := ⟨fun pins s σ H v u Q I r q => h.run pins s σ H v u Q I r (w v σ H Q q)⟩

abbrev Er := Str → List (Str × D) → Value → Option Addr → Hp → Prop
/-- how a result of a def is right -/
def RGood (K : PySem.W.Frag) (er : Er) (F : Fp) (H : Hp) (vs : List V) (r : Res) (Q : VK) (E : XK) : Prop := match r with
  | .ret d fin => ∀ v H' Fv Ff, Keep F H H' → Fr F H Fv → Fr F H Ff → Dis Ff Fv → Rp K H' d v Fv → Ens K H' fin (vs.map some) Ff → Q v H'
  | .exc c fs => ∀ cls dx H', Keep F H H' → er c fs cls dx H' → E cls dx H'
  | .stuck => False
def SpD (K : PySem.W.Frag) (er : Er) (np : Nat) (g : List D → Res) : Sp := fun vs H Q E => vs.length = np ∧ ∃ ds F, Rps K H ds vs F ∧ RGood K er F H vs (g ds) Q E

/-- what of the context is asked -/
structure Cok (X : Cx) (C : Cd) (sc : Scope) (cx : CXT) (er : Er) (EX : XK) : Prop where
  hN : X.N = C.N
  nd : X.N.Nodup
  hsc : X.env.scope = sc
  calm : X.calm = true
  own : ∀ x, C.own x = true → locl sc x = true → X.fn x = true ∨ X.env.scope.names.lookup x = some .local
  bi : ∀ x, C.glo x = .bi → X.mg x = none
  con : ∀ x d, C.glo x = .con d → d.pu = true ∧ ∃ u v, X.mg x = some u ∧ RelV v u ∧ ∀ H, Rp X.K H d v F0
  kd : ∀ x kvs, C.glo x = .kd kvs → ∃ a es n, X.mg x = some (.ref a) ∧ KDict X.K X.w a es n ∧ ∀ z, ∃ r, PySem.W.nsIn X.K a z = some r ∧ (match kvs.lookup z with
    | none => r = none
    | some d => d.pu = true ∧ ∃ u v, r = some u ∧ RelV v u ∧ ∀ H, Rp X.K H d v F0)
  fn : ∀ x n, C.glo x = .fn n → ∃ (f : Addr) (k : Nat) (fd : FuncData) (ps : List Str), ps.length = n ∧ FnOk X.prog X.w X.K X.mg X.base cx k f fd ps (SpD X.K er n (C.call x)) ∧ Room k X.A ∧ X.mg x = some (.ref f) ∧ PySem.W.keepIn X.K (.ref f) = true ∧ Binds X.K fd ps []
  pas : PassesOwn (model X.prog X.w) X.A X.env X.xe
  thr : Passes cx X EX
  cxn : ∀ st H s e s', cx st H s (fun _ _ _ => False) e s' → False
  room : X.A.units + 1 < cLine
/-- the context with what is wanted at the end -/
structure Okx (X : Cx) (C : Cd) (sc : Scope) (cx : CXT) (er : Er) (EX : XK) (G : Res → Prop) (A0 : Fp) (H0 : Hp) : Prop extends Cok X C sc cx er EX where
  hG : ¬ G .stuck
  xco : ∀ c fs ρ, G (C.xc c fs ρ) → ∀ cls dx H', Keep A0 H0 H' → er c fs cls dx H' → EX cls dx H'

/-- nothing becomes written that was not -/
def Imp (ρ ρ' : Env) : Prop := ∀ (i : Nat) d', ρ'[i]? = some (some d') → d'.pu = false → ∃ d, ρ[i]? = some (some d) ∧ d.pu = false
theorem Imp.refl (ρ : Env) : Imp ρ ρ := fun i d h p => ⟨d, h, p⟩
theorem Imp.trans {a b c : Env} (h : Imp a b) (g : Imp b c) : Imp a c := fun i d e p => by
  obtain ⟨d1, e1, p1⟩ := g i d e p
  exact h i d1 e1 p1
/-- from (F, H, ρ) on to (F', H', ρ'), the slots' addresses being σ -/
structure Ch (K : PySem.W.Frag) (σ : L2.St) (F : Fp) (H : Hp) (ρ : Env) (F' : Fp) (H' : Hp) (ρ' : Env) : Prop where
  kp : Keep F H H'
  im : Imp ρ ρ'
  fr : Fr F H F'
  en : Ens K H' ρ' σ F'
  tr : ∀ a, F' a → H' a ≠ none
/-- a value that stands apart from the slots -/
structure OwnV (K : PySem.W.Frag) (F : Fp) (H : Hp) (Fe : Fp) (d : D) (v : V) (H' : Hp) (Fv : Fp) : Prop where
  fr : Fr F H Fv
  dj : Dis Fe Fv
  rp : Rp K H' d v Fv
  tr : ∀ a, Fv a → H' a ≠ none
section
variable {K : PySem.W.Frag} {σ : L2.St} {F F1 F2 F3 : Fp} {H H1 H2 H3 : Hp} {ρ ρ1 ρ2 : Env} {d : D} {v : V}
theorem Ch.refl (en : Ens K H ρ σ F) : Ch K σ F H ρ (fun a => F a ∧ H a ≠ none) H ρ :=
  ⟨Keep.refl _ _, Imp.refl _, fun _ h => .inl h.1, Ens.trim _ _ _ en, fun _ h => h.2⟩
theorem Ch.trans (a : Ch K σ F H ρ F1 H1 ρ1) (b : Ch K σ F1 H1 ρ1 F2 H2 ρ2) : Ch K σ F H ρ F2 H2 ρ2 :=
  ⟨a.kp.trans b.kp a.fr, a.im.trans b.im, a.fr.trans a.kp b.fr, b.en, b.tr⟩
/-- the heap grows, nothing is written -/
theorem Ch.grow (a : Ch K σ F H ρ F1 H1 ρ1) (k : Keep F0 H1 H2) : Ch K σ F H ρ F1 H2 ρ1 :=
  ⟨a.kp.trans (k.mono fun _ z => z.elim) a.fr, a.im, a.fr, Ens.stay k _ _ _ (fun _ _ z => z) a.en, fun x h e => a.tr x h (k.g x e)⟩
theorem OwnV.of (fr : Fr F H F2) (dj : Dis F1 F2) (rp : Rp K H1 d v F2) : OwnV K F H F1 d v H1 (fun a => F2 a ∧ H1 a ≠ none) :=
  ⟨fun x h => fr x h.1, fun x h g => dj x h g.1, Rp.trim _ _ _ rp, fun _ h => h.2⟩
theorem OwnV.pure {Fx : Fp} (rp : Rp K H1 d v Fx) (p : d.pu = true) : OwnV K F H F1 d v H1 F0 :=
  ⟨fun _ h => h.elim, fun _ _ h => h, Rp.pure _ _ _ p rp, fun _ h => h.elim⟩
/-- a value kept while the next part runs -/
theorem OwnV.held (o : OwnV K F H F1 d v H1 F3) (c : Ch K σ F1 H1 ρ1 F2 H2 ρ2) : OwnV K F H F2 d v H2 F3 :=
  ⟨o.fr, fun a h g => (c.fr a h).elim (fun z => o.dj a z g) fun z => o.tr a g z, Rp.stay c.kp _ _ _ (fun a h g => o.dj a g h) o.rp, fun a h e => o.tr a h (c.kp.g a e)⟩
theorem OwnV.grow (o : OwnV K F H F1 d v H1 F3) (k : Keep F0 H1 H2) : OwnV K F H F1 d v H2 F3 :=
  ⟨o.fr, o.dj, Rp.stay k _ _ _ (fun _ _ z => z) o.rp, fun a h e => o.tr a h (k.g a e)⟩
/-- a new value behind a chain -/
theorem Ch.val (a : Ch K σ F H ρ F1 H1 ρ1) (k : Keep F0 H1 H2) (fr : Fr F0 H1 F2) (rp : Rp K H2 d v F2) : OwnV K F H F1 d v H2 (fun a => F2 a ∧ H2 a ≠ none) :=
  OwnV.of (fun x h => (fr x h).elim (fun z => z.elim) fun z => .inr (a.kp.g x z)) (fun x h g => (fr x g).elim (fun z => z) fun z => a.tr x h z) rp
/-- the start, seen from afar -/
theorem Ch.keep {A0 : Fp} {H0 : Hp} (a : Ch K σ F H ρ F1 H1 ρ1) (k : Keep A0 H0 H) (f : Fr A0 H0 F) : Keep A0 H0 H1 := k.trans a.kp f
theorem Ch.from {A0 : Fp} {H0 : Hp} (a : Ch K σ F H ρ F1 H1 ρ1) (k : Keep A0 H0 H) (f : Fr A0 H0 F) : Fr A0 H0 F1 := f.trans k a.fr
end

/-- a value's two ways: it is lent by the slots, or stands apart -/
def Val2 (K : PySem.W.Frag) (pth : Bool) (F : Fp) (H : Hp) (Fe : Fp) (d : D) (v : V) (H' : Hp) : Prop := (pth = true ∧ Rp K H' d v Fe) ∨ ∃ Fv, OwnV K F H Fe d v H' Fv
theorem Val2.any {K : PySem.W.Frag} {pth : Bool} {F Fe : Fp} {H H' : Hp} {d : D} {v : V} (h : Val2 K pth F H Fe d v H') : ∃ F', Rp K H' d v F' := by
  rcases h with ⟨_, h⟩ | ⟨Fv, h⟩
  · exact ⟨_, h⟩
  · exact ⟨_, h.rp⟩
theorem Val2.own {K : PySem.W.Frag} {pth : Bool} {F Fe : Fp} {H H' : Hp} {d : D} {v : V} (h : Val2 K pth F H Fe d v H') (p : pth = true → d.pu = true) : ∃ Fv, OwnV K F H Fe d v H' Fv := by
  rcases h with ⟨e, h⟩ | h
  · exact ⟨F0, OwnV.pure h (p e)⟩
  · exact h
abbrev Ek := Env → (D → Env → Res) → Res
def RdE (K : PySem.W.Frag) (G : Res → Prop) (A0 : Fp) (H0 : Hp) (pth cal : Bool) (f : Ek) : TE := fun σ H Q => ∃ ρ k F, Keep A0 H0 H ∧ Fr A0 H0 F ∧ Ens K H ρ σ F ∧ G (f ρ k) ∧
  ∀ d ρ' v H' Fe, Ch K σ F H ρ Fe H' ρ' → Val2 K pth F H Fe d v H' → (cal = true → H' = H ∧ ρ' = ρ) → G (k d ρ') → Q v H'
def RdT (K : PySem.W.Frag) (G : Res → Prop) (A0 : Fp) (H0 : Hp) (f : Env → (Bool → Env → Res) → Res) : TT := fun σ H Q => ∃ ρ k F, Keep A0 H0 H ∧ Fr A0 H0 F ∧ Ens K H ρ σ F ∧ G (f ρ k) ∧
  ∀ b ρ' H' Fe, Ch K σ F H ρ Fe H' ρ' → G (k b ρ') → Q b H'
/-- arguments: names' slots, values that stand apart, a last one that is lent -/
def ArgR (K : PySem.W.Frag) (H : Hp) (σ : L2.St) : List Arg → List V → Fp → Prop
  | [], vs, _ => vs = []
  | .nm i :: as, vs, F => ∃ v ws, vs = v :: ws ∧ σ[i]? = some (some v) ∧ ArgR K H σ as ws F
  | .own d :: as, vs, F => ∃ v ws G1 G2, vs = v :: ws ∧ Rp K H d v G1 ∧ ArgR K H σ as ws G2 ∧ (∀ a, G1 a → F a) ∧ (∀ a, G2 a → F a) ∧ Dis G1 G2
  | .bor d :: as, vs, F => ∃ v ws F', vs = v :: ws ∧ Rp K H d v F' ∧ ArgR K H σ as ws F
def RdA (K : PySem.W.Frag) (G : Res → Prop) (A0 : Fp) (H0 : Hp) (f : Env → (List Arg → Env → Res) → Res) : TA := fun σ H Q => ∃ ρ k F, Keep A0 H0 H ∧ Fr A0 H0 F ∧ Ens K H ρ σ F ∧ G (f ρ k) ∧
  ∀ as ρ' vs H' Fe Fv, Ch K σ F H ρ Fe H' ρ' → Fr F H Fv → Dis Fe Fv → (∀ a, Fv a → H' a ≠ none) → ArgR K H' σ as vs Fv → G (k as ρ') → Q vs H'
/-- an own parameter's object is at its place -/
def Par (np : Nat) (vs : List V) (σ : L2.St) (ρ : Env) : Prop := ∀ (i : Nat) d, i < np → ρ[i]? = some (some d) → d.pu = false → ∃ v, vs[i]? = some v ∧ σ[i]? = some (some v)
theorem Par.imp {np : Nat} {vs : List V} {σ : L2.St} {ρ ρ' : Env} (h : Par np vs σ ρ) (i : Imp ρ ρ') : Par np vs σ ρ' := fun j d hj e p => by
  obtain ⟨d0, e0, p0⟩ := i j d e p
  exact h j d0 hj e0 p0
/-- stores go to the slots of own names -/
def Sl (C : Cd) (sc : Scope) (σ σ' : L2.St) : Prop := σ'.length = σ.length ∧ ∀ j, σ'[j]? ≠ σ[j]? → ∃ x, C.own x = true ∧ locl sc x = true ∧ slotOf C sc x = some j
def RdG (K : PySem.W.Frag) (G : Res → Prop) (C : Cd) (sc : Scope) (f : D → Env → (Env → Res) → Res) : TG := fun v σ H Q => ∃ ρ k F d Fv, Ens K H ρ σ F ∧ Rp K H d v Fv ∧ Dis F Fv ∧ G (f d ρ k) ∧
  ∀ ρ' σ' F', (∀ a, F' a → F a ∨ Fv a) → Ens K H ρ' σ' F' → Sl C sc σ σ' → (d.pu = true → Imp ρ ρ') → (∀ vs, Par C.np vs σ ρ → Par C.np vs σ' ρ') → G (k ρ') → Q σ' H
structure NxOk (K : PySem.W.Frag) (G : Res → Prop) (np : Nat) (vs : List V) (F : Fp) (H : Hp) (E : Nx) (D : Ends) : Prop where
  nx : ∀ ρ' σ' H' F', Keep F H H' → Fr F H F' → Ens K H' ρ' σ' F' → Par np vs σ' ρ' → G (E.nx ρ') → D.nx σ' H'
  bk : ∀ ρ' σ' H' F', Keep F H H' → Fr F H F' → Ens K H' ρ' σ' F' → Par np vs σ' ρ' → G (E.bk ρ') → D.bk σ' H'
  ct : ∀ ρ' σ' H' F', Keep F H H' → Fr F H F' → Ens K H' ρ' σ' F' → Par np vs σ' ρ' → G (E.ct ρ') → D.ct σ' H'
  rt : ∀ d ρ' σ' v H' F' Fv, Keep F H H' → Fr F H F' → Fr F H Fv → Dis F' Fv → Ens K H' ρ' σ' F' → Par np vs σ' ρ' → Rp K H' d v Fv → G (E.rt d ρ') → D.rt v H'
def RdS (K : PySem.W.Frag) (G : Res → Prop) (A0 : Fp) (H0 : Hp) (np : Nat) (vs : List V) (f : Env → Nx → Res) : TS := fun D σ H => ∃ ρ E F, Keep A0 H0 H ∧ Fr A0 H0 F ∧ Ens K H ρ σ F ∧ Par np vs σ ρ ∧ G (f ρ E) ∧ NxOk K G np vs F H E D

/-- the parts are right -/
structure Snd (R : Fns) : Prop where
  E : ∀ {X C sc cx er EX G A0 H0}, Okx X C sc cx er EX G A0 H0 → ∀ e, PE X e (RdE X.K G A0 H0 (isPath e) (isCalm e) (R.E C sc e))
  T : ∀ {X C sc cx er EX G A0 H0}, Okx X C sc cx er EX G A0 H0 → ∀ e, PT X e (RdT X.K G A0 H0 (R.T C sc e))
  W : ∀ {X C sc cx er EX G A0 H0}, Okx X C sc cx er EX G A0 H0 → ∀ op vs p, PW X (.BoolOp op vs p) (RdT X.K G A0 H0 (R.T C sc (.BoolOp op vs p)))
  A : ∀ {X C sc cx er EX G A0 H0}, Okx X C sc cx er EX G A0 H0 → ∀ es, PA X es (RdA X.K G A0 H0 (R.A C sc es))
  P : ∀ {X C sc cx er EX G A0 H0}, Okx X C sc cx er EX G A0 H0 → ∀ e, PET X e (RdE X.K G A0 H0 (isPath e) (isCalm e) (R.P C sc e))
  G : ∀ {X C sc cx er EX G A0 H0}, Okx X C sc cx er EX G A0 H0 → ∀ e, PG X e (RdG X.K G C sc (R.G C sc e))
  S : ∀ {X C sc cx er EX G A0 H0}, Okx X C sc cx er EX G A0 H0 → ∀ vs ss, PSs X ss (RdS X.K G A0 H0 C.np vs (R.S C sc ss))

/-! ### small matters -/
theorem okName_of {x : Str} (h : okName x = true) : (x == ("__debug__" : Str)) = false ∧ (x == ("__classdict__" : Str)) = false ∧ x ≠ "__name__" := by
  unfold okName at h
  rw [Bool.and_eq_true, Bool.and_eq_true, Bool.not_eq_true', Bool.not_eq_true', Bool.not_eq_true'] at h
  exact ⟨h.1.1, h.1.2, fun e => by rw [e] at h; exact absurd h.2 (by simp)⟩
theorem ixOf_get : ∀ {l : List Str} {x : Str} {i : Nat}, ixOf l x = some i → l[i]? = some x
  | [], x, i, h => by cases h
  | y :: l, x, i, h => by
    unfold ixOf at h
    by_cases e : y = x
    · rw [if_pos e] at h; cases h; rw [e]; rfl
    · rw [if_neg e] at h
      cases q : ixOf l x with
      | none => rw [q] at h; cases h
      | some j =>
        rw [q] at h; cases h
        show l[j]? = some x
        exact ixOf_get (l := l) q
theorem slotOf_of {C : Cd} {sc : Scope} {x : Str} {i : Nat} (h : slotOf C sc x = some i) : C.N[i]? = some x ∧ (sc.names.lookup x = some .local ∨ sc.names.lookup x = some .cell ∨ sc.names.lookup x = some .free) ∧ okName x = true := by
  unfold slotOf at h
  by_cases e : (vis sc x && okName x) = true
  · rw [if_pos e] at h
    rw [Bool.and_eq_true] at e
    refine ⟨ixOf_get h, ?_, e.2⟩
    have := e.1
    unfold vis at this
    split at this
    · exact .inl (by assumption)
    · exact .inr (.inl (by assumption))
    · exact .inr (.inr (by assumption))
    · cases this
  · rw [if_neg e] at h; cases h
theorem locl_of {sc : Scope} {x : Str} (h : locl sc x = true) : sc.names.lookup x = some .local ∨ sc.names.lookup x = some .cell := by
  unfold locl at h
  split at h
  · exact .inl (by assumption)
  · exact .inr (by assumption)
  · cases h
theorem globOf_of {C : Cd} {sc : Scope} {x : Str} {g : Glo} (h : globOf C sc x = g) (hg : g ≠ .no) : sc.names.lookup x = some .globalImplicit ∧ okName x = true ∧ C.glo x = g := by
  unfold globOf at h
  split at h
  · by_cases e : okName x = true
    · rw [if_pos e] at h
      exact ⟨by assumption, e, h⟩
    · rw [if_neg e] at h
      exact absurd h.symm hg
  · exact absurd h.symm hg
theorem isBi_of {C : Cd} {sc : Scope} {x : Str} (h : isBi C sc x = true) : sc.names.lookup x = some .globalImplicit ∧ okName x = true ∧ C.glo x = .bi := by
  unfold isBi at h
  split at h
  · exact globOf_of (by assumption) (fun z => nomatch z)
  · cases h
theorem isFn_of {C : Cd} {sc : Scope} {x : Str} {n : Nat} (h : isFn C sc x = some n) : sc.names.lookup x = some .globalImplicit ∧ okName x = true ∧ C.glo x = .fn n := by
  unfold isFn at h
  split at h
  · cases h
    exact globOf_of (by assumption) (fun z => nomatch z)
  · cases h
section
variable {X : Cx} {C : Cd} {sc : Scope} {cx : CXT} {er : Er} {EX : XK} {G : Res → Prop} {A0 : Fp} {H0 : Hp}
theorem Cok.visx (o : Cok X C sc cx er EX) {x : Str} {i : Nat} (h : slotOf C sc x = some i) : X.N[i]? = some x ∧ Vis X.env.scope x ∧ (x == ("__debug__" : Str)) = false ∧ (x == ("__classdict__" : Str)) = false := by
  obtain ⟨h1, h2, h3⟩ := slotOf_of h
  obtain ⟨n1, n2, _⟩ := okName_of h3
  refine ⟨by rw [o.hN]; exact h1, by rw [o.hsc]; exact h2, n1, n2⟩
theorem Cok.glx (o : Cok X C sc cx er EX) {x : Str} (h : sc.names.lookup x = some .globalImplicit) : Gl X x := by
  show X.env.scope.names.lookup x = _
  rw [o.hsc]; exact h
theorem Val2.hold {K : PySem.W.Frag} {hG : ¬ G .stuck} {σ : L2.St} {F Fe : Fp} {H H1 : Hp} {ρ1 : Env} {d : D} {v : V} {e1 e2 : Expr} {r : Res} (h : Val2 K (isPath e1) F H Fe d v H1) (g : G (holdK e1 d e2 r)) :
    G r ∧ ((∃ Fv, OwnV K F H Fe d v H1 Fv) ∨ (isCalm e2 = true ∧ ∃ F', Rp K H1 d v F')) := by
  unfold holdK at g
  by_cases e : (isPath e1 && !isCalm e2) = true
  · rw [if_pos e] at g
    obtain ⟨p, g⟩ := puK_of hG g
    exact ⟨g, .inl (h.own fun _ => p)⟩
  · rw [if_neg e] at g
    refine ⟨g, ?_⟩
    rcases h with ⟨z, h⟩ | h
    · cases hc : isCalm e2 with
      | true => exact .inr ⟨rfl, _, h⟩
      | false => rw [z, hc] at e; exact absurd rfl e
    · exact .inl h
/-- what was kept is still what it was -/
theorem kept2 {K : PySem.W.Frag} {σ : L2.St} {F Fe Fe2 : Fp} {H H1 H2 : Hp} {ρ1 ρ2 : Env} {d : D} {v : V} {cal : Bool} (h : (∃ Fv, OwnV K F H Fe d v H1 Fv) ∨ (cal = true ∧ ∃ F', Rp K H1 d v F'))
    (c : Ch K σ Fe H1 ρ1 Fe2 H2 ρ2) (hc : cal = true → H2 = H1 ∧ ρ2 = ρ1) : ∃ F', Rp K H2 d v F' := by
  rcases h with ⟨Fv, h⟩ | ⟨z, F', h⟩
  · exact ⟨_, (h.held c).rp⟩
  · rw [(hc z).1]; exact ⟨F', h⟩
/-- a value's end -/
theorem vend {K : PySem.W.Frag} {σ : L2.St} {F F2 : Fp} {H H2 : Hp} {ρ ρ2 : Env} {k : D → Env → Res} {Q : VK}
    (c : Ch K σ F H ρ F2 H2 ρ2) (q : ∀ d ρ' v H' Fe, Ch K σ F H ρ Fe H' ρ' → Val2 K false F H Fe d v H' → (false = true → H' = H ∧ ρ' = ρ) → G (k d ρ') → Q v H') : VRes G K (fun d => k d ρ2) H2 Q :=
  fun d v H3 Fv kp fr rp g => q d ρ2 v H3 F2 (c.grow kp) (.inr ⟨_, c.val kp fr rp⟩) (fun z => nomatch z) g
variable {R : Fns} (S : Snd R) (o : Okx X C sc cx er EX G A0 H0)
include S o

/-! ### names, constants -/
omit S in
theorem e_name (x : Str) (p : Pos) : PE X (.Name x p) (RdE X.K G A0 H0 true true (nameE C sc x)) := by
  cases hs : slotOf C sc x with
  | some i =>
    obtain ⟨h1, h2, h3, h4⟩ := o.toCok.visx hs
    refine PE.imp (pe_var (i := i) h1 h2 h3 h4) fun σ H Q ⟨ρ, k, F, k0, f0, en, g, q⟩ => ?_
    unfold nameE at g
    rw [hs] at g
    obtain ⟨d, hd, g⟩ := getK_of o.hG g
    have c := Ch.refl en
    obtain ⟨v, hv, r⟩ := Ens.get _ _ _ _ _ c.en hd
    exact ⟨v, hv, q d ρ v H _ c (.inl ⟨rfl, r⟩) (fun _ => ⟨rfl, rfl⟩) g⟩
  | none =>
    cases hg : globOf C sc x with
    | con d =>
      obtain ⟨g1, g2, g3⟩ := globOf_of hg (fun z => nomatch z)
      obtain ⟨n1, n2, n3⟩ := okName_of g2
      obtain ⟨pu, u, v, hm, rv, rp⟩ := o.con x d g3
      refine PE.imp (pe_glob (o.toCok.glx g1) hm rv n1) fun σ H Q ⟨ρ, k, F, k0, f0, en, g, q⟩ => ?_
      unfold nameE at g
      rw [hs, hg] at g
      exact q d ρ v H _ (Ch.refl en) (.inr ⟨_, OwnV.pure (rp H) pu⟩) (fun _ => ⟨rfl, rfl⟩) g
    | _ =>
      refine ⟨fun pins s σ H Q I ⟨ρ, k, F, k0, f0, en, g, q⟩ => ?_⟩
      unfold nameE at g
      rw [hs, hg] at g
      exact absurd g o.hG
omit S in
theorem e_const (c : Const) (j : Nat) (p : Pos) : PE X (.Constant c j p) (RdE X.K G A0 H0 false true (fun ρ k => constE c fun d => k d ρ)) := by
  have fin : ∀ {σ : L2.St} {H : Hp} {Q : VK} {d : D} {v : V}, (∀ H, Rp X.K H d v F0) → RdE X.K G A0 H0 false true (fun ρ k => k d ρ) σ H Q → Q v H := fun {σ H Q d v} r ⟨ρ, k, F, k0, f0, en, g, q⟩ =>
    q d ρ v H _ (Ch.refl en) (.inr ⟨F0, fun _ h => h.elim, fun _ _ h => h, r H, fun _ h => h.elim⟩) (fun _ => ⟨rfl, rfl⟩) g
  cases c with
  | int i => exact PE.imp pe_int fun σ H Q h => fin (d := .int i) (fun _ => rfl) h
  | bool i => exact PE.imp pe_bl fun σ H Q h => fin (d := .bl i) (fun _ => rfl) h
  | none => exact PE.imp pe_non fun σ H Q h => fin (d := .non) (fun _ => rfl) h
  | str i => exact PE.imp pe_str fun σ H Q h => fin (d := .str i) (fun _ => rfl) h
  | _ => exact ⟨fun pins s σ H Q I ⟨ρ, k, F, k0, f0, en, g, q⟩ => absurd g o.hG⟩
omit S in
theorem e_stuck {e : Expr} {pth cal : Bool} : PE X e (RdE X.K G A0 H0 pth cal (fun _ _ => .stuck)) := ⟨fun pins s σ H Q I ⟨ρ, k, F, k0, f0, en, g, q⟩ => absurd g o.hG⟩

/-! ### operators -/
theorem e_binop (a b : Expr) (op : Operator) (p : Pos) :
    PE X (.BinOp a op b p) (RdE X.K G A0 H0 false false (fun ρ k => R.E C sc a ρ fun x ρ1 => holdK a x b (R.E C sc b ρ1 fun y ρ2 => binD op x y fun z => k z ρ2))) := by
  refine PE.imp (pe_op (op_binD o.hG op) (S.E o a) (S.E o b)) fun σ H Q ⟨ρ, k, F, k0, f0, en, g, q⟩ => ?_
  refine ⟨ρ, _, F, k0, f0, en, g, fun d ρ1 v H1 Fe c1 v1 _ g1 => ?_⟩
  obtain ⟨g1, hh⟩ := Val2.hold (hG := o.hG) (σ := σ) (ρ1 := ρ1) v1 g1
  refine ⟨ρ1, _, Fe, c1.keep k0 f0, c1.from k0 f0, c1.en, g1, fun d2 ρ2 v2 H2 Fe2 c2 v2' cal2 g2 => ?_⟩
  obtain ⟨Fx, hx⟩ := kept2 hh c2 cal2
  obtain ⟨Fy, hy⟩ := v2'.any
  exact ⟨d, d2, Fx, Fy, _, hx, hy, g2, vend (c1.trans c2) q⟩
theorem e_neg (a : Expr) (p : Pos) : PE X (.UnaryOp .USub a p) (RdE X.K G A0 H0 false false (fun ρ k => R.E C sc a ρ fun x ρ1 => dNeg x fun z => k z ρ1)) := by
  refine PE.imp (pe_un (un_negD o.hG) (S.E o a)) fun σ H Q ⟨ρ, k, F, k0, f0, en, g, q⟩ => ?_
  refine ⟨ρ, _, F, k0, f0, en, g, fun d ρ1 v H1 Fe c1 v1 _ g1 => ?_⟩
  obtain ⟨Fx, hx⟩ := v1.any
  exact ⟨d, Fx, _, hx, g1, vend c1 q⟩
end
end TI
set_option Elab.async false
set_option linter.all false
set_option maxRecDepth 100000
set_option maxHeartbeats 4000000
/-! arguments, displays, calls -/
namespace TI
open PySem PySem.Spec PyProof.Rows L2

theorem star_cons {e : Expr} {es : List Expr} (h : noStar (e :: es) = true) (env : PySem.Env) : starEach (e :: es) env = (false, eval e env) :: starEach es env ∧ noStar es = true := by
  cases e <;> first
    | exact ⟨rfl, h⟩
    | cases h
theorem star_any : ∀ {es : List Expr} (h : noStar es = true) (pos : Pos) (env : PySem.Env), (backTo pos (starEach es env)).any (·.1) = false
  | [], _, _, _ => rfl
  | e :: es, h, pos, env => by
    obtain ⟨h1, h2⟩ := star_cons h env
    rw [h1]
    show (false || (backTo pos (starEach es env)).any (·.1)) = false
    rw [star_any h2 pos env]
    rfl
theorem star_all : ∀ {es : List Expr} (h : noStar es = true) (pos : Pos) (env : PySem.Env), (backTo pos (starEach es env)).all (fun x => !x.1) = true
  | [], _, _, _ => rfl
  | e :: es, h, pos, env => by
    obtain ⟨h1, h2⟩ := star_cons h env
    rw [h1]
    show (true && (backTo pos (starEach es env)).all (fun x => !x.1)) = true
    rw [star_all h2 pos env]
    rfl
section
variable {K : PySem.W.Frag} {H H' : Hp} {σ : L2.St} {G : Res → Prop}
theorem ArgR.length : ∀ {as : List Arg} {vs : List V} {F : Fp}, ArgR K H σ as vs F → vs.length = as.length
  | [], vs, F, h => by rw [show vs = [] from h]; rfl
  | .nm i :: as, vs, F, h => by
    obtain ⟨v, ws, rfl, _, h⟩ := h
    rw [List.length_cons, List.length_cons, ArgR.length h]
  | .own d :: as, vs, F, h => by
    obtain ⟨v, ws, G1, G2, rfl, _, h, _⟩ := h
    rw [List.length_cons, List.length_cons, ArgR.length h]
  | .bor d :: as, vs, F, h => by
    obtain ⟨v, ws, F', rfl, _, h⟩ := h
    rw [List.length_cons, List.length_cons, ArgR.length h]
theorem ArgR.mono : ∀ {as : List Arg} {vs : List V} {F F' : Fp}, ArgR K H σ as vs F → (∀ a, F a → F' a) → ArgR K H σ as vs F'
  | [], vs, F, _, h, _ => h
  | .nm i :: as, vs, F, _, h, s => by
    obtain ⟨v, ws, e, hv, h⟩ := h
    exact ⟨v, ws, e, hv, h.mono s⟩
  | .own d :: as, vs, F, _, h, s => by
    obtain ⟨v, ws, G1, G2, e, r, h, s1, s2, dj⟩ := h
    exact ⟨v, ws, G1, G2, e, r, h, fun a q => s a (s1 a q), fun a q => s a (s2 a q), dj⟩
  | .bor d :: as, vs, F, _, h, s => by
    obtain ⟨v, ws, F', e, r, h⟩ := h
    exact ⟨v, ws, F', e, r, h.mono s⟩
/-- arguments as values to be laid into a new object -/
theorem resP_of (hG : ¬ G .stuck) : ∀ {as : List Arg} {vs : List V} {F Fe : Fp} {ρ : Env} {k : List D → Res}, ArgR K H σ as vs F → Ens K H ρ σ Fe → G (resP as ρ k) → ∃ ds, Rps K H ds vs F ∧ G (k ds)
  | [], vs, F, Fe, ρ, k, h, en, g => ⟨[], h, g⟩
  | .nm i :: as, vs, F, Fe, ρ, k, h, en, g => by
    obtain ⟨v, ws, rfl, hv, h⟩ := h
    obtain ⟨d, hd, g⟩ := getK_of hG g
    obtain ⟨p, g⟩ := puK_of hG g
    obtain ⟨v', hv', r⟩ := Ens.get _ _ _ _ _ en hd
    rw [hv] at hv'; cases hv'
    obtain ⟨ds, hds, g⟩ := resP_of hG h en g
    exact ⟨d :: ds, ⟨v, ws, F0, F, rfl, Rp.pure _ _ _ p r, hds, fun _ z => z.elim, fun _ z => z, fun _ z => z.elim⟩, g⟩
  | .own d :: as, vs, F, Fe, ρ, k, h, en, g => by
    obtain ⟨v, ws, G1, G2, rfl, r, h, s1, s2, dj⟩ := h
    obtain ⟨ds, hds, g⟩ := resP_of hG h en g
    exact ⟨d :: ds, ⟨v, ws, G1, G2, rfl, r, hds, s1, s2, dj⟩, g⟩
  | .bor d :: as, vs, F, Fe, ρ, k, h, en, g => by
    obtain ⟨v, ws, F', rfl, r, h⟩ := h
    obtain ⟨p, g⟩ := puK_of hG g
    obtain ⟨ds, hds, g⟩ := resP_of hG h en g
    exact ⟨d :: ds, ⟨v, ws, F0, F, rfl, Rp.pure _ _ _ p r, hds, fun _ z => z.elim, fun _ z => z, fun _ z => z.elim⟩, g⟩
/-- arguments that are only read -/
theorem resB_of (hG : ¬ G .stuck) : ∀ {as : List Arg} {vs : List V} {F Fe : Fp} {ρ : Env} {k : List D → Res}, ArgR K H σ as vs F → Ens K H ρ σ Fe → G (resB as ρ k) → ∃ ds, RpB K H ds vs ∧ G (k ds)
  | [], vs, F, Fe, ρ, k, h, en, g => ⟨[], h, g⟩
  | .nm i :: as, vs, F, Fe, ρ, k, h, en, g => by
    obtain ⟨v, ws, rfl, hv, h⟩ := h
    obtain ⟨d, hd, g⟩ := getK_of hG g
    obtain ⟨v', hv', r⟩ := Ens.get _ _ _ _ _ en hd
    rw [hv] at hv'; cases hv'
    obtain ⟨ds, hds, g⟩ := resB_of hG h en g
    exact ⟨d :: ds, ⟨v, ws, _, rfl, r, hds⟩, g⟩
  | .own d :: as, vs, F, Fe, ρ, k, h, en, g => by
    obtain ⟨v, ws, G1, G2, rfl, r, h, s1, s2, dj⟩ := h
    obtain ⟨ds, hds, g⟩ := resB_of hG h en g
    exact ⟨d :: ds, ⟨v, ws, _, rfl, r, hds⟩, g⟩
  | .bor d :: as, vs, F, Fe, ρ, k, h, en, g => by
    obtain ⟨v, ws, F', rfl, r, h⟩ := h
    obtain ⟨ds, hds, g⟩ := resB_of hG h en g
    exact ⟨d :: ds, ⟨v, ws, _, rfl, r, hds⟩, g⟩
/-- what a lent slot is -/
def LentOk (K : PySem.W.Frag) (H : Hp) (σ : L2.St) (ρ : Env) (vs : List V) (p : Nat) (e : Nat × Nat × D) : Prop :=
  p ≤ e.2.1 ∧ (∃ v, vs[e.2.1 - p]? = some v ∧ σ[e.1]? = some (some v) ∧ (e.2.2.pu = true → Rp K H e.2.2 v F0)) ∧ (e.2.2.pu = false → ∃ d0, ρ[e.1]? = some (some d0) ∧ d0.pu = false)
theorem lend_t {d : D} (h : d.pu = true) : lend d = some d := by unfold lend; rw [h]
theorem lend_f {d : D} (h : d.pu = false) : lend d = none := by unfold lend; rw [h]
/-- arguments lent to a call of one's own: what they stand in (F1), what is left (F2) -/
theorem takeK_of (hG : ¬ G .stuck) : ∀ {as : List Arg} {vs : List V} {F Fe : Fp} {ρ : Env} {p : Nat} {k : List D → Env → List (Nat × Nat × D) → Res}, ArgR K H σ as vs F → Ens K H ρ σ Fe → Dis Fe F → G (takeK as p ρ k) →
    ∃ ds ρ1 l F1 F2, Rps K H ds vs F1 ∧ Ens K H ρ1 σ F2 ∧ Dis F2 F1 ∧ (∀ a, F1 a → Fe a ∨ F a) ∧ (∀ a, F2 a → Fe a) ∧ Imp ρ ρ1 ∧ (∀ e ∈ l, LentOk K H σ ρ vs p e) ∧ (l.map (·.2.1)).Nodup ∧ G (k ds ρ1 l)
  | [], vs, F, Fe, ρ, p, k, h, en, dj, g => ⟨[], ρ, [], F0, Fe, h, en, fun _ _ z => z, fun _ z => z.elim, fun _ z => z, Imp.refl _, fun _ z => by simp at z, by simp, g⟩
  | .nm i :: as, vs, F, Fe, ρ, p, k, h, en, dj, g => by
    obtain ⟨v, ws, rfl, hv, h⟩ := h
    unfold takeK at g
    obtain ⟨d, hd, g⟩ := getK_of hG g
    have hlt : i < ρ.length := by
      cases q : ρ[i]? with
      | none => rw [q] at hd; cases hd
      | some z => exact (List.getElem?_eq_some_iff.mp q).1
    have im0 : Imp ρ (ρ.set i (lend d)) := fun j d' e p' => by
      by_cases hj : i = j
      · subst hj
        rw [List.getElem?_set_self hlt] at e
        cases pu : d.pu with
        | true => rw [lend_t pu] at e; cases e; rw [pu] at p'; cases p'
        | false => rw [lend_f pu] at e; cases e
      · rw [List.getElem?_set_ne hj] at e; exact ⟨d', e, p'⟩
    obtain ⟨v', G1, G2, hv', r, en', s1, s2, d12⟩ := Ens.take _ _ _ _ _ en hd
    rw [hv] at hv'; cases hv'
    have step : ∀ (Fa Fb : Fp), Ens K H (ρ.set i (lend d)) σ Fb → (∀ a, Fb a → Fe a) → Rp K H d v Fa → (∀ a, Fa a → Fe a) → Dis Fa Fb → (d.pu = true → Rp K H d v F0) → ∃ ds ρ1 l F1 F2, Rps K H ds (v :: ws) F1 ∧ Ens K H ρ1 σ F2 ∧ Dis F2 F1 ∧ (∀ a, F1 a → Fe a ∨ F a) ∧ (∀ a, F2 a → Fe a) ∧ Imp ρ ρ1 ∧ (∀ e ∈ l, LentOk K H σ ρ (v :: ws) p e) ∧ (l.map (·.2.1)).Nodup ∧ G (k ds ρ1 l) := fun Fa Fb enb sb ra sa dab rp0 => by
      obtain ⟨ds, ρ1, l, F1, F2, hds, en1, dj1, t1, t2, im, lo, nd, g⟩ := takeK_of hG h enb (fun a z q => dj a (sb a z) q) g
      refine ⟨d :: ds, ρ1, (i, p, d) :: l, fun a => Fa a ∨ F1 a, F2, ⟨v, ws, Fa, F1, rfl, ra, hds, fun _ z => .inl z, fun _ z => .inr z, fun a z q => ?_⟩, en1, fun a z q => ?_, fun a z => ?_, fun a z => sb a (t2 a z), im0.trans im, fun e he => ?_, ?_, g⟩
      · rcases t1 a q with q | q
        · exact dab a z q
        · exact dj a (sa a z) q
      · rcases q with q | q
        · exact dab a q (t2 a z)
        · exact dj1 a z q
      · rcases z with z | z
        · exact .inl (sa a z)
        · exact (t1 a z).imp (sb a) id
      · rcases List.mem_cons.mp he with rfl | he
        · exact ⟨Nat.le_refl _, ⟨v, by simp, hv, rp0⟩, fun z => ⟨d, hd, z⟩⟩
        · obtain ⟨h1, ⟨w, h2, h3⟩, h4⟩ := lo e he
          refine ⟨by omega, ⟨w, ?_, h3⟩, fun z => ?_⟩
          · have : e.2.1 - p = (e.2.1 - (p + 1)) + 1 := by omega
            rw [this, List.getElem?_cons_succ]
            exact h2
          · obtain ⟨d0, e0, p0⟩ := h4 z
            exact im0 _ d0 e0 p0
      · rw [List.map_cons, List.nodup_cons]
        refine ⟨fun hm => ?_, nd⟩
        obtain ⟨e, he, ee⟩ := List.mem_map.mp hm
        have := (lo e he).1
        have ee' : e.2.1 = p := ee
        omega
    cases pu : d.pu with
    | true =>
      have e0 : ρ.set i (lend d) = ρ := by rw [lend_t pu]; exact set_same _ _ _ hd
      exact step F0 Fe (by rw [e0]; exact en) (fun _ z => z) (Rp.pure _ _ _ pu r) (fun _ z => z.elim) (fun _ z => z.elim) fun _ => Rp.pure _ _ _ pu r
    | false =>
      exact step G1 G2 (by rw [lend_f pu]; exact en') s2 r s1 d12 fun z => by rw [pu] at z; cases z
  | .own d :: as, vs, F, Fe, ρ, p, k, h, en, dj, g => by
    obtain ⟨v, ws, G1, G2, rfl, r, h, s1, s2, d12⟩ := h
    obtain ⟨ds, ρ1, l, F1, F2, hds, en1, dj1, t1, t2, im, lo, nd, g⟩ := takeK_of hG h en (fun a z q => dj a z (s2 a q)) g
    refine ⟨d :: ds, ρ1, l, fun a => G1 a ∨ F1 a, F2, ⟨v, ws, G1, F1, rfl, r, hds, fun _ z => .inl z, fun _ z => .inr z, fun a z q => ?_⟩, en1, fun a z q => ?_, fun a z => ?_, t2, im, fun e he => ?_, nd, g⟩
    · rcases t1 a q with q | q
      · exact dj a q (s1 a z)
      · exact d12 a z q
    · rcases q with q | q
      · exact dj a (t2 a z) (s1 a q)
      · exact dj1 a z q
    · rcases z with z | z
      · exact .inr (s1 a z)
      · exact (t1 a z).imp id (s2 a)
    · obtain ⟨h1, ⟨w, h2, h3⟩, h4⟩ := lo e he
      refine ⟨by omega, ⟨w, ?_, h3⟩, h4⟩
      have : e.2.1 - p = (e.2.1 - (p + 1)) + 1 := by omega
      rw [this, List.getElem?_cons_succ]
      exact h2
  | .bor d :: as, vs, F, Fe, ρ, p, k, h, en, dj, g => by
    obtain ⟨v, ws, F', rfl, r, h⟩ := h
    unfold takeK at g
    obtain ⟨pu, g⟩ := puK_of hG g
    obtain ⟨ds, ρ1, l, F1, F2, hds, en1, dj1, t1, t2, im, lo, nd, g⟩ := takeK_of hG h en dj g
    refine ⟨d :: ds, ρ1, l, F1, F2, ⟨v, ws, F0, F1, rfl, Rp.pure _ _ _ pu r, hds, fun _ z => z.elim, fun _ z => z, fun _ z => z.elim⟩, en1, dj1, t1, t2, im, fun e he => ?_, nd, g⟩
    obtain ⟨h1, ⟨w, h2, h3⟩, h4⟩ := lo e he
    refine ⟨by omega, ⟨w, ?_, h3⟩, h4⟩
    have : e.2.1 - p = (e.2.1 - (p + 1)) + 1 := by omega
    rw [this, List.getElem?_cons_succ]
    exact h2
/-- what comes back goes to the slots that lent it -/
theorem back_of {vs : List V} {fin : Env} : ∀ {l : List (Nat × Nat × D)} {fin' ρ : Env} {F2 Ff : Fp}, (∀ e ∈ l, fin'[e.2.1]? = fin[e.2.1]?) → (l.map (·.2.1)).Nodup → Ens K H' fin' (vs.map some) Ff → Ens K H' ρ σ F2 → Dis F2 Ff →
    (∀ e ∈ l, ∃ v, vs[e.2.1]? = some v ∧ σ[e.1]? = some (some v) ∧ (e.2.2.pu = true → Rp K H' e.2.2 v F0)) →
    Ens K H' (back l fin ρ) σ (fun a => F2 a ∨ Ff a) ∧ ∀ (j : Nat) d, (back l fin ρ)[j]? = some (some d) → d.pu = false → ρ[j]? = some (some d) ∨ ∃ e ∈ l, e.1 = j ∧ e.2.2.pu = false
  | [], fin', ρ, F2, Ff, ag, nd, ef, en, dj, lo => ⟨Ens.mono _ _ _ _ (fun _ z => .inl z) en, fun j d e _ => .inl e⟩
  | (i, q, d) :: l, fin', ρ, F2, Ff, ag, nd, ef, en, dj, lo => by
    rw [List.map_cons, List.nodup_cons] at nd
    obtain ⟨v, hv, hσ, hp⟩ := lo _ List.mem_cons_self
    replace hv : vs[q]? = some v := hv
    replace hσ : σ[i]? = some (some v) := hσ
    have set_imp : ∀ {o : Option D} (j : Nat) d', (∀ d2, o = some d2 → d2.pu = false → d.pu = false) → (ρ.set i o)[j]? = some (some d') → d'.pu = false → ρ[j]? = some (some d') ∨ (i = j ∧ d.pu = false) := fun {o} j d' ho e p' => by
      by_cases hj : i = j
      · subst hj
        rw [List.getElem?_set] at e
        rw [if_pos rfl] at e
        split at e
        · exact .inr ⟨rfl, ho d' (by injection e) p'⟩
        · cases e
      · rw [List.getElem?_set_ne hj] at e; exact .inl e
    have go : ∀ (o : Option D) (fin2 : Env) (Fb Fg : Fp), unlend d fin[q]? = o → (∀ d2, o = some d2 → d2.pu = false → d.pu = false) → (∀ e ∈ l, fin2[e.2.1]? = fin[e.2.1]?) → Ens K H' fin2 (vs.map some) Fg → Ens K H' (ρ.set i o) σ Fb → Dis Fb Fg → (∀ a, Fb a ∨ Fg a → F2 a ∨ Ff a) →
        Ens K H' (back ((i, q, d) :: l) fin ρ) σ (fun a => F2 a ∨ Ff a) ∧ ∀ (j : Nat) d', (back ((i, q, d) :: l) fin ρ)[j]? = some (some d') → d'.pu = false → ρ[j]? = some (some d') ∨ ∃ e ∈ (i, q, d) :: l, e.1 = j ∧ e.2.2.pu = false := fun o fin2 Fb Fg ho hpu ag2 ef2 en2 dj2 sub => by
      obtain ⟨r1, r2⟩ := back_of (fin := fin) ag2 nd.2 ef2 en2 dj2 fun e he => lo e (List.mem_cons_of_mem _ he)
      have eq : back ((i, q, d) :: l) fin ρ = back l fin (ρ.set i o) := by rw [← ho]; rfl
      rw [eq]
      refine ⟨Ens.mono _ _ _ _ sub r1, fun j d' e p' => ?_⟩
      rcases r2 j d' e p' with z | ⟨e', he, z⟩
      · rcases set_imp j d' hpu z p' with y | ⟨y1, y2⟩
        · exact .inl y
        · exact .inr ⟨_, List.mem_cons_self, y1, y2⟩
      · exact .inr ⟨e', List.mem_cons_of_mem _ he, z⟩
    have agl : ∀ e ∈ l, fin'[e.2.1]? = fin[e.2.1]? := fun e he => ag e (List.mem_cons_of_mem _ he)
    have ag0 : fin'[q]? = fin[q]? := ag _ List.mem_cons_self
    cases pu : d.pu with
    | true =>
      refine go (some d) fin' F2 Ff (by unfold unlend; rw [pu]) (fun d2 e p => by cases e; exact p) agl ef ?_ dj fun _ z => z
      have := Ens.put _ _ _ F0 i d v en (hp pu) fun _ _ z => z
      rw [set_same σ i _ hσ] at this
      exact Ens.mono _ _ _ _ (fun a z => z.elim id fun z => z.elim) this
    | false =>
      have un : unlend d fin[q]? = (match fin[q]? with | some o' => o' | none => none) := by unfold unlend; rw [pu] <;> cases fin[q]? <;> rfl
      cases hq : fin[q]? with
      | none =>
        exact go none fin' F2 Ff (by rw [un, hq]) (fun d2 e => by cases e) agl ef (Ens.forget _ _ _ i en) dj fun _ z => z
      | some o' =>
        cases o' with
        | none => exact go none fin' F2 Ff (by rw [un, hq]) (fun d2 e => by cases e) agl ef (Ens.forget _ _ _ i en) dj fun _ z => z
        | some d' =>
          obtain ⟨v', E1, E2, hv', rr, ef2, s1, s2, d12⟩ := Ens.take _ _ _ q d' ef (by rw [ag0, hq])
          rw [List.getElem?_map, hv] at hv'
          cases hv'
          refine go (some d') (fin'.set q none) (fun a => F2 a ∨ E1 a) E2 (by rw [un, hq]) (fun _ _ _ => pu) (fun e he => ?_) ef2 (Ens.back (Ens.forget _ _ _ i en) hσ rr fun a z w => dj a z (s1 a w)) (fun a z w => ?_) fun a z => ?_
          · have : q ≠ e.2.1 := fun z => nd.1 (List.mem_map.mpr ⟨e, he, z.symm⟩)
            rw [List.getElem?_set_ne this]
            exact agl e he
          · rcases z with z | z
            · exact dj a z (s2 a w)
            · exact d12 a z w
          · rcases z with (z | z) | z
            · exact .inl z
            · exact .inr (s1 a z)
            · exact .inr (s2 a z)
end
section
variable {X : Cx} {C : Cd} {sc : Scope} {cx : CXT} {er : Er} {EX : XK} {G : Res → Prop} {A0 : Fp} {H0 : Hp} {R : Fns} (S : Snd R) (o : Okx X C sc cx er EX G A0 H0)
include S o
/-! ### displays -/
theorem e_tuple (es : List Expr) (n : Nat) (p : Pos) : PE X (.Tuple es n p) (RdE X.K G A0 H0 false false (fun ρ k => R.A C sc es ρ fun as ρ1 => ckK (decide (as.length ≤ 1000)) (resP as ρ1 fun ds => pusK ds (k (.tup ds) ρ1)))) := by
  refine PE.imp (pe_tup (S.A o es)) fun σ H Q ⟨ρ, k, F, k0, f0, en, g, q⟩ => ?_
  refine ⟨ρ, _, F, k0, f0, en, g, fun as ρ1 vs H1 Fe Fv c1 fr dj tr ar g1 => ?_⟩
  obtain ⟨hb, g1⟩ := ckK_of o.hG g1
  obtain ⟨ds, hds, g1⟩ := resP_of o.hG ar c1.en g1
  obtain ⟨pu, g1⟩ := pusK_of o.hG g1
  refine ⟨by rw [ar.length, sizeLine_eq]; have := of_decide_eq_true hb; omega, fun a ha => ?_⟩
  have kp : Keep F0 H1 (upd H1 a (.tup vs)) := Keep.new ha
  exact q (.tup ds) ρ1 (.ref a) _ Fe (c1.grow kp) (.inr ⟨Fv, fr, dj, ⟨a, vs, rfl, SqT.of upd_same, pu, Rps.stay kp _ _ _ (fun _ _ z => z) hds⟩, fun x h e => tr x h (kp.g x e)⟩) (fun z => nomatch z) g1
theorem e_list (es : List Expr) (p : Pos) : PE X (.List es p) (RdE X.K G A0 H0 false false (fun ρ k => R.A C sc es ρ fun as ρ1 => ckK (decide (as.length ≤ 1000)) (resP as ρ1 fun ds => k (.lst ds) ρ1))) := by
  refine PE.imp (pe_lst (S.A o es)) fun σ H Q ⟨ρ, k, F, k0, f0, en, g, q⟩ => ?_
  refine ⟨ρ, _, F, k0, f0, en, g, fun as ρ1 vs H1 Fe Fv c1 fr dj tr ar g1 => ?_⟩
  obtain ⟨hb, g1⟩ := ckK_of o.hG g1
  obtain ⟨ds, hds, g1⟩ := resP_of o.hG ar c1.en g1
  refine ⟨by rw [ar.length, sizeLine_eq]; have := of_decide_eq_true hb; omega, fun a ha => ?_⟩
  have kp : Keep F0 H1 (upd H1 a (.lst vs)) := Keep.new ha
  have na : ∀ x, Fv x → x ≠ a := fun x h e => tr x h (by rw [e]; exact ha)
  refine q (.lst ds) ρ1 (.ref a) _ Fe (c1.grow kp) (.inr ⟨fun x => Fv x ∨ x = a, fun x h => ?_, fun x h g => ?_, ⟨a, vs, rfl, upd_same, .inr rfl, ?_⟩, fun x h e => ?_⟩) (fun z => nomatch z) g1
  · rcases h with h | h
    · exact fr x h
    · rw [h]; exact .inr (c1.kp.g a ha)
  · rcases g with g | g
    · exact dj x h g
    · rw [g] at h; exact c1.tr a h ha
  · exact Rps.mono _ _ _ _ (fun x h => ⟨.inl h, na x h⟩) (Rps.stay kp _ _ _ (fun _ _ z => z) hds)
  · rcases h with h | h
    · exact tr x h (kp.g x e)
    · rw [h, upd_same] at e; cases e
/-! ### argument lists -/
omit S in
theorem a_stuck {es : List Expr} : PA X es (RdA X.K G A0 H0 (fun _ _ => .stuck)) := ⟨fun pos pins s σ H Q I ⟨ρ, k, F, k0, f0, en, g, q⟩ => absurd g o.hG⟩
omit o in
/-- the first argument is kept while the others come -/
theorem a_two {r : List Expr} {σ : L2.St} {H H1 : Hp} {Q : List V → Hp → Prop} {ρ ρ1 : Env} {k : List Arg → Env → Res} {F Fe : Fp} {d : D} {v : V} (k0 : Keep A0 H0 H) (f0 : Fr A0 H0 F) (c1 : Ch X.K σ F H ρ Fe H1 ρ1) (ow : ∃ Fv, OwnV X.K F H Fe d v H1 Fv)
    (q : ∀ as ρ' vs H' Fe Fv, Ch X.K σ F H ρ Fe H' ρ' → Fr F H Fv → Dis Fe Fv → (∀ a, Fv a → H' a ≠ none) → ArgR X.K H' σ as vs Fv → G (k as ρ') → Q vs H')
    (g : G (R.A C sc r ρ1 fun as ρ2 => k (.own d :: as) ρ2)) : RdA X.K G A0 H0 (R.A C sc r) σ H1 (fun xs H2 => Q (v :: xs) H2) := by
  obtain ⟨Fv, ow⟩ := ow
  refine ⟨ρ1, _, Fe, c1.keep k0 f0, c1.from k0 f0, c1.en, g, fun as ρ2 vs H2 Fe2 Fv2 c2 fr2 dj2 tr2 ar2 g2 => ?_⟩
  have ow2 := ow.held c2
  refine q (.own d :: as) ρ2 (v :: vs) H2 Fe2 (fun a => Fv a ∨ Fv2 a) (c1.trans c2) (fun x h => ?_) (fun x h g => ?_) (fun x h => ?_) ⟨v, vs, Fv, Fv2, rfl, ow2.rp, ar2, fun _ z => .inl z, fun _ z => .inr z, fun x h g => ?_⟩ g2
  · exact h.elim (ow.fr x) (c1.fr.trans c1.kp fr2 x)
  · exact g.elim (ow2.dj x h) (dj2 x h)
  · exact h.elim (ow2.tr x) (tr2 x)
  · rcases fr2 x g with z | z
    · exact ow.dj x z h
    · exact ow.tr x h z
theorem a_other (e : Expr) (r : List Expr) (hs : ∀ env, starEach (e :: r) env = (false, eval e env) :: starEach r env) : PA X (e :: r) (RdA X.K G A0 H0 (fun ρ k => R.E C sc e ρ fun d ρ1 => argRest R C sc e r k d ρ1)) := by
  by_cases hp : isPath e = true
  · cases r with
    | nil =>
      refine PA.imp (pa_cons (S.E o e) pa_nil (hs _)) fun σ H Q ⟨ρ, k, F, k0, f0, en, g, q⟩ => ?_
      refine ⟨ρ, _, F, k0, f0, en, g, fun d ρ1 v H1 Fe c1 v1 _ g1 => ?_⟩
      unfold argRest at g1
      rw [if_pos hp] at g1
      obtain ⟨F', hv⟩ := v1.any
      exact q [.bor d] ρ1 [v] H1 Fe F0 c1 (fun _ z => z.elim) (fun _ _ z => z) (fun _ z => z.elim) ⟨v, [], F', rfl, hv, rfl⟩ g1
    | cons b r' =>
      refine PA.imp (pa_cons (S.E o e) (S.A o (b :: r')) (hs _)) fun σ H Q ⟨ρ, k, F, k0, f0, en, g, q⟩ => ?_
      refine ⟨ρ, _, F, k0, f0, en, g, fun d ρ1 v H1 Fe c1 v1 _ g1 => ?_⟩
      unfold argRest at g1
      rw [if_pos hp] at g1
      obtain ⟨p, g1⟩ := puK_of o.hG g1
      exact a_two S k0 f0 c1 (v1.own fun _ => p) q g1
  · refine PA.imp (pa_cons (S.E o e) (S.A o r) (hs _)) fun σ H Q ⟨ρ, k, F, k0, f0, en, g, q⟩ => ?_
    refine ⟨ρ, _, F, k0, f0, en, g, fun d ρ1 v H1 Fe c1 v1 _ g1 => ?_⟩
    unfold argRest at g1
    rw [if_neg hp] at g1
    exact a_two S k0 f0 c1 (v1.own fun z => absurd z hp) q g1
theorem a_step (es : List Expr) : PA X es (RdA X.K G A0 H0 (stepA R C sc es)) := by
  match es with
  | [] =>
    refine PA.imp pa_nil fun σ H Q ⟨ρ, k, F, k0, f0, en, g, q⟩ => ?_
    exact q [] ρ [] H _ F0 (Ch.refl en) (fun _ z => z.elim) (fun _ _ z => z) (fun _ z => z.elim) rfl g
  | e :: r =>
    cases e with
    | Starred a b => exact a_stuck o
    | Name x p =>
      cases hs : slotOf C sc x with
      | some i =>
        obtain ⟨h1, h2, h3, h4⟩ := o.toCok.visx hs
        refine PA.imp (pa_cons (pe_var (i := i) h1 h2 h3 h4) (S.A o r) rfl) fun σ H Q ⟨ρ, k, F, k0, f0, en, g, q⟩ => ?_
        dsimp only [stepA] at g
        rw [hs] at g
        obtain ⟨d, hd, g⟩ := getK_of o.hG g
        have c := Ch.refl en
        obtain ⟨v, hv, _⟩ := Ens.get _ _ _ _ _ c.en hd
        refine ⟨v, hv, ρ, _, F, k0, f0, en, g, fun as ρ1 vs H1 Fe Fv c1 fr1 dj1 tr1 ar1 g1 => ?_⟩
        exact q (.nm i :: as) ρ1 (v :: vs) H1 Fe Fv c1 fr1 dj1 tr1 ⟨v, vs, rfl, hv, ar1⟩ g1
      | none =>
        refine PA.imp (pa_cons (S.E o (.Name x p)) (S.A o r) rfl) fun σ H Q ⟨ρ, k, F, k0, f0, en, g, q⟩ => ?_
        dsimp only [stepA] at g
        rw [hs] at g
        refine ⟨ρ, _, F, k0, f0, en, g, fun d ρ1 v H1 Fe c1 v1 _ g1 => ?_⟩
        obtain ⟨pu, g1⟩ := puK_of o.hG g1
        exact a_two S k0 f0 c1 (v1.own fun _ => pu) q g1
    | _ => exact a_other S o _ r (fun _ => rfl)

/-! ### a call of one's own -/
omit S in
theorem call_core {f : Str} {n : Nat} {σ : L2.St} {H H1 : Hp} {Q : VK} {ρ ρ1 : Env} {k : D → Env → Res} {F Fe Fv : Fp} {as : List Arg} {vs : List V} (k0 : Keep A0 H0 H) (f0 : Fr A0 H0 F) (c1 : Ch X.K σ F H ρ Fe H1 ρ1) (fr : Fr F H Fv) (dj : Dis Fe Fv)
    (ar : ArgR X.K H1 σ as vs Fv) (q : ∀ d ρ' v H' Fe, Ch X.K σ F H ρ Fe H' ρ' → Val2 X.K false F H Fe d v H' → (false = true → H' = H ∧ ρ' = ρ) → G (k d ρ') → Q v H') (g1 : G (ckK (decide (as.length = n)) (callK C f as ρ1 k))) :
    SpD X.K er n (C.call f) vs H1 Q EX := by
  obtain ⟨hb, g1⟩ := ckK_of o.hG g1
  obtain ⟨ds, ρ2, l, F1', F2, hds, en2, dj2, s1, s2, im2, lo, nd, g2⟩ := takeK_of o.hG ar c1.en dj g1
  refine ⟨by rw [ar.length]; exact of_decide_eq_true hb, ds, F1', hds, ?_⟩
  have fr1 : Fr F H F1' := fun x h => (s1 x h).elim (c1.fr x) (fr x)
  unfold RGood
  cases hc : C.call f ds with
  | ret d fin =>
    rw [hc] at g2
    intro v H' Fw Ff kp fw ff djf rp enf
    have kp' : Keep F H H' := c1.kp.trans kp fr1
    have en3 : Ens X.K H' ρ2 σ F2 := Ens.stay kp _ _ _ (fun a h g => dj2 a h g) en2
    have tr2 : ∀ a, F2 a → H1 a ≠ none := fun a h => c1.tr a (s2 a h)
    have djf2 : Dis F2 Ff := fun a h g => (ff a g).elim (fun z => dj2 a h z) fun z => tr2 a h z
    have djw2 : Dis F2 Fw := fun a h g => (fw a g).elim (fun z => dj2 a h z) fun z => tr2 a h z
    obtain ⟨en4, bk⟩ := back_of (vs := vs) (fin := fin) (l := l) (fun _ _ => rfl) nd enf en3 djf2 fun e he => by
      obtain ⟨_, ⟨w, h2, h3, h4⟩, _⟩ := lo e he
      exact ⟨w, h2, h3, fun p => Rp.stay kp _ _ _ (fun _ z => z.elim) (h4 p)⟩
    have frx : ∀ {Fz : Fp}, Fr F1' H1 Fz → Fr F H Fz := fun {Fz} h x y => (h x y).elim (fr1 x) fun z => .inr (c1.kp.g x z)
    have im3 : Imp ρ (back l fin ρ2) := fun j d' e pu => by
      rcases bk j d' e pu with z | ⟨e', he, hj, hp⟩
      · obtain ⟨d1, e1, p1⟩ := im2 j d' z pu
        exact c1.im j d1 e1 p1
      · obtain ⟨_, _, h4⟩ := lo e' he
        obtain ⟨d1, e1, p1⟩ := h4 hp
        rw [hj] at e1
        exact c1.im j d1 e1 p1
    refine q d (back l fin ρ2) v H' _ ⟨kp', im3, fun x h => ?_, Ens.trim _ _ _ en4, fun a h => h.2⟩ (.inr ⟨_, OwnV.of (frx fw) (fun x h g => ?_) rp⟩) (fun z => nomatch z) g2
    · rcases h.1 with h | h
      · exact c1.fr x (s2 x h)
      · exact frx ff x h
    · rcases h.1 with h | h
      · exact djw2 x h g
      · exact djf x h g
  | exc c fs =>
    rw [hc] at g2
    intro cls dx H' kp er'
    refine o.xco c fs ρ2 g2 cls dx H' ((c1.keep k0 f0).trans kp fun x h => ?_) er'
    rcases s1 x h with y | y
    · exact c1.from k0 f0 x y
    · exact f0.trans k0 fr x y
  | stuck => rw [hc] at g2; exact absurd g2 o.hG
theorem e_call (f : Str) (p : Pos) (n : Nat) (args : List Expr) (pos : Pos) (hf : isFn C sc f = some n) (hst : noStar args = true) :
    PE X (.Call (.Name f p) args [] pos) (RdE X.K G A0 H0 false false (callE R C sc f n args)) := by
  obtain ⟨f1, f2, f3⟩ := isFn_of hf
  obtain ⟨n1, n2, n3⟩ := okName_of f2
  obtain ⟨fa, lv, fd, ps, hl, F1, hr, hm, hk, hb⟩ := o.fn f n f3
  cases args with
  | nil =>
    refine PE.imp (pe_call0 F1 hr (o.toCok.glx f1) hm hk hb .nil o.thr n1) fun σ H Q ⟨ρ, k, F, k0, f0, en, g, q⟩ => ?_
    exact call_core o (as := []) (vs := []) (Fv := F0) k0 f0 (Ch.refl en) (fun _ z => z.elim) (fun _ _ z => z) rfl q g
  | cons e es =>
    obtain ⟨h1, h2⟩ := star_cons hst X.env
    refine PE.imp (pe_call F1 hr (o.toCok.glx f1) hm hk hb .nil o.thr (S.A o (e :: es)) n1 h1 (star_any h2 _ _)) fun σ H Q ⟨ρ, k, F, k0, f0, en, g, q⟩ => ?_
    refine ⟨ρ, _, F, k0, f0, en, g, fun as ρ1 vs H1 Fe Fv c1 fr dj tr ar g1 => ?_⟩
    show SpD X.K er n (C.call f) (vs ++ []) H1 Q EX
    rw [List.append_nil]
    exact call_core o k0 f0 c1 fr dj ar q g1
end
end TI
set_option Elab.async false
set_option linter.all false
set_option maxRecDepth 100000
set_option maxHeartbeats 4000000
/-! built-ins, methods, subscripts, tests -/
namespace TI
open PySem PySem.Spec PyProof.Rows L2

theorem base_ok {o : Expr} (h : opG o = true) (m : Str) (env : PySem.Env) (whole : Sem Value) : attributeBase o m env whole = whole := by
  cases o with
  | Call f args kw p =>
    cases f with
    | Name x q =>
      cases args with
      | nil =>
        cases kw with
        | nil => cases h
        | cons _ _ => rfl
      | cons _ _ => rfl
    | _ => rfl
  | _ => rfl
theorem pe_bad {X : Cx} {e : Expr} {t : TE} (h : ∀ σ H Q, t σ H Q → False) : PE X e t := ⟨fun pins s σ H Q I q => (h σ H Q q).elim⟩
theorem pt_bad {X : Cx} {e : Expr} {t : TT} (h : ∀ σ H Q, t σ H Q → False) : PT X e t := ⟨fun pins s σ H Q I q => (h σ H Q q).elim⟩
theorem ps_bad {X : Cx} {e : Stmt} {t : TS} (h : ∀ D σ H, t D σ H → False) : PS X e t := ⟨fun pins s σ H D I q => (h D σ H q).elim⟩
theorem pg_bad {X : Cx} {e : Expr} {t : TG} (h : ∀ v σ H Q, t v σ H Q → False) : PG X e t := ⟨fun pins s σ H v u Q I r q => (h v σ H Q q).elim⟩
theorem as1_of {ds : List D} {d : D} (h : as1 ds = some d) : ds = [d] := by
  unfold as1 at h
  split at h
  · cases h; rfl
  · cases h
section
variable {X : Cx} {C : Cd} {sc : Scope} {cx : CXT} {er : Er} {EX : XK} {G : Res → Prop} {A0 : Fp} {H0 : Hp} {R : Fns} (S : Snd R) (o : Okx X C sc cx er EX G A0 H0)
include S o

/-! ### built-ins -/
theorem e_bi1 (f : Str) (p : Pos) (args : List Expr) (pos : Pos) (fn : D → (D → Res) → Res) (v : Value) (hb : isBi C sc f = true) (hst : noStar args = true) (hv : bootBuiltins f = some v)
    (hc : CallR X v (rB1 G X.K fn)) (hv2 : (∃ id, v = .builtin id) ∨ ∃ T, v = .type T) :
    PE X (.Call (.Name f p) args [] pos) (RdE X.K G A0 H0 false false (fun ρ k => argE R C sc args ρ fun as ρ1 => resB as ρ1 fun ds => oK (as1 ds) fun d => fn d fun r => k r ρ1)) := by
  obtain ⟨f1, f2, f3⟩ := isBi_of hb
  obtain ⟨n1, n2, n3⟩ := okName_of f2
  have hm := o.bi f f3
  cases args with
  | nil => exact e_stuck o
  | cons e es =>
    obtain ⟨h1, h2⟩ := star_cons hst X.env
    have core : PE X (.Call (.Name f p) (e :: es) [] pos) (tCB (rB1 G X.K fn) (RdA X.K G A0 H0 (R.A C sc (e :: es)))) := by
      rcases hv2 with ⟨id, rfl⟩ | ⟨T, rfl⟩
      · exact pe_callB hc (o.toCok.glx f1) hm hv (S.A o (e :: es)) n3 n1 h1 (star_any h2 _ _)
      · exact pe_callTy hc (o.toCok.glx f1) hm hv (S.A o (e :: es)) n3 n1 h1 (star_any h2 _ _)
    refine PE.imp core fun σ H Q ⟨ρ, k, F, k0, f0, en, g, q⟩ => ?_
    refine ⟨ρ, _, F, k0, f0, en, g, fun as ρ1 vs H1 Fe Fv c1 fr dj tr ar g1 => ?_⟩
    obtain ⟨ds, hds, g1⟩ := resB_of o.hG ar c1.en g1
    obtain ⟨d, hd, g1⟩ := oK_of o.hG g1
    cases as1_of hd
    obtain ⟨w, ws, F', rfl, hw, hn⟩ := hds
    cases (show ws = [] from hn)
    exact ⟨d, w, F', _, rfl, hw, g1, vend c1 q⟩
theorem e_bi (f : Str) (p : Pos) (args : List Expr) (pos : Pos) (hb : isBi C sc f = true) (hst : noStar args = true) :
    PE X (.Call (.Name f p) args [] pos) (RdE X.K G A0 H0 false false (fun ρ k => ckK (isB1 f) (argE R C sc args ρ fun as ρ1 => biE f as ρ1 k))) := by
  by_cases h1 : f = "len"
  · subst h1; exact PE.imp (e_bi1 S o _ p args pos dLen _ hb hst rfl (c_len o.hG) (.inl ⟨_, rfl⟩)) fun σ H Q h => h
  by_cases h2 : f = "int"
  · subst h2; exact PE.imp (e_bi1 S o _ p args pos dInt _ hb hst rfl (c_int o.hG) (.inr ⟨_, rfl⟩)) fun σ H Q h => h
  by_cases h3 : f = "str"
  · subst h3; exact PE.imp (e_bi1 S o _ p args pos dStr _ hb hst rfl (c_str o.hG) (.inr ⟨_, rfl⟩)) fun σ H Q h => h
  by_cases h4 : f = "tuple"
  · subst h4; exact PE.imp (e_bi1 S o _ p args pos dTup _ hb hst rfl (c_tuple o.hG) (.inr ⟨_, rfl⟩)) fun σ H Q h => h
  have e : isB1 f = false := by
    unfold isB1
    rw [beq_eq_false_iff_ne.mpr h1, beq_eq_false_iff_ne.mpr h2, beq_eq_false_iff_ne.mpr h3, beq_eq_false_iff_ne.mpr h4]
    rfl
  rw [e]
  exact e_stuck o
theorem e_isi (p : Pos) (args : List Expr) (pos : Pos) (hb : isBi C sc "isinstance" = true) (hst : noStar args = true) :
    PE X (.Call (.Name "isinstance" p) args [] pos) (RdE X.K G A0 H0 false false (isiE R C sc args)) := by
  obtain ⟨f1, f2, f3⟩ := isBi_of hb
  obtain ⟨n1, n2, n3⟩ := okName_of f2
  have hm := o.bi _ f3
  match args, hst with
  | [], _ => exact e_stuck o
  | [a], _ => exact e_stuck o
  | a :: b :: c :: r, _ =>
    refine pe_bad fun σ H Q ⟨ρ, k, F, k0, f0, en, g, q⟩ => ?_
    cases b <;> exact absurd g o.hG
  | [a, b], hst =>
    cases b with
    | Name c pc =>
      cases hc : isBi C sc c with
      | false =>
        refine pe_bad fun σ H Q ⟨ρ, k, F, k0, f0, en, g, q⟩ => ?_
        dsimp only [isiE] at g
        rw [hc] at g
        exact absurd g o.hG
      | true =>
        cases hi : isiCls c with
        | none =>
          refine pe_bad fun σ H Q ⟨ρ, k, F, k0, f0, en, g, q⟩ => ?_
          dsimp only [isiE] at g
          rw [hc, hi] at g
          exact absurd g o.hG
        | some n =>
          obtain ⟨b1, b2⟩ := isiCls_of hi
          obtain ⟨g1, g2, g3⟩ := isBi_of hc
          obtain ⟨m1, m2, m3⟩ := okName_of g2
          obtain ⟨h1, h2⟩ := star_cons hst X.env
          refine PE.imp (pe_callB (c_isi o.hG b2) (o.toCok.glx f1) hm rfl (pa_cons (S.E o a) (pa_cons (pe_bltn (v := .ty n) (o.toCok.glx g1) (o.bi _ g3) b1 rfl m3 m1) pa_nil) h1) n3 n1 h1 (star_any h2 _ _)) fun σ H Q ⟨ρ, k, F, k0, f0, en, g, q⟩ => ?_
          dsimp only [isiE] at g
          rw [hc, hi] at g
          refine ⟨ρ, _, F, k0, f0, en, g, fun d ρ1 v H1 Fe c1 v1 _ g1 => ?_⟩
          obtain ⟨Fx, hx⟩ := v1.any
          exact ⟨d, v, Fx, _, rfl, hx, g1, vend c1 q⟩
    | _ => exact e_stuck o

/-! ### methods -/
theorem all_few {e : Expr} {es : List Expr} {pos : Pos} {env : PySem.Env} (h : noStar (e :: es) = true) (hn : (e :: es).length < 20) :
    ((backTo pos (starEach (e :: es) env)).all (fun x => !x.1) && (backToKw pos (keywordEach [] env)).all (fun x => x.1.isSome)
      && decide ((e :: es).length + ([] : List Keyword).length + (if ([] : List Keyword).isEmpty then 0 else 1) < 30)) = true := by
  rw [star_all h]
  have : decide ((e :: es).length + ([] : List Keyword).length + (if ([] : List Keyword).isEmpty then 0 else 1) < 30) = true := by
    apply decide_eq_true
    show (e :: es).length + 0 + 0 < 30
    omega
  rw [this]
  rfl
theorem e_strM1 (ob : Expr) (m : Str) (args : List Expr) (ap p : Pos) (id : String) (slot : Slot "str" m id) (hty : typeOf (.builtin id) = pure (.type "method_descriptor")) (hm : MtR X id (rStrM G X.K m))
    (hop : opG ob = true) (hl : (ap.endLine == p.line) = true) (hst : noStar args = true) (hne : args ≠ []) (hn : args.length < 20) :
    PE X (.Call (.Attribute ob m ap) args [] p) (RdE X.K G A0 H0 false false (fun ρ k => R.E C sc ob ρ fun d ρ1 => oK (asS [d]) fun x => R.A C sc args ρ1 fun as ρ2 => resB as ρ2 fun ds => strM m x ds fun z => k z ρ2)) := by
  cases args with
  | nil => exact absurd rfl hne
  | cons e es =>
    obtain ⟨h1, h2⟩ := star_cons hst X.env
    refine PE.imp (pe_bm PySem.F.plainAttrs_str slot hty hm (S.E o ob) (S.A o (e :: es)) (base_ok hop _ _ _) (all_few S o hst hn) hl h1 (star_any h2 _ _)) fun σ H Q ⟨ρ, k, F, k0, f0, en, g, q⟩ => ?_
    refine ⟨ρ, _, F, k0, f0, en, g, fun d ρ1 v H1 Fe c1 v1 _ g1 => ?_⟩
    obtain ⟨x, hx, g1⟩ := oK_of o.hG g1
    have hd := asS_of hx
    cases hd
    obtain ⟨Fx, rx⟩ := v1.any
    cases (show v = .str x from rx)
    refine ⟨rfl, ρ1, _, Fe, c1.keep k0 f0, c1.from k0 f0, c1.en, g1, fun as ρ2 vs H2 Fe2 Fv2 c2 fr2 dj2 tr2 ar2 g2 => ?_⟩
    obtain ⟨ds, hds, g2⟩ := resB_of o.hG ar2 c2.en g2
    exact ⟨x, ds, _, rfl, hds, g2, vend (c1.trans c2) q⟩
theorem e_strM (ob : Expr) (m : Str) (args : List Expr) (ap p : Pos) (hop : opG ob = true) (hl : (ap.endLine == p.line) = true) (hst : noStar args = true) (hne : args ≠ []) (hn : args.length < 20) :
    PE X (.Call (.Attribute ob m ap) args [] p) (RdE X.K G A0 H0 false false (strE R C sc ob m args)) := by
  by_cases h1 : m = "join"
  · subst h1; exact e_strM1 S o ob _ args ap p _ PySem.F.slot_str_join PySem.F.type_str_join (m_join o.hG) hop hl hst hne hn
  by_cases h2 : m = "find"
  · subst h2; exact e_strM1 S o ob _ args ap p _ PySem.F.slot_str_find PySem.F.type_str_find (m_find o.hG) hop hl hst hne hn
  by_cases h3 : m = "lstrip"
  · subst h3; exact e_strM1 S o ob _ args ap p _ PySem.F.slot_str_lstrip PySem.F.type_str_lstrip (m_lstrip o.hG) hop hl hst hne hn
  have e : isStrM m = false := by
    unfold isStrM
    rw [beq_eq_false_iff_ne.mpr h1, beq_eq_false_iff_ne.mpr h2, beq_eq_false_iff_ne.mpr h3]
    rfl
  refine pe_bad fun σ H Q ⟨ρ, k, F, k0, f0, en, g, q⟩ => ?_
  unfold strE at g
  rw [e] at g
  exact absurd g o.hG
theorem e_append (x : Str) (xp : Pos) (args : List Expr) (ap p : Pos) (i : Nat) (hs : slotOf C sc x = some i) (hl : (ap.endLine == p.line) = true) (hst : noStar args = true) (hne : args ≠ []) (hn : args.length < 20) :
    PE X (.Call (.Attribute (.Name x xp) "append" ap) args [] p) (RdE X.K G A0 H0 false false (fun ρ k => getK ρ i fun d => (match d with
        | .lst _ => appE R C sc "append" i args ρ k
        | _ => .stuck))) := by
  cases args with
  | nil => exact absurd rfl hne
  | cons e es =>
    obtain ⟨h1, h2⟩ := star_cons hst X.env
    obtain ⟨x1, x2, x3, x4⟩ := o.toCok.visx hs
    refine PE.imp (pe_bm PySem.F.plainAttrs_list PySem.F.slot_list_append PySem.F.type_list_append mt_append (pe_var (i := i) x1 x2 x3 x4) (S.A o (e :: es)) rfl (all_few S o hst hn) hl h1 (star_any h2 _ _)) fun σ H Q ⟨ρ, k, F, k0, f0, en, g, q⟩ => ?_
    obtain ⟨d0, hd0, g⟩ := getK_of o.hG g
    cases d0 with
    | lst zs0 =>
      obtain ⟨v, hv, r⟩ := Ens.get _ _ _ _ _ en hd0
      obtain ⟨a, vs0, rfl, ha, _, _⟩ := r
      refine ⟨_, hv, .inl ⟨rfl, _, .inl (.inl ha)⟩, ρ, _, F, k0, f0, en, g, fun as ρ1 vs H1 Fe Fv c1 fr dj tr ar g1 => ?_⟩
      obtain ⟨ds, hds, g1⟩ := resP_of o.hG ar c1.en g1
      obtain ⟨y, hy, g1⟩ := oK_of o.hG g1
      cases as1_of hy
      obtain ⟨w, ws, G1, G2, rfl, rw_, hn', s1, s2, _⟩ := hds
      cases (show ws = [] from hn')
      obtain ⟨d1, hd1, g1⟩ := getK_of o.hG g1
      cases d1 with
      | lst zs =>
        obtain ⟨hz, g1⟩ := ckK_of o.hG g1
        obtain ⟨v', E1, E2, hv', r', en', t1, t2, d12⟩ := Ens.take _ _ _ _ _ c1.en hd1
        rw [hv] at hv'; cases hv'
        obtain ⟨a', us, e', ha', hE, hus⟩ := r'
        cases e'
        have hlen := Rps.length _ _ _ hus
        have kp : Keep (fun z => z = a) H1 (upd H1 a (.lst (us ++ [w]))) := Keep.set ha' rfl (fun z => z)
        have naF : ¬ Fv a := fun z => dj a (t1 a hE) z
        have na2 : ¬ E2 a := fun z => d12 a hE z
        have rp1 : Rps X.K (upd H1 a (.lst (us ++ [w]))) (zs ++ [y]) (us ++ [w]) (fun b => (E1 b ∨ G1 b) ∧ b ≠ a) := by
          have q1 := Rps.stay kp _ _ _ (fun b hb e => hb.2 e) hus
          have q2 := Rp.stay kp y w G1 (fun b hb e => naF (by rw [← show b = a from e]; exact s1 b hb)) rw_
          refine Rps.mono _ _ _ _ (fun b hb => ?_) (Rps.snoc _ _ _ _ _ _ q1 q2 fun b p q => dj b (t1 b p.1) (s1 b q))
          rcases hb with hb | hb
          · exact ⟨.inl hb.1, hb.2⟩
          · exact ⟨.inr hb, fun e => naF (by rw [← e]; exact s1 b hb)⟩
        have rp : Rp X.K (upd H1 a (.lst (us ++ [w]))) (.lst (zs ++ [y])) (.ref a) (fun b => E1 b ∨ G1 b) := ⟨a, us ++ [w], rfl, upd_same, .inl hE, rp1⟩
        have en2 := Ens.stay kp _ _ _ (fun b hb (e : b = a) => na2 (e ▸ hb)) en'
        have en3 := Ens.back en2 hv rp (fun b p q => q.elim (fun z => d12 b z p) fun z => dj b (t2 b p) (s1 b z))
        refine ⟨a, us, w, rfl, rfl, ha', by rw [hlen]; rw [← szLine_eq]; exact of_decide_eq_true hz, ?_⟩
        refine q .non _ .non _ _ ⟨c1.kp.trans (kp.mono fun b e => (show b = a from e) ▸ t1 a hE) c1.fr, c1.im.trans fun j d' e p' => ?_, fun b hb => ?_, Ens.trim _ _ _ en3, fun b hb => hb.2⟩ (.inr ⟨_, OwnV.pure (Fx := F0) rfl rfl⟩) (fun z => nomatch z) g1
        · by_cases hj : i = j
          · subst hj
            exact ⟨_, hd1, rfl⟩
          · rw [List.getElem?_set_ne hj] at e; exact ⟨d', e, p'⟩
        · rcases hb.1 with hb | hb | hb
          · exact c1.fr b (t2 b hb)
          · exact c1.fr b (t1 b hb)
          · exact fr b (s1 b hb)
      | _ => exact absurd g1 o.hG
    | _ => exact absurd g o.hG
theorem e_meth (ob : Expr) (m : Str) (args : List Expr) (ap p : Pos) (hop : opG ob = true) (hl : (ap.endLine == p.line) = true) (hst : noStar args = true) (hne : args ≠ []) (hn : args.length < 20) :
    PE X (.Call (.Attribute ob m ap) args [] p) (RdE X.K G A0 H0 false false (methE R C sc ob m args)) := by
  by_cases h1 : m = "append"
  · subst h1
    cases ob with
    | Name x xp =>
      cases hs : slotOf C sc x with
      | some i =>
        refine PE.imp (e_append S o x xp args ap p i hs hl hst hne hn) fun σ H Q ⟨ρ, k, F, k0, f0, en, g, q⟩ => ?_
        unfold methE at g
        rw [if_pos rfl] at g
        dsimp only at g
        rw [hs] at g
        exact ⟨ρ, k, F, k0, f0, en, g, q⟩
      | none =>
        refine pe_bad fun σ H Q ⟨ρ, k, F, k0, f0, en, g, q⟩ => ?_
        unfold methE at g
        rw [if_pos rfl] at g
        dsimp only at g
        rw [hs] at g
        exact absurd g o.hG
    | _ => exact e_stuck o
  · refine PE.imp (e_strM S o ob m args ap p hop hl hst hne hn) fun σ H Q ⟨ρ, k, F, k0, f0, en, g, q⟩ => ?_
    unfold methE at g
    rw [if_neg h1] at g
    exact ⟨ρ, k, F, k0, f0, en, g, q⟩
end
end TI
set_option Elab.async false
set_option linter.all false
set_option maxRecDepth 100000
set_option maxHeartbeats 4000000
/-! subscripts, tests -/
namespace TI
open PySem PySem.Spec PyProof.Rows L2


section
variable {K : PySem.W.Frag} {σ : L2.St} {F F1 F2 F3 : Fp} {H H1 H2 H3 : Hp} {ρ ρ1 ρ2 : Env} {d : D} {v : V}
theorem Val2.trans {pth : Bool} (c : Ch K σ F H ρ F1 H1 ρ1) (h : Val2 K pth F1 H1 F2 d v H2) : Val2 K pth F H F2 d v H2 :=
  h.imp id fun ⟨Fv, w⟩ => ⟨Fv, c.fr.trans c.kp w.fr, w.dj, w.rp, w.tr⟩
theorem Val2.wide {pth : Bool} (h : Val2 K pth F H F2 d v H2) : Val2 K true F H F2 d v H2 := h.imp (fun z => ⟨rfl, z.2⟩) id
theorem Val2.tf {pth : Bool} (h : Val2 K pth F H F2 d v H2) (p : d.pu = true) : Val2 K false F H F2 d v H2 := .inr (h.own fun _ => p)
/-- what one was written stays -/
theorem keep_pure {Fx : Fp} (h : Rp K H1 d v Fx) (p : d.pu = true) (c : Ch K σ F1 H1 ρ1 F2 H2 ρ2) : Rp K H2 d v F0 := Rp.stay c.kp _ _ _ (fun _ z => z.elim) (Rp.pure _ _ _ p h)
end
section
variable {X : Cx} {C : Cd} {sc : Scope} {cx : CXT} {er : Er} {EX : XK} {G : Res → Prop} {A0 : Fp} {H0 : Hp} {R : Fns} (S : Snd R) (o : Okx X C sc cx er EX G A0 H0)
include S o
/-! ### subscripts -/
def notSl : Expr → Bool
  | .Slice _ _ _ _ => false
  | _ => true
omit S o in
theorem plain_ix {i : Expr} (h : notSl i = true) : PlainIx i := by
  cases i <;> first
    | exact fun _ _ => rfl
    | cases h
theorem e_ix (b i : Expr) (p : Pos) (hi : notSl i = true) : PE X (.Subscript b i p) (RdE X.K G A0 H0 true false (fun ρ k => R.E C sc b ρ fun d ρ1 => holdK b d i (R.E C sc i ρ1 fun y ρ2 => dIx d y fun z => k z ρ2))) := by
  refine PE.imp (pe_ix (ix_D o.hG) (S.E o b) (S.E o i) (plain_ix hi)) fun σ H Q ⟨ρ, k, F, k0, f0, en, g, q⟩ => ?_
  refine ⟨ρ, _, F, k0, f0, en, g, fun d ρ1 v H1 Fe c1 v1 _ g1 => ?_⟩
  cases hp : (isPath b && !isCalm i) with
  | true =>
    unfold holdK at g1
    rw [hp] at g1
    obtain ⟨p, g1⟩ := puK_of o.hG g1
    obtain ⟨Fv, ow⟩ := v1.own fun _ => p
    refine ⟨ρ1, _, Fe, c1.keep k0 f0, c1.from k0 f0, c1.en, g1, fun d2 ρ2 v2 H2 Fe2 c2 v2' cal2 g2 => ?_⟩
    obtain ⟨Fy, hy⟩ := v2'.any
    exact ⟨d, d2, F0, Fy, _, keep_pure ow.rp p c2, hy, g2, fun r u ru g3 => q r ρ2 u H2 Fe2 (c1.trans c2) (.inl ⟨rfl, Rp.mono _ _ _ _ (fun _ z => z.elim) ru⟩) (fun z => nomatch z) g3⟩
  | false =>
    unfold holdK at g1
    rw [hp] at g1
    refine ⟨ρ1, _, Fe, c1.keep k0 f0, c1.from k0 f0, c1.en, g1, fun d2 ρ2 v2 H2 Fe2 c2 v2' cal2 g2 => ?_⟩
    obtain ⟨Fy, hy⟩ := v2'.any
    rcases v1 with ⟨hb, v1⟩ | ⟨Fv, v1⟩
    · have hc : isCalm i = true := by
        cases e : isCalm i with
        | true => rfl
        | false => rw [hb, e] at hp; cases hp
      obtain ⟨e1, e2⟩ := cal2 hc
      subst e1; subst e2
      refine ⟨d, d2, Fe, Fy, _, v1, hy, g2, fun r u ru g3 => q r ρ2 u H2 Fe c1 (.inl ⟨rfl, ru⟩) (fun z => nomatch z) g3⟩
    · have w := v1.held c2
      exact ⟨d, d2, Fv, Fy, _, w.rp, hy, g2, fun r u ru g3 => q r ρ2 u H2 Fe2 (c1.trans c2) (.inr ⟨Fv, w.fr, w.dj, ru, w.tr⟩) (fun z => nomatch z) g3⟩
theorem e_ixN (x : Str) (xp : Pos) (i : Expr) (p : Pos) (hi : notSl i = true) : PE X (.Subscript (.Name x xp) i p) (RdE X.K G A0 H0 true false (ixN1 R C sc x i)) := by
  cases hs : slotOf C sc x with
  | some j =>
    obtain ⟨x1, x2, x3, x4⟩ := o.toCok.visx hs
    refine PE.imp (pe_ix (ix_D o.hG) (pe_var (i := j) x1 x2 x3 x4) (S.E o i) (plain_ix hi)) fun σ H Q ⟨ρ, k, F, k0, f0, en, g, q⟩ => ?_
    unfold ixN1 at g
    rw [hs] at g
    obtain ⟨d0, hd0, g⟩ := getK_of o.hG g
    obtain ⟨v, hv, r⟩ := Ens.get _ _ _ _ _ en hd0
    refine ⟨v, hv, ρ, _, F, k0, f0, en, g, fun d2 ρ2 v2 H2 Fe2 c2 v2' cal2 g2 => ?_⟩
    obtain ⟨Fy, hy⟩ := v2'.any
    obtain ⟨d1, hd1, g2⟩ := getK_of o.hG g2
    obtain ⟨v', hv', r'⟩ := Ens.get _ _ _ _ _ c2.en hd1
    rw [hv] at hv'; cases hv'
    exact ⟨d1, d2, Fe2, Fy, _, r', hy, g2, fun r u ru g3 => q r ρ2 u H2 Fe2 c2 (.inl ⟨rfl, ru⟩) (fun z => nomatch z) g3⟩
  | none =>
    cases hg : globOf C sc x with
    | kd kvs =>
      obtain ⟨g1, g2, g3⟩ := globOf_of hg (fun z => nomatch z)
      obtain ⟨n1, n2, n3⟩ := okName_of g2
      obtain ⟨a, es, n, hm, D, ks⟩ := o.kd x kvs g3
      refine PE.imp (pe_ix ix_kdict (pe_glob (v := .ref a) (o.toCok.glx g1) hm rfl n1) (S.E o i) (plain_ix hi)) fun σ H Q ⟨ρ, k, F, k0, f0, en, g, q⟩ => ?_
      unfold ixN1 at g
      rw [hs, hg] at g
      refine ⟨ρ, _, F, k0, f0, en, g, fun d2 ρ2 v2 H2 Fe2 c2 v2' cal2 g2 => ?_⟩
      obtain ⟨Fy, hy⟩ := v2'.any
      obtain ⟨z, hz, g2⟩ := oK_of o.hG g2
      have hz' := asS_of hz
      cases hz'
      cases (show v2 = .str z from hy)
      obtain ⟨d, hd, g2⟩ := oK_of (α := TI.D) (o := kdGet kvs z) (k := fun d => k d ρ2) o.hG g2
      obtain ⟨r, hr, hw⟩ := ks z
      rw [show kvs.lookup z = some d from hd] at hw
      obtain ⟨pu, u, v, rfl, ru, rp⟩ := hw
      exact ⟨a, z, v, rfl, rfl, ⟨es, n, u, D.at_, D.lit, hr, ru⟩, q d ρ2 v H2 Fe2 c2 (.inr ⟨_, OwnV.pure (rp H2) pu⟩) (fun z => nomatch z) g2⟩
    | con d =>
      obtain ⟨g1, g2, g3⟩ := globOf_of hg (fun z => nomatch z)
      obtain ⟨n1, n2, n3⟩ := okName_of g2
      obtain ⟨pu, u, v, hm, rv, rp⟩ := o.con x d g3
      refine PE.imp (pe_ix (ix_D o.hG) (pe_glob (o.toCok.glx g1) hm rv n1) (S.E o i) (plain_ix hi)) fun σ H Q ⟨ρ, k, F, k0, f0, en, g, q⟩ => ?_
      unfold ixN1 at g
      rw [hs, hg] at g
      refine ⟨ρ, _, F, k0, f0, en, g, fun d2 ρ2 v2 H2 Fe2 c2 v2' cal2 g2 => ?_⟩
      obtain ⟨Fy, hy⟩ := v2'.any
      exact ⟨d, d2, F0, Fy, _, rp H2, hy, g2, fun r u ru g3 => q r ρ2 u H2 Fe2 c2 (.inl ⟨rfl, Rp.mono _ _ _ _ (fun _ z => z.elim) ru⟩) (fun z => nomatch z) g3⟩
    | _ =>
      refine pe_bad fun σ H Q ⟨ρ, k, F, k0, f0, en, g, q⟩ => ?_
      unfold ixN1 at g
      rw [hs, hg] at g
      exact absurd g o.hG
def RdO (K : PySem.W.Frag) (G : Res → Prop) (A0 : Fp) (H0 : Hp) (f : Env → (Option Int → Env → Res) → Res) : TO := fun σ H Q => ∃ ρ k F, Keep A0 H0 H ∧ Fr A0 H0 F ∧ Ens K H ρ σ F ∧ G (f ρ k) ∧
  ∀ b ρ' H' Fe, Ch K σ F H ρ Fe H' ρ' → G (k b ρ') → Q b H'
theorem o_opt (e : Option Expr) : PO X e (RdO X.K G A0 H0 (optE R C sc e)) := by
  cases e with
  | none => exact ⟨fun pins s σ H Q I ⟨ρ, k, F, k0, f0, en, g, q⟩ => po_none.run pins s σ H Q I (q none ρ H _ (Ch.refl en) g)⟩
  | some e =>
    refine ⟨fun pins s σ H Q I ⟨ρ, k, F, k0, f0, en, g, q⟩ => (po_some (S.E o e)).run pins s σ H Q I ⟨ρ, _, F, k0, f0, en, g, fun d2 ρ2 v2 H2 Fe2 c2 v2' cal2 g2 => ?_⟩⟩
    cases d2 with
    | int i =>
      obtain ⟨Fy, hy⟩ := v2'.any
      cases (show v2 = .int i from hy)
      exact ⟨i, rfl, q (some i) ρ2 H2 Fe2 c2 g2⟩
    | _ => exact absurd g2 o.hG
theorem e_slice (b : Expr) (lo hi : Option Expr) (p p2 : Pos) : PE X (.Subscript b (.Slice lo hi none p2) p) (RdE X.K G A0 H0 false false
    (fun ρ k => R.E C sc b ρ fun d ρ1 => puK d (optE R C sc lo ρ1 fun l ρ2 => optE R C sc hi ρ2 fun h ρ3 => dSl d l h fun z => k z ρ3))) := by
  refine PE.imp (pe_slice (sl_D o.hG) (S.E o b) (o_opt S o lo) (o_opt S o hi)) fun σ H Q ⟨ρ, k, F, k0, f0, en, g, q⟩ => ?_
  refine ⟨ρ, _, F, k0, f0, en, g, fun d ρ1 v H1 Fe c1 v1 _ g1 => ?_⟩
  obtain ⟨p, g1⟩ := puK_of o.hG g1
  obtain ⟨Fv, hv⟩ := v1.any
  refine ⟨ρ1, _, Fe, c1.keep k0 f0, c1.from k0 f0, c1.en, g1, fun l ρ2 H2 Fe2 c2 g2 => ?_⟩
  have c12 := c1.trans c2
  refine ⟨ρ2, _, Fe2, c12.keep k0 f0, c12.from k0 f0, c12.en, g2, fun h ρ3 H3 Fe3 c3 g3 => ?_⟩
  exact ⟨d, F0, _, keep_pure hv p (c2.trans c3), g3, vend (c12.trans c3) q⟩
/-! ### comparisons -/
def RdC (K : PySem.W.Frag) (G : Res → Prop) (A0 : Fp) (H0 : Hp) (f : Env → (Bool → Env → Res) → Res) : TE := fun σ H Q => ∃ ρ k F, Keep A0 H0 H ∧ Fr A0 H0 F ∧ Ens K H ρ σ F ∧ G (f ρ k) ∧
  ∀ b ρ' H' Fe, Ch K σ F H ρ Fe H' ρ' → G (k b ρ') → Q (.bl b) H'
omit S o in
theorem nIn_of {op : CmpOp} (h : nIn op = true) (b : Expr) : behindInMarks op b = false := nobehind b (by rintro rfl; cases h) (by rintro rfl; cases h)
/-- both ways: value, test -/
theorem cmp_rel (a : Expr) (op : CmpOp) (b : Expr) (p : Pos) : (∀ t : TE, (∀ σ H Q, t σ H Q → RdC X.K G A0 H0 (cmpE R C sc a op b) σ H Q) → PE X (.Compare a [op] [b] p) t ∧ PT X (.Compare a [op] [b] p) (tTest t)) := by
  intro t ht
  by_cases hop : nIn op = true
  · have core : ∀ σ H Q, t σ H Q → tOp (rCmpD G X.K op) (RdE X.K G A0 H0 (isPath a) (isCalm a) (R.E C sc a)) (RdE X.K G A0 H0 (isPath b) (isCalm b) (R.E C sc b)) σ H Q := fun σ H Q h => by
      obtain ⟨ρ, k, F, k0, f0, en, g, q⟩ := ht σ H Q h
      have e : cmpE R C sc a op b ρ k = R.E C sc a ρ fun x ρ1 => holdK a x b (R.E C sc b ρ1 fun y ρ2 => cmpD op x y fun c => k c ρ2) := by
        cases op <;> first
          | rfl
          | cases hop
      rw [e] at g
      refine ⟨ρ, _, F, k0, f0, en, g, fun d ρ1 v H1 Fe c1 v1 _ g1 => ?_⟩
      obtain ⟨g1, hh⟩ := Val2.hold (hG := o.hG) (σ := σ) (ρ1 := ρ1) v1 g1
      refine ⟨ρ1, _, Fe, c1.keep k0 f0, c1.from k0 f0, c1.en, g1, fun d2 ρ2 v2 H2 Fe2 c2 v2' cal2 g2 => ?_⟩
      obtain ⟨Fx, hx⟩ := kept2 hh c2 cal2
      obtain ⟨Fy, hy⟩ := v2'.any
      exact ⟨d, d2, Fx, Fy, _, hx, hy, g2, fun b g3 => q b ρ2 H2 Fe2 (c1.trans c2) g3⟩
    exact ⟨PE.imp (pe_cmpR (op_cmpD o.hG op) (S.E o a) (S.E o b) (nIn_of hop b)) core, PT.imp (pt_cmpR (op_cmpD o.hG op) (S.E o a) (S.E o b) (nIn_of hop b)) fun σ H Q h => core σ H _ h⟩
  · have hop2 : op = .In ∨ op = .NotIn := by
      cases op <;> first
        | exact .inl rfl
        | exact .inr rfl
        | exact absurd rfl hop
    cases hk : kdOf C sc b with
    | none =>
      have bad : ∀ σ H Q, t σ H Q → False := fun σ H Q h => by
        obtain ⟨ρ, k, F, k0, f0, en, g, q⟩ := ht σ H Q h
        rcases hop2 with rfl | rfl
        all_goals
          dsimp only [cmpE] at g
          rw [hk] at g
          exact absurd g o.hG
      exact ⟨pe_bad bad, pt_bad fun σ H Q h => bad σ H _ h⟩
    | some kvs =>
      obtain ⟨y, yp, rfl, hs, hg⟩ : ∃ y yp, b = .Name y yp ∧ slotOf C sc y = none ∧ globOf C sc y = .kd kvs := by
        unfold kdOf at hk
        split at hk
        · split at hk
          · split at hk
            · cases hk; exact ⟨_, _, rfl, by assumption, by assumption⟩
            · cases hk
          · cases hk
        · cases hk
      obtain ⟨g1, g2, g3⟩ := globOf_of hg (fun z => nomatch z)
      obtain ⟨n1, n2, n3⟩ := okName_of g2
      obtain ⟨a', es, n, hm, D, ks⟩ := o.kd y kvs g3
      have pb := pe_glob (X := X) (v := .ref a') (pos := yp) (o.toCok.glx g1) hm rfl n1
      have look : ∀ z, ∃ r : Option Value, PySem.W.nsIn X.K a' z = some r ∧ r.isSome = (kdGet kvs z).isSome := fun z => by
        obtain ⟨r, hr, hw⟩ := ks z
        refine ⟨r, hr, ?_⟩
        unfold kdGet
        cases hl : kvs.lookup z with
        | none => rw [hl] at hw; rw [show r = none from hw]; rfl
        | some d =>
          rw [hl] at hw
          obtain ⟨_, u, _, hu, _⟩ := hw
          rw [hu]; rfl
      rcases hop2 with rfl | rfl
      · have core : ∀ σ H Q, t σ H Q → tOp (fun x y H Q => ∃ (z : Str) (r : Option Value), x = .str z ∧ y = .ref a' ∧ PySem.W.nsIn X.K a' z = some r ∧ Q (.bl r.isSome) H) (RdE X.K G A0 H0 (isPath a) (isCalm a) (R.E C sc a)) (tC (.ref a')) σ H Q := fun σ H Q h => by
          obtain ⟨ρ, k, F, k0, f0, en, g, q⟩ := ht σ H Q h
          dsimp only [cmpE] at g
          rw [hk] at g
          refine ⟨ρ, _, F, k0, f0, en, g, fun d2 ρ2 v2 H2 Fe2 c2 v2' cal2 g4 => ?_⟩
          obtain ⟨Fy, hy⟩ := v2'.any
          obtain ⟨z, hz, g4⟩ := oK_of o.hG g4
          have hz' := asS_of hz
          cases hz'
          cases (show v2 = .str z from hy)
          obtain ⟨r, hr, he⟩ := look z
          exact ⟨z, r, rfl, rfl, hr, by rw [he]; exact q _ ρ2 H2 Fe2 c2 g4⟩
        exact ⟨PE.imp (pe_cmpR (op_in_kd D) (S.E o a) pb rfl) core, PT.imp (pt_cmpR (op_in_kd D) (S.E o a) pb rfl) fun σ H Q h => core σ H _ h⟩
      · have core : ∀ σ H Q, t σ H Q → tOp (fun x y H Q => ∃ (z : Str) (r : Option Value), x = .str z ∧ y = .ref a' ∧ PySem.W.nsIn X.K a' z = some r ∧ Q (.bl (!r.isSome)) H) (RdE X.K G A0 H0 (isPath a) (isCalm a) (R.E C sc a)) (tC (.ref a')) σ H Q := fun σ H Q h => by
          obtain ⟨ρ, k, F, k0, f0, en, g, q⟩ := ht σ H Q h
          dsimp only [cmpE] at g
          rw [hk] at g
          refine ⟨ρ, _, F, k0, f0, en, g, fun d2 ρ2 v2 H2 Fe2 c2 v2' cal2 g4 => ?_⟩
          obtain ⟨Fy, hy⟩ := v2'.any
          obtain ⟨z, hz, g4⟩ := oK_of o.hG g4
          have hz' := asS_of hz
          cases hz'
          cases (show v2 = .str z from hy)
          obtain ⟨r, hr, he⟩ := look z
          exact ⟨z, r, rfl, rfl, hr, by rw [he]; exact q _ ρ2 H2 Fe2 c2 g4⟩
        exact ⟨PE.imp (pe_cmpR (op_notIn_kd D) (S.E o a) pb rfl) core, PT.imp (pt_cmpR (op_notIn_kd D) (S.E o a) pb rfl) fun σ H Q h => core σ H _ h⟩
theorem e_cmp (a : Expr) (op : CmpOp) (b : Expr) (p : Pos) : PE X (.Compare a [op] [b] p) (RdE X.K G A0 H0 false false (fun ρ k => cmpE R C sc a op b ρ fun c ρ1 => k (.bl c) ρ1)) :=
  (cmp_rel S o a op b p _ fun σ H Q ⟨ρ, k, F, k0, f0, en, g, q⟩ => ⟨ρ, _, F, k0, f0, en, g, fun b ρ' H' Fe c g1 => q (.bl b) ρ' (.bl b) H' Fe c (.inr ⟨_, OwnV.pure (Fx := F0) rfl rfl⟩) (fun z => nomatch z) g1⟩).1
theorem t_cmp (a : Expr) (op : CmpOp) (b : Expr) (p : Pos) : PT X (.Compare a [op] [b] p) (RdT X.K G A0 H0 (cmpE R C sc a op b)) :=
  PT.imp (cmp_rel S o a op b p _ fun _ _ _ h => h).2 fun σ H Q ⟨ρ, k, F, k0, f0, en, g, q⟩ => ⟨ρ, k, F, k0, f0, en, g, fun b ρ' H' Fe c g1 => ⟨b, rfl, q b ρ' H' Fe c g1⟩⟩
end
end TI
set_option Elab.async false
set_option linter.all false
set_option maxRecDepth 100000
set_option maxHeartbeats 4000000
/-! and, or, not; texts behind a written one -/
namespace TI
open PySem PySem.Spec PyProof.Rows L2



section
variable {X : Cx} {C : Cd} {sc : Scope} {cx : CXT} {er : Er} {EX : XK} {G : Res → Prop} {A0 : Fp} {H0 : Hp} {R : Fns} (S : Snd R) (o : Okx X C sc cx er EX G A0 H0)
include S o
theorem e_not (a : Expr) (p : Pos) : PE X (.UnaryOp .Not a p) (RdE X.K G A0 H0 false false (fun ρ k => R.E C sc a ρ fun x ρ1 => dTru x fun c => k (.bl (!c)) ρ1)) := by
  refine PE.imp (pe_notT (S.E o a)) fun σ H Q ⟨ρ, k, F, k0, f0, en, g, q⟩ => ?_
  refine ⟨ρ, _, F, k0, f0, en, g, fun d ρ1 v H1 Fe c1 v1 _ g1 => ?_⟩
  obtain ⟨Fv, hv⟩ := v1.any
  obtain ⟨b, tb, g1⟩ := tru_D o.hG hv g1
  exact ⟨b, tb, q _ ρ1 _ H1 Fe c1 (.inr ⟨_, OwnV.pure (d := .bl _) (Fx := F0) rfl rfl⟩) (fun z => nomatch z) g1⟩
theorem e_if (t a b : Expr) (p : Pos) : PE X (.IfExp t a b p) (RdE X.K G A0 H0 true false (fun ρ k => R.T C sc t ρ fun c ρ1 => match c with
    | true => R.E C sc a ρ1 fun x ρ2 => puK x (k x ρ2)
    | false => R.E C sc b ρ1 fun x ρ2 => puK x (k x ρ2))) := by
  refine PE.imp (pe_ifExp (S.T o t) (S.E o a) (S.E o b)) fun σ H Q ⟨ρ, k, F, k0, f0, en, g, q⟩ => ?_
  refine ⟨ρ, _, F, k0, f0, en, g, fun c ρ1 H1 Fe c1 g1 => ?_⟩
  dsimp only
  have br : ∀ e : Expr, G (R.E C sc e ρ1 fun x ρ2 => puK x (k x ρ2)) → RdE X.K G A0 H0 (isPath e) (isCalm e) (R.E C sc e) σ H1 Q := fun e g1 =>
    ⟨ρ1, _, Fe, c1.keep k0 f0, c1.from k0 f0, c1.en, g1, fun d ρ2 v H2 Fe2 c2 v2 _ g2 => by
      obtain ⟨pu, g2⟩ := puK_of o.hG g2
      exact q d ρ2 v H2 Fe2 (c1.trans c2) (Val2.trans c1 (v2.tf pu).wide) (fun z => nomatch z) g2⟩
  cases c with
  | true => rw [if_pos rfl]; exact br a g1
  | false => rw [if_neg (by decide)]; exact br b g1
theorem e_and (a b : Expr) (r : List Expr) (p : Pos) : PE X (.BoolOp .And (a :: b :: r) p) (RdE X.K G A0 H0 true false (fun ρ k => R.E C sc a ρ fun x ρ1 => match x with
    | .bl true => R.E C sc (.BoolOp .And (b :: r) p) ρ1 k
    | .bl false => k (.bl false) ρ1
    | _ => .stuck)) := by
  refine PE.imp (pe_and (S.E o a) (S.E o (.BoolOp .And (b :: r) p))) fun σ H Q ⟨ρ, k, F, k0, f0, en, g, q⟩ => ?_
  refine ⟨ρ, _, F, k0, f0, en, g, fun d ρ1 v H1 Fe c1 v1 _ g1 => ?_⟩
  cases d with
  | bl c =>
    obtain ⟨Fv, hv⟩ := v1.any
    refine ⟨c, hv, ?_⟩
    cases c with
    | true =>
      rw [if_pos rfl]
      exact ⟨ρ1, _, Fe, c1.keep k0 f0, c1.from k0 f0, c1.en, g1, fun d ρ2 v H2 Fe2 c2 v2 _ g2 => q d ρ2 v H2 Fe2 (c1.trans c2) (Val2.trans c1 v2).wide (fun z => nomatch z) g2⟩
    | false =>
      rw [if_neg (by decide)]
      exact q _ ρ1 _ H1 Fe c1 (.inr ⟨_, OwnV.pure (d := .bl _) (Fx := F0) rfl rfl⟩) (fun z => nomatch z) g1
  | _ => exact absurd g1 o.hG
theorem e_or (a b : Expr) (r : List Expr) (p : Pos) : PE X (.BoolOp .Or (a :: b :: r) p) (RdE X.K G A0 H0 true false (fun ρ k => R.E C sc a ρ fun x ρ1 => match x with
    | .bl true => k (.bl true) ρ1
    | .bl false => R.E C sc (.BoolOp .Or (b :: r) p) ρ1 k
    | _ => .stuck)) := by
  refine PE.imp (pe_or (S.E o a) (S.E o (.BoolOp .Or (b :: r) p))) fun σ H Q ⟨ρ, k, F, k0, f0, en, g, q⟩ => ?_
  refine ⟨ρ, _, F, k0, f0, en, g, fun d ρ1 v H1 Fe c1 v1 _ g1 => ?_⟩
  cases d with
  | bl c =>
    obtain ⟨Fv, hv⟩ := v1.any
    refine ⟨c, hv, ?_⟩
    cases c with
    | false =>
      rw [if_neg (by decide)]
      exact ⟨ρ1, _, Fe, c1.keep k0 f0, c1.from k0 f0, c1.en, g1, fun d ρ2 v H2 Fe2 c2 v2 _ g2 => q d ρ2 v H2 Fe2 (c1.trans c2) (Val2.trans c1 v2).wide (fun z => nomatch z) g2⟩
    | true =>
      rw [if_pos rfl]
      exact q _ ρ1 _ H1 Fe c1 (.inr ⟨_, OwnV.pure (d := .bl _) (Fx := F0) rfl rfl⟩) (fun z => nomatch z) g1
  | _ => exact absurd g1 o.hG
theorem e_one (op : BoolOp) (a : Expr) (p : Pos) : PE X (.BoolOp op [a] p) (RdE X.K G A0 H0 true false (fun ρ k => R.E C sc a ρ k)) :=
  PE.imp (pe_one (S.E o a)) fun σ H Q ⟨ρ, k, F, k0, f0, en, g, q⟩ => ⟨ρ, k, F, k0, f0, en, g, fun d ρ1 v H1 Fe c1 v1 _ g1 => q d ρ1 v H1 Fe c1 v1.wide (fun z => nomatch z) g1⟩
/-! ### tests -/
omit S in
theorem t_stuck {e : Expr} : PT X e (RdT X.K G A0 H0 (fun _ _ => .stuck)) := pt_bad fun σ H Q ⟨ρ, k, F, k0, f0, en, g, q⟩ => absurd g o.hG
theorem t_not (a : Expr) (p : Pos) : PT X (.UnaryOp .Not a p) (RdT X.K G A0 H0 (fun ρ k => R.T C sc a ρ fun b ρ1 => k (!b) ρ1)) :=
  PT.imp (pt_not (S.T o a)) fun σ H Q ⟨ρ, k, F, k0, f0, en, g, q⟩ => ⟨ρ, _, F, k0, f0, en, g, fun b ρ1 H1 Fe c1 g1 => q (!b) ρ1 H1 Fe c1 g1⟩
theorem w_one (op : BoolOp) (a : Expr) (p : Pos) : PW X (.BoolOp op [a] p) (RdT X.K G A0 H0 (R.T C sc a)) := by
  cases op with
  | And => exact pw_and1 (S.T o a)
  | Or => exact pw_or1 (S.T o a)
theorem w_and (a b : Expr) (r : List Expr) (p : Pos) : PW X (.BoolOp .And (a :: b :: r) p) (RdT X.K G A0 H0 (fun ρ k => R.T C sc a ρ fun c ρ1 => match c with
    | true => R.T C sc (.BoolOp .And (b :: r) p) ρ1 k
    | false => k false ρ1)) := by
  refine PW.imp (pw_and (S.T o a) (S.W o .And (b :: r) p)) fun σ H Q ⟨ρ, k, F, k0, f0, en, g, q⟩ => ⟨ρ, _, F, k0, f0, en, g, fun c ρ1 H1 Fe c1 g1 => ?_⟩
  cases c with
  | true =>
    rw [if_pos rfl]
    exact ⟨ρ1, _, Fe, c1.keep k0 f0, c1.from k0 f0, c1.en, g1, fun d ρ2 H2 Fe2 c2 g2 => q d ρ2 H2 Fe2 (c1.trans c2) g2⟩
  | false =>
    rw [if_neg (by decide)]
    exact q false ρ1 H1 Fe c1 g1
theorem w_or (a b : Expr) (r : List Expr) (p : Pos) : PW X (.BoolOp .Or (a :: b :: r) p) (RdT X.K G A0 H0 (fun ρ k => R.T C sc a ρ fun c ρ1 => match c with
    | true => k true ρ1
    | false => R.T C sc (.BoolOp .Or (b :: r) p) ρ1 k)) := by
  refine PW.imp (pw_or (S.T o a) (S.W o .Or (b :: r) p)) fun σ H Q ⟨ρ, k, F, k0, f0, en, g, q⟩ => ⟨ρ, _, F, k0, f0, en, g, fun c ρ1 H1 Fe c1 g1 => ?_⟩
  cases c with
  | false =>
    rw [if_neg (by decide)]
    exact ⟨ρ1, _, Fe, c1.keep k0 f0, c1.from k0 f0, c1.en, g1, fun d ρ2 H2 Fe2 c2 g2 => q d ρ2 H2 Fe2 (c1.trans c2) g2⟩
  | true =>
    rw [if_pos rfl]
    exact q true ρ1 H1 Fe c1 g1
omit S in
theorem w_bad {op : BoolOp} {vs : List Expr} {p : Pos} : PW X (.BoolOp op vs p) (RdT X.K G A0 H0 (fun _ _ => .stuck)) := ⟨fun wh pins s σ H Q I ⟨ρ, k, F, k0, f0, en, g, q⟩ => absurd g o.hG⟩
theorem w_step (op : BoolOp) (vs : List Expr) (p : Pos) : PW X (.BoolOp op vs p) (RdT X.K G A0 H0 (stepT R C sc (.BoolOp op vs p))) := by
  cases op with
  | And =>
    match vs with
    | [] => exact w_bad o
    | [a] => exact w_one S o .And a p
    | a :: b :: r => exact w_and S o a b r p
  | Or =>
    match vs with
    | [] => exact w_bad o
    | [a] => exact w_one S o .Or a p
    | a :: b :: r => exact w_or S o a b r p
theorem t_chain (a : Expr) (op op' : CmpOp) (b c : Expr) (p : Pos) : PT X (.Compare a [op, op'] [b, c] p) (RdT X.K G A0 H0 (stepT R C sc (.Compare a [op, op'] [b, c] p))) := by
  cases hop : nIn op' with
  | false =>
    refine pt_bad fun σ H Q ⟨ρ, k, F, k0, f0, en, g, q⟩ => ?_
    dsimp only [stepT] at g
    rw [hop] at g
    exact absurd g o.hG
  | true =>
    refine PT.imp (pt_chain (op_cmpD o.hG op) (op_cmpD o.hG op') (S.E o a) (S.E o b) (S.E o c) (nIn_of hop c)) fun σ H Q ⟨ρ, k, F, k0, f0, en, g, q⟩ => ?_
    dsimp only [stepT] at g
    rw [hop] at g
    replace g : G (R.E C sc a ρ _) := g
    refine ⟨ρ, _, F, k0, f0, en, g, fun d ρ1 v H1 Fe c1 v1 _ g1 => ?_⟩
    obtain ⟨pd, g1⟩ := puK_of o.hG g1
    obtain ⟨Fv, hv⟩ := v1.any
    refine ⟨ρ1, _, Fe, c1.keep k0 f0, c1.from k0 f0, c1.en, g1, fun d2 ρ2 v2 H2 Fe2 c2 v2' _ g2 => ?_⟩
    obtain ⟨p2, g2⟩ := puK_of o.hG g2
    obtain ⟨Fy, hy⟩ := v2'.any
    have c12 := c1.trans c2
    refine ⟨d, d2, F0, Fy, _, keep_pure hv pd c2, hy, g2, fun t g3 => ⟨t, rfl, ?_⟩⟩
    cases t with
    | true =>
      rw [if_pos rfl]
      refine ⟨ρ2, _, Fe2, c12.keep k0 f0, c12.from k0 f0, c12.en, g3, fun d3 ρ3 v3 H3 Fe3 c3 v3' _ g4 => ?_⟩
      obtain ⟨Fz, hz⟩ := v3'.any
      exact ⟨d2, d3, F0, Fz, _, keep_pure hy p2 c3, hz, g4, fun u g5 => ⟨u, rfl, q u ρ3 H3 Fe3 (c12.trans c3) g5⟩⟩
    | false =>
      rw [if_neg (by decide)]
      exact ⟨false, rfl, q false ρ2 H2 Fe2 c12 g3⟩
theorem t_val (e : Expr) (he : ∀ whole, isTrue e X.env whole = (do let v ← whole; standAt e.pos; holding [v] (truthy v))) : PT X e (RdT X.K G A0 H0 (fun ρ k => R.E C sc e ρ fun d ρ1 => dTru d fun b => k b ρ1)) := by
  refine PT.imp (pt_truth (S.E o e) he) fun σ H Q ⟨ρ, k, F, k0, f0, en, g, q⟩ => ⟨ρ, _, F, k0, f0, en, g, fun d ρ1 v H1 Fe c1 v1 _ g1 => ?_⟩
  obtain ⟨Fv, hv⟩ := v1.any
  obtain ⟨b, tb, g1⟩ := tru_D o.hG hv g1
  exact ⟨b, tb, q b ρ1 H1 Fe c1 g1⟩
theorem t_step (e : Expr) : PT X e (RdT X.K G A0 H0 (stepT R C sc e)) := by
  cases e with
  | BoolOp op vs p => exact (w_step S o op vs p).pt
  | IfExp t a b p => exact t_stuck o
  | UnaryOp op a p =>
    cases op with
    | Not => exact t_not S o a p
    | _ => exact t_val S o _ (fun _ => rfl)
  | Compare a ops bs p =>
    match ops, bs with
    | [], _ => exact t_stuck o
    | [op], [] => exact t_stuck o
    | [op], [b] => exact t_cmp S o a op b p
    | [op], _ :: _ :: _ => exact t_stuck o
    | [op, op'], [] => exact t_stuck o
    | [op, op'], [b] => exact t_stuck o
    | [op, op'], [b, c] => exact t_chain S o a op op' b c p
    | [op, op'], _ :: _ :: _ :: _ => exact t_stuck o
    | _ :: _ :: _ :: _, _ => exact t_stuck o
  | _ => exact t_val S o _ (fun _ => rfl)
/-! ### behind a written text -/
theorem p_step (e : Expr) : PET X e (RdE X.K G A0 H0 (isPath e) (isCalm e) (stepP R C sc e)) := by
  have dflt : (∀ ρ k, stepP R C sc e ρ k = R.E C sc e ρ k) → PET X e (RdE X.K G A0 H0 (isPath e) (isCalm e) (stepP R C sc e)) := fun h =>
    CwR.PET.of (PE.imp (S.E o e) fun σ H Q ⟨ρ, k, F, k0, f0, en, g, q⟩ => ⟨ρ, k, F, k0, f0, en, by rw [← h]; exact g, q⟩)
  by_cases hh : ∃ ob m ap y j c0 z j2 c1 p, e = .Call (.Attribute ob m ap) [.Constant (.str y) j c0, .Constant (.str z) j2 c1] [] p
  · obtain ⟨ob, m, ap, y, j, c0, z, j2, c1, p, rfl⟩ := hh
    by_cases hm : m = "replace"
    · subst hm
      by_cases hg : (opG ob && (ap.endLine == p.line) && !(y == z)) = true
      · have hg' := hg
        rw [Bool.and_eq_true, Bool.and_eq_true, Bool.not_eq_true'] at hg'
        intro pins s σ H Q h0 I ⟨ρ, k, F, k0, f0, en, g, q⟩
        refine CwR.pet_replT (S.P o ob) hg'.2 rfl (base_ok hg'.1.1 _ _ _) hg'.1.2 pins s σ H Q h0 I ?_
        dsimp only [stepP] at g
        rw [if_pos rfl, hg] at g
        replace g : G (R.P C sc ob ρ _) := g
        refine ⟨ρ, _, F, k0, f0, en, g, fun d ρ1 v H1 Fe c1 v1 _ g1 => ?_⟩
        obtain ⟨Fv, hv⟩ := v1.any
        obtain ⟨x, hx, g1⟩ := oK_of o.hG g1
        have hd := asS_of hx
        cases hd
        obtain ⟨hl, g1⟩ := ckK_of o.hG g1
        exact ⟨x, hv, of_decide_eq_true hl, q _ ρ1 _ H1 Fe c1 (.inr ⟨_, OwnV.pure (d := .str _) (Fx := F0) rfl rfl⟩) (fun z => nomatch z) g1⟩
      · intro pins s σ H Q h0 I ⟨ρ, k, F, k0, f0, en, g, q⟩
        dsimp only [stepP] at g
        rw [if_pos rfl, Bool.eq_false_iff.mpr hg] at g
        exact absurd g o.hG
    · refine dflt fun ρ k => ?_
      dsimp only [stepP]
      rw [if_neg hm]
  · refine dflt fun ρ k => ?_
    unfold stepP
    split
    · exact absurd ⟨_, _, _, _, _, _, _, _, _, _, rfl⟩ hh
    · rfl
theorem e_wrt (x : Str) (j : Nat) (c0 : Pos) (b : Expr) (p : Pos) : PE X (.BinOp (.Constant (.str x) j c0) .Add b p) (RdE X.K G A0 H0 false false (fun ρ k => R.P C sc b ρ fun y ρ2 => binD .Add (.str x) y fun z => k z ρ2)) := by
  refine ⟨fun pins s σ H Q I ⟨ρ, k, F, k0, f0, en, g, q⟩ => ?_⟩
  refine wpAny_BinOp (Calls.Constant_str ?_)
  refine thn (S.P o b pins { s with toks := s.toks + 1 } σ H _ (Nat.le_add_left _ _) (I.tok _) ⟨ρ, _, F, k0, f0, en, g, fun d ρ1 v H1 Fe c1 v1 _ g1 => ?_⟩) fun u s2 ⟨y, H2, I2, r2, q2⟩ => op_binD o.hG .Add pins s2 σ H2 (.str x) y _ u Q I2 ⟨_, rfl⟩ r2 q2
  obtain ⟨Fy, hy⟩ := v1.any
  exact ⟨.str x, d, F0, Fy, _, rfl, hy, g1, vend c1 q⟩
end
end TI
set_option Elab.async false
set_option linter.all false
set_option maxRecDepth 100000
set_option maxHeartbeats 4000000
/-! what is walked; targets -/
namespace TI
open PySem PySem.Spec PyProof.Rows L2



/-- what a walk yields, as long as what B holds is kept -/
structure Src (K : PySem.W.Frag) (J : It) (ds : List D) (B : Fp) (H0 : Hp) : Prop where
  go : ∀ H, Keep (fun a => ¬ B a) H0 H → ∀ i, i < ds.length → J.go i H
  yld : ∀ H, Keep (fun a => ¬ B a) H0 H → ∀ i x H', J.yld i H x H' → i < ds.length → H' = H ∧ ∃ d, ds[i]? = some d ∧ Rp K H d x F0
  stop : ∀ H, Keep (fun a => ¬ B a) H0 H → J.stop ds.length H
def RdI (K : PySem.W.Frag) (G : Res → Prop) (A0 : Fp) (H0 : Hp) (f : Env → (List D → Env → Res) → Res) : L2.TI := fun σ H R => ∃ ρ k F, Keep A0 H0 H ∧ Fr A0 H0 F ∧ Ens K H ρ σ F ∧ G (f ρ k) ∧
  ∀ ds ρ' J H' Fe B, Ch K σ F H ρ Fe H' ρ' → Src K J ds B H' → (∀ a, B a → H' a ≠ none) → Dis Fe B → D.pus ds = true → G (k ds ρ') → R J H'
def iSeq (K : PySem.W.Frag) (tl : TE) : L2.TI := fun σ H R => tl σ H fun x H1 => ∃ a, x = .ref a ∧ (((∃ xs, SqL K H1 a xs) ∧ R (Itl K a) H1) ∨ ((∃ xs, SqT K H1 a xs) ∧ R (Itt K a) H1))
theorem pi_seq {X : Cx} {tg l : Expr} {tl : TE} (hl : PE X l tl) : PI X tg l (iSeq X.K tl) := by
  refine ⟨fun pins s σ H R I h => ?_⟩
  refine thn (hl.run pins s σ H _ I h) fun v s1 ⟨x, H1, I1, r1, q1⟩ => ?_
  obtain ⟨a, e, q⟩ := q1
  subst e
  cases r1
  rcases q with ⟨⟨xs, hq⟩, q⟩ | ⟨⟨xs, hq⟩, q⟩
  · obtain ⟨its, rv, p, hz⟩ := I1.list hq
    refine wpAny_pyIter_list p.isList ?_
    refine ⟨s1.heap.objs.size, [s1.heap.objs.size], _, _, H1, rfl, I1.kept (t' := s1.toks) fun b o e => Heap.get?_push_of_some _ e, turn_list a _, ⟨_, Heap.get?_push_size _ rfl, rfl, rfl⟩, fun b hb => ?_, q⟩
    have e : b = s1.heap.objs.size := by simpa using hb
    subst e
    exact I1.fpOk (Nat.le_refl _) (I1.hok.fresh (Nat.le_refl _))
  · obtain ⟨its, rv, p, hz⟩ := I1.tuple hq
    refine wpAny_pyIter_tuple (show s1.heap.IsTuple a its.toArray from p) ?_
    refine ⟨s1.heap.objs.size, [s1.heap.objs.size], _, _, H1, rfl, I1.kept (t' := s1.toks) fun b o e => Heap.get?_push_of_some _ e, turn_tuple a _, ⟨_, Heap.get?_push_size _ rfl, rfl, rfl⟩, fun b hb => ?_, q⟩
    have e : b = s1.heap.objs.size := by simpa using hb
    subst e
    exact I1.fpOk (Nat.le_refl _) (I1.hok.fresh (Nat.le_refl _))
theorem Rps.idx {K : PySem.W.Frag} {H : Hp} {ds : List D} {vs : List V} {F : Fp} (h : Rps K H ds vs F) {i : Nat} {x : V} (e : vs[i]? = some x) : ∃ d, ds[i]? = some d ∧ Rp K H d x F := by
  have hl := Rps.length _ _ _ h
  have hi : i < vs.length := (List.getElem?_eq_some_iff.mp e).1
  have hi2 : i < ds.length := by omega
  obtain ⟨v, hv, r⟩ := Rps.get _ _ _ i ds[i] h (List.getElem?_eq_getElem hi2)
  rw [e] at hv; cases hv
  exact ⟨_, List.getElem?_eq_getElem hi2, r⟩
theorem src_list {K : PySem.W.Frag} {ds : List D} {B : Fp} {H0 : Hp} {a : Addr} {vs : List V} (hq : ∀ H, Keep (fun a => ¬ B a) H0 H → SqL K H a vs) (hr : Rps K H0 ds vs F0) : Src K (Itl K a) ds B H0 := by
  have hl := Rps.length _ _ _ hr
  refine ⟨fun H k i hi => ?_, fun H k i x H' hy hi => ?_, fun H k => ⟨vs, hq H k, by omega⟩⟩
  · have : i < vs.length := by omega
    exact ⟨vs, vs[i], hq H k, List.getElem?_eq_getElem this⟩
  · obtain ⟨e, hx⟩ := hy
    exact ⟨e, Rps.idx (Rps.stay k _ _ _ (fun _ z => z.elim) hr) (hx vs (hq H k))⟩
theorem src_tup {K : PySem.W.Frag} {ds : List D} {B : Fp} {H0 : Hp} {a : Addr} {vs : List V} (hq : ∀ H, Keep (fun a => ¬ B a) H0 H → SqT K H a vs) (hr : Rps K H0 ds vs F0) : Src K (Itt K a) ds B H0 := by
  have hl := Rps.length _ _ _ hr
  refine ⟨fun H k i hi => ?_, fun H k i x H' hy hi => ?_, fun H k => ⟨vs, hq H k, by omega⟩⟩
  · have : i < vs.length := by omega
    exact ⟨vs, vs[i], hq H k, List.getElem?_eq_getElem this⟩
  · obtain ⟨e, hx⟩ := hy
    exact ⟨e, Rps.idx (Rps.stay k _ _ _ (fun _ z => z.elim) hr) (hx vs (hq H k))⟩
theorem rngL_length (lo : Int) (n : Nat) : (rngL lo n).length = n := by unfold rngL; simp
theorem rngL_get (lo : Int) (n i : Nat) (h : i < n) : (rngL lo n)[i]? = some (.int (lo + i)) := by unfold rngL; simp [h]
theorem rngL_pus (lo : Int) (n : Nat) : D.pus (rngL lo n) = true := by
  have : ∀ l : List Nat, D.pus (l.map fun (i : Nat) => D.int (lo + (i : Int))) = true := fun l => by
    induction l with
    | nil => rfl
    | cons a l ih => rw [List.map_cons, D.pus, ih]; rfl
  exact this _
theorem src_rng {K : PySem.W.Frag} {lo : Int} {n : Nat} {B : Fp} {H0 : Hp} : Src K (Itr lo n) (rngL lo n) B H0 := by
  refine ⟨fun H k i hi => ?_, fun H k i x H' hy hi => ?_, fun H k => ?_⟩
  · rw [rngL_length] at hi; exact hi
  · rw [rngL_length] at hi
    obtain ⟨e, hx⟩ := hy
    exact ⟨e, _, rngL_get lo n i hi, by rw [hx]; rfl⟩
  · show n ≤ _
    rw [rngL_length]; exact Nat.le_refl _
section
variable {X : Cx} {C : Cd} {sc : Scope} {cx : CXT} {er : Er} {EX : XK} {G : Res → Prop} {A0 : Fp} {H0 : Hp} {R : Fns} (S : Snd R) (o : Okx X C sc cx er EX G A0 H0)
include S o
omit S o in
theorem pi_imp {X : Cx} {tg e : Expr} {t t' : L2.TI} (h : PI X tg e t) (w : ∀ σ H R, t' σ H R → t σ H R) : PI X tg e t' := ⟨fun pins s σ H R I q => h.run pins s σ H R I (w σ H R q)⟩
omit S o in
theorem pi_bad {X : Cx} {tg e : Expr} {t : L2.TI} (h : ∀ σ H R, t σ H R → False) : PI X tg e t := ⟨fun pins s σ H R I q => (h σ H R q).elim⟩
theorem i_val (tg e : Expr) : PI X tg e (RdI X.K G A0 H0 (fun ρ k => R.E C sc e ρ fun d ρ1 => seqK e d fun ds => k ds ρ1)) := by
  refine pi_imp (pi_seq (S.E o e)) fun σ H R' ⟨ρ, k, F, k0, f0, en, g, q⟩ => ?_
  refine ⟨ρ, _, F, k0, f0, en, g, fun d ρ1 v H1 Fe c1 v1 _ g1 => ?_⟩
  cases d with
  | tup ds =>
    obtain ⟨Fv, a, vs, rfl, hq, pu, hr⟩ := v1.any
    refine ⟨a, rfl, .inr ⟨⟨vs, hq⟩, q ds ρ1 _ H1 Fe F0 c1 (src_tup (fun H k => sqt_keep k hq) (Rps.pure _ _ _ pu hr)) (fun _ z => z.elim) (fun _ _ z => z) pu g1⟩⟩
  | rol ds =>
    obtain ⟨Fv, a, vs, rfl, hq, pu, hr⟩ := v1.any
    refine ⟨a, rfl, .inl ⟨⟨vs, hq.sq⟩, q ds ρ1 _ H1 Fe F0 c1 (src_list (fun H k => (sqf_keep k hq).sq) (Rps.pure _ _ _ pu hr)) (fun _ z => z.elim) (fun _ _ z => z) pu g1⟩⟩
  | lst ds =>
    obtain ⟨hp, g1⟩ := ckK_of o.hG g1
    rw [Bool.not_eq_true'] at hp
    obtain ⟨pu, g1⟩ := pusK_of o.hG g1
    obtain ⟨Fv, ow⟩ := v1.own fun z => by rw [hp] at z; cases z
    obtain ⟨a, vs, rfl, hq, ha, hr⟩ := ow.rp
    refine ⟨a, rfl, .inl ⟨⟨vs, .inl (.inl hq)⟩, q ds ρ1 _ H1 Fe Fv c1 (src_list (fun H k => .inl (.inl (k.k _ _ hq (.inl fun z => z ha)))) (Rps.pure _ _ _ pu hr)) ow.tr ow.dj pu g1⟩⟩
  | _ => exact absurd g1 o.hG
theorem i_rng (tg : Expr) (fp p : Pos) (args : List Expr) (hb : isBi C sc "range" = true) (hst : noStar args = true) : PI X tg (.Call (.Name "range" fp) args [] p) (RdI X.K G A0 H0 (rngE R C sc args)) := by
  obtain ⟨f1, f2, f3⟩ := isBi_of hb
  match args, hst with
  | [], _ => exact pi_bad fun σ H R' ⟨ρ, k, F, k0, f0, en, g, q⟩ => absurd g o.hG
  | _ :: _ :: _ :: _, _ => exact pi_bad fun σ H R' ⟨ρ, k, F, k0, f0, en, g, q⟩ => absurd g o.hG
  | [a], hst =>
    obtain ⟨h1, h2⟩ := star_cons hst X.env
    refine pi_imp (pi_range1 (o.toCok.glx f1) (o.bi _ f3) (S.A o [a]) h1) fun σ H R' ⟨ρ, k, F, k0, f0, en, g, q⟩ => ?_
    refine ⟨ρ, _, F, k0, f0, en, g, fun as ρ1 vs H1 Fe Fv c1 fr dj tr ar g1 => ?_⟩
    obtain ⟨ds, hds, g1⟩ := resB_of o.hG ar c1.en g1
    have key : ∃ hi, ds = [.int hi] ∧ G (ckK (smallI hi) (k (rngL 0 hi.toNat) ρ1)) := by
      split at g1
      · exact ⟨_, rfl, g1⟩
      · exact absurd g1 o.hG
    obtain ⟨hi, rfl, g1⟩ := key
    obtain ⟨w, ws, F', rfl, hw, hn⟩ := hds
    cases (show ws = [] from hn)
    cases (show w = .int hi from hw)
    obtain ⟨hs, g1⟩ := ckK_of o.hG g1
    unfold smallI at hs
    rw [decide_eq_true_eq] at hs
    exact ⟨hi, rfl, by omega, by omega, q _ ρ1 _ H1 Fe F0 c1 src_rng (fun _ z => z.elim) (fun _ _ z => z) (rngL_pus _ _) g1⟩
  | [a, b], hst =>
    obtain ⟨h1, h2⟩ := star_cons hst X.env
    obtain ⟨h3, h4⟩ := star_cons h2 X.env
    refine pi_imp (pi_range2 (o.toCok.glx f1) (o.bi _ f3) (S.A o [a, b]) (by rw [h1, h3]; rfl) h3) fun σ H R' ⟨ρ, k, F, k0, f0, en, g, q⟩ => ?_
    refine ⟨ρ, _, F, k0, f0, en, g, fun as ρ1 vs H1 Fe Fv c1 fr dj tr ar g1 => ?_⟩
    obtain ⟨ds, hds, g1⟩ := resB_of o.hG ar c1.en g1
    have key : ∃ lo hi, ds = [.int lo, .int hi] ∧ G (ckK (smallI lo && smallI hi) (k (rngL lo (hi - lo).toNat) ρ1)) := by
      split at g1
      · exact ⟨_, _, rfl, g1⟩
      · exact absurd g1 o.hG
    obtain ⟨lo, hi, rfl, g1⟩ := key
    obtain ⟨w, ws, F', rfl, hw, hn⟩ := hds
    obtain ⟨w2, ws2, F2, rfl, hw2, hn2⟩ := hn
    cases (show ws2 = [] from hn2)
    cases (show w = .int lo from hw)
    cases (show w2 = .int hi from hw2)
    obtain ⟨hs, g1⟩ := ckK_of o.hG g1
    unfold smallI at hs
    rw [Bool.and_eq_true, decide_eq_true_eq, decide_eq_true_eq] at hs
    exact ⟨lo, hi, rfl, ⟨by omega, by omega, by omega, by omega⟩, q _ ρ1 _ H1 Fe F0 c1 src_rng (fun _ z => z.elim) (fun _ _ z => z) (rngL_pus _ _) g1⟩
theorem i_iter (tg e : Expr) : PI X tg e (RdI X.K G A0 H0 (iterE R C sc e)) := by
  cases hs : isSet e with
  | true =>
    refine pi_bad fun σ H R' ⟨ρ, k, F, k0, f0, en, g, q⟩ => ?_
    unfold iterE at g
    rw [hs] at g
    exact absurd g o.hG
  | false =>
    have dflt : (∀ ρ k, iterE R C sc e ρ k = R.E C sc e ρ fun d ρ1 => seqK e d fun ds => k ds ρ1) → PI X tg e (RdI X.K G A0 H0 (iterE R C sc e)) := fun h =>
      pi_imp (i_val S o tg e) fun σ H R' ⟨ρ, k, F, k0, f0, en, g, q⟩ => ⟨ρ, k, F, k0, f0, en, by have g' := g; rw [h] at g'; exact g', q⟩
    cases hf : rngF e with
    | none =>
      refine dflt fun ρ k => ?_
      unfold iterE
      rw [hs, hf]; rfl
    | some fa =>
      obtain ⟨f, args⟩ := fa
      by_cases hr : f = "range"
      · subst hr
        obtain ⟨fp, p, rfl⟩ : ∃ fp p, e = .Call (.Name "range" fp) args [] p := by
          unfold rngF at hf
          split at hf
          · cases hf; exact ⟨_, _, rfl⟩
          · cases hf
        cases hb : isBi C sc "range" && noStar args with
        | false =>
          refine pi_bad fun σ H R' ⟨ρ, k, F, k0, f0, en, g, q⟩ => ?_
          unfold iterE at g
          rw [hs, hf] at g
          dsimp only at g
          rw [if_pos rfl, hb] at g
          exact absurd g o.hG
        | true =>
          rw [Bool.and_eq_true] at hb
          refine pi_imp (i_rng S o tg fp p args hb.1 hb.2) fun σ H R' ⟨ρ, k, F, k0, f0, en, g, q⟩ => ⟨ρ, k, F, k0, f0, en, ?_, q⟩
          unfold iterE at g
          rw [hs, hf] at g
          dsimp only at g
          rw [if_pos rfl, hb.1, hb.2] at g
          exact g
      · refine dflt fun ρ k => ?_
        unfold iterE
        rw [hs, hf]
        dsimp only
        rw [if_neg hr]
        rfl
/-! ### targets -/
def RdGs (K : PySem.W.Frag) (G : Res → Prop) (C : Cd) (sc : Scope) (f : List D → Env → (Env → Res) → Res) : TGs := fun vs σ H Q => ∃ ρ k F ds, Ens K H ρ σ F ∧ Rps K H ds vs F0 ∧ D.pus ds = true ∧ G (f ds ρ k) ∧
  ∀ ρ' σ' F', (∀ a, F' a → F a) → Ens K H ρ' σ' F' → Sl C sc σ σ' → Imp ρ ρ' → (∀ vs, Par C.np vs σ ρ → Par C.np vs σ' ρ') → G (k ρ') → Q σ' H
omit S o in
theorem asg_cons {e : Expr} {es : List Expr} (h : noStar (e :: es) = true) (env : PySem.Env) : assignEach (e :: es) env = (false, assign e env) :: assignEach es env := by
  cases e <;> first
    | rfl
    | cases h
omit S o in
theorem asg_len : ∀ {es : List Expr} (h : noStar es = true) (env : PySem.Env), (assignEach es env).length = es.length ∧ (assignEach es env).findIdx? (·.1) = none
  | [], _, _ => ⟨rfl, rfl⟩
  | e :: es, h, env => by
    obtain ⟨h1, h2⟩ := asg_len (star_cons h env).2 env
    rw [asg_cons h]
    refine ⟨by rw [List.length_cons, List.length_cons, h1], ?_⟩
    rw [List.findIdx?_cons]
    simp [h2]
omit S o in
theorem Sl.refl (σ : L2.St) : Sl C sc σ σ := ⟨rfl, fun j h => absurd rfl h⟩
omit S o in
theorem Sl.trans {a b c : L2.St} (h : Sl C sc a b) (g : Sl C sc b c) : Sl C sc a c := ⟨g.1.trans h.1, fun j n => by
  by_cases e : c[j]? = b[j]?
  · exact h.2 j (by rw [← e]; exact n)
  · exact g.2 j e⟩
theorem g_list : ∀ (es : List Expr), noStar es = true → PGs X es (RdGs X.K G C sc (tgsE R C sc es))
  | [], _ => by
    refine ⟨fun pins s σ H vs us Q I r ⟨ρ, k, F, ds, en, hr, pu, g, q⟩ => pgs_nil.run pins s σ H vs us Q I r ?_⟩
    cases ds with
    | nil => exact ⟨hr, q ρ σ F (fun _ z => z) en (Sl.refl σ) (Imp.refl _) (fun _ z => z) g⟩
    | cons d ds => exact absurd g o.hG
  | e :: es, h => by
    obtain ⟨_, h2⟩ := star_cons h X.env
    refine ⟨fun pins s σ H vs us Q I r ⟨ρ, k, F, ds, en, hr, pu, g, q⟩ => (pgs_cons (S.G o e) (g_list es h2) (by rw [asg_cons h]; rfl)).run pins s σ H vs us Q I r ?_⟩
    cases ds with
    | nil => exact absurd g o.hG
    | cons d ds =>
      obtain ⟨v, ws, G1, G2, rfl, h1, hr, s1, s2, _⟩ := hr
      rw [D.pus, Bool.and_eq_true] at pu
      refine ⟨v, ws, rfl, ρ, _, F, d, F0, en, Rp.mono _ _ _ _ s1 h1, fun _ _ z => z, g, fun ρ1 σ1 F1 f1 en1 sl1 im1 pa1 g1 => ?_⟩
      refine ⟨ρ1, _, F1, ds, en1, Rps.mono _ _ _ _ s2 hr, pu.2, g1, fun ρ2 σ2 F2 f2 en2 sl2 im2 pa2 g2 => ?_⟩
      exact q ρ2 σ2 F2 (fun a z => (f1 a (f2 a z)).elim id fun z => z.elim) en2 (sl1.trans sl2) ((im1 pu.1).trans im2) (fun vs z => pa2 vs (pa1 vs z)) g2
theorem g_step (e : Expr) : PG X e (RdG X.K G C sc (stepG R C sc e)) := by
  cases e with
  | Name x p =>
    cases hs : slotOf C sc x with
    | none =>
      refine pg_bad fun v σ H Q ⟨ρ, k, F, d, Fv, en, rp, dj, g, q⟩ => ?_
      dsimp only [stepG] at g
      rw [hs] at g
      exact absurd g o.hG
    | some i =>
      cases hc : C.own x && locl sc x with
      | false =>
        refine pg_bad fun v σ H Q ⟨ρ, k, F, d, Fv, en, rp, dj, g, q⟩ => ?_
        dsimp only [stepG] at g
        rw [hs] at g
        dsimp only at g
        rw [hc] at g
        exact absurd g o.hG
      | true =>
        rw [Bool.and_eq_true] at hc
        obtain ⟨x1, x2, x3, x4⟩ := o.toCok.visx hs
        have hl : Loc X.env.scope x := by rw [o.hsc]; exact locl_of hc.2
        refine ⟨fun pins s σ H v u Q I r ⟨ρ, k, F, d, Fv, en, rp, dj, g, q⟩ => (pg_name (pos := p) o.nd x1 hl (o.own x hc.1 hc.2)).run pins s σ H v u Q I r ?_⟩
        show Q (σ.set i (some v)) H
        dsimp only [stepG] at g
        rw [hs] at g
        dsimp only at g
        rw [hc.1, hc.2] at g
        replace g : G (setK C i d ρ k) := g
        have sl : Sl C sc σ (σ.set i (some v)) := ⟨List.length_set, fun j hj => by
          by_cases e : i = j
          · subst e; exact ⟨x, hc.1, hc.2, hs⟩
          · rw [List.getElem?_set_ne e] at hj; exact absurd rfl hj⟩
        have im : d.pu = true → Imp ρ (ρ.set i (some d)) := fun pu j d' e p' => by
          by_cases hj : i = j
          · subst hj
            rw [List.getElem?_set] at e
            rw [if_pos rfl] at e
            split at e
            · cases e; rw [pu] at p'; cases p'
            · cases e
          · rw [List.getElem?_set_ne hj] at e; exact ⟨d', e, p'⟩
        have pa : (i < C.np → d.pu = true) → ∀ vs, Par C.np vs σ ρ → Par C.np vs (σ.set i (some v)) (ρ.set i (some d)) := fun hd vs hp j d' hj e p' => by
          by_cases hij : i = j
          · subst hij
            rw [List.getElem?_set] at e
            rw [if_pos rfl] at e
            split at e
            · cases e; rw [hd hj] at p'; cases p'
            · cases e
          · rw [List.getElem?_set_ne hij] at e
            rw [List.getElem?_set_ne hij]
            exact hp j d' hj e p'
        unfold setK at g
        by_cases hnp : i < C.np
        · rw [if_pos hnp] at g
          obtain ⟨pu, g⟩ := puK_of o.hG g
          split at g
          · obtain ⟨_, g⟩ := puK_of o.hG g
            exact q _ _ _ (fun a z => z) (Ens.put _ _ _ _ i d v en rp dj) sl im (pa fun _ => pu) g
          · exact absurd g o.hG
        · rw [if_neg hnp] at g
          exact q _ _ _ (fun a z => z) (Ens.put _ _ _ _ i d v en rp dj) sl im (pa fun z => absurd z hnp) g
  | Tuple es n p =>
    cases hst : noStar es with
    | false =>
      refine pg_bad fun v σ H Q ⟨ρ, k, F, d, Fv, en, rp, dj, g, q⟩ => ?_
      dsimp only [stepG] at g
      rw [hst] at g
      exact absurd g o.hG
    | true =>
      obtain ⟨l1, l2⟩ := asg_len hst X.env
      refine ⟨fun pins s σ H v u Q I r ⟨ρ, k, F, d, Fv, en, rp, dj, g, q⟩ => (pg_tup (k := n) (pos := p) o.calm (g_list S o es hst) l1 l2).run pins s σ H v u Q I r ?_⟩
      dsimp only [stepG] at g
      rw [hst] at g
      cases d with
      | tup ds =>
        replace g : G (ckK (decide (ds.length = es.length)) (tgsE R C sc es ds ρ k)) := g
        obtain ⟨hl, g⟩ := ckK_of o.hG g
        obtain ⟨a, vs, rfl, hq, pu, hr⟩ := rp
        refine ⟨a, vs, rfl, hq, by rw [Rps.length _ _ _ hr]; exact of_decide_eq_true hl, ρ, k, F, ds, en, Rps.pure _ _ _ pu hr, pu, g, fun ρ' σ' F' f' en' sl im pa g' => ?_⟩
        exact q ρ' σ' F' (fun a z => .inl (f' a z)) en' sl (fun _ => im) pa g'
      | _ => exact absurd g o.hG
  | _ => exact pg_bad fun v σ H Q ⟨ρ, k, F, d, Fv, en, rp, dj, g, q⟩ => absurd g o.hG
end
end TI
set_option Elab.async false
set_option linter.all false
set_option maxRecDepth 100000
set_option maxHeartbeats 4000000
/-! list comprehensions -/
namespace TI
open PySem PySem.Spec PyProof.Rows L2



section
variable {K : PySem.W.Frag} {H H' : Hp}
theorem ens_wipe {ρ : Env} {σ : L2.St} {F : Fp} (h : Ens K H ρ σ F) : ∀ vs : List Nat, Ens K H (wipeE ρ vs) σ F
  | [] => h
  | v :: vs => Ens.forget _ _ _ v (ens_wipe h vs)
/-- a slot of which nothing is known -/
theorem ens_any {ρ : Env} {σ : L2.St} {F : Fp} (h : Ens K H ρ σ F) (v : Nat) (x : Option V) : Ens K H (ρ.set v none) (σ.set v x) F := by
  have h1 := Ens.forget _ _ _ v h
  have hl := Ens.length _ _ _ h
  by_cases hv : v < ρ.length
  · exact Ens.other _ _ _ v x h1 (by rw [List.getElem?_set_self hv]; exact fun z => nomatch z) (by rw [List.getElem?_set_self hv]; exact fun d z => nomatch z)
  · rw [List.set_eq_of_length_le (by omega)] at h1
    rw [List.set_eq_of_length_le (by omega), List.set_eq_of_length_le (by omega)]
    exact h1
theorem ens_wipe2 {ρ : Env} {σ : L2.St} {F : Fp} (h : Ens K H ρ σ F) : ∀ vs : List Nat, Ens K H (wipeE ρ vs) (L2.wipe σ vs) F
  | [] => h
  | v :: vs => ens_any (ens_wipe2 h vs) v none
theorem ens_back {ρ0 : Env} {σ : L2.St} (hl : σ.length = ρ0.length) : ∀ (vs : List Nat) (ρ : Env) (τ : L2.St) (F : Fp), hidOk ρ0 vs = true → (∀ v d, v ∈ vs → ρ0[v]? = some (some d) → ∃ x, σ[v]? = some (some x) ∧ Rp K H d x F0) → τ.length = σ.length → (∀ j : Nat, j ∉ vs → τ[j]? = σ[j]?) →
    Ens K H ρ τ F → Ens K H (wipeB ρ ρ0 vs) σ F
  | [], ρ, τ, F, _, _, _, ag, h => by
    have : τ = σ := List.ext_getElem? fun j => ag j (by simp)
    rw [← this]; exact h
  | v :: vs, ρ, τ, F, hid, hv, le, ag, h => by
    unfold hidOk at hid
    rw [Bool.and_eq_true] at hid
    unfold wipeB
    have hlt : v < σ.length := by
      rw [hl]
      cases e : ρ0[v]? with
      | none => rw [e] at hid; cases hid.1
      | some o => exact (List.getElem?_eq_some_iff.mp e).1
    have ag' : ∀ x : Option V, σ[v]? = some x → ∀ j : Nat, j ∉ vs → (τ.set v x)[j]? = σ[j]? := fun x hx j hj => by
      by_cases e : v = j
      · subst e
        rw [List.getElem?_set_self (by omega), hx]
      · rw [List.getElem?_set_ne e]
        exact ag j (by simp; exact ⟨fun z => e z.symm, hj⟩)
    cases e : ρ0[v]? with
    | none => rw [e] at hid; cases hid.1
    | some o =>
      rw [e] at hid
      cases o with
      | none =>
        refine ens_back hl vs _ (τ.set v (σ[v])) F hid.2 (fun u d hu => hv u d (List.mem_cons_of_mem _ hu)) (by rw [List.length_set, le]) (ag' _ (List.getElem?_eq_getElem hlt)) ?_
        exact ens_any h v _
      | some d =>
        obtain ⟨x, hx, r⟩ := hv v d List.mem_cons_self e
        refine ens_back hl vs _ (τ.set v (some x)) F hid.2 (fun u d hu => hv u d (List.mem_cons_of_mem _ hu)) (by rw [List.length_set, le]) (ag' _ hx) ?_
        exact Ens.mono _ _ _ _ (fun a z => z.elim id fun z => z.elim) (Ens.put _ _ _ F0 v d x h r fun _ _ z => z)
theorem wipeE_get {ρ : Env} : ∀ {vs : List Nat} {i : Nat} {d : D}, (wipeE ρ vs)[i]? = some (some d) → ρ[i]? = some (some d)
  | [], i, d, h => h
  | v :: vs, i, d, h => by
    unfold wipeE at h
    by_cases e : v = i
    · subst e
      rw [List.getElem?_set] at h
      rw [if_pos rfl] at h
      split at h <;> cases h
    · rw [List.getElem?_set_ne e] at h
      exact wipeE_get h
theorem wipeE_imp (ρ : Env) (vs : List Nat) : Imp ρ (wipeE ρ vs) := fun i d h p => ⟨d, wipeE_get h, p⟩
theorem hidOk_of {ρ0 : Env} : ∀ {vs : List Nat} {v : Nat} {d : D}, hidOk ρ0 vs = true → v ∈ vs → ρ0[v]? = some (some d) → d.pu = true
  | w :: vs, v, d, h, hm, e => by
    unfold hidOk at h
    rw [Bool.and_eq_true] at h
    rcases List.mem_cons.mp hm with rfl | hm
    · rw [e] at h; exact h.1
    · exact hidOk_of h.2 hm e
theorem wipeB_imp {ρ0 : Env} : ∀ (vs : List Nat) (ρ : Env), hidOk ρ0 vs = true → Imp ρ (wipeB ρ ρ0 vs)
  | [], ρ, _ => Imp.refl _
  | v :: vs, ρ, h => by
    have h' := h
    unfold hidOk at h
    rw [Bool.and_eq_true] at h
    unfold wipeB
    refine Imp.trans (fun i d e p => ?_) (wipeB_imp vs _ h.2)
    by_cases hv : v = i
    · subst hv
      rw [List.getElem?_set] at e
      rw [if_pos rfl] at e
      split at e
      · cases q : ρ0[v]? with
        | none => rw [q] at e; cases e
        | some oo =>
          rw [q] at e
          cases oo with
          | none => cases e
          | some d' =>
            cases e
            rw [hidOk_of h' List.mem_cons_self q] at p; cases p
      · cases e
    · rw [List.getElem?_set_ne hv] at e
      exact ⟨d, e, p⟩
theorem keep_laid {F : Fp} {H0 H : Hp} {a : Addr} {o : HO} (k : Keep F H0 H) (hn : H0 a = none) (ha : H a ≠ none) : Keep F H0 (upd H a o) :=
  ⟨fun x u e hn' => by
    rw [upd_ne (fun z => by subst z; rw [hn] at e; cases e)]
    exact k.k x u e hn', fun x e => by
    by_cases q : x = a
    · subst q; exact hn
    · rw [upd_ne q] at e; exact k.g x e⟩
theorem keep_one {H : Hp} {a : Addr} {vs : List V} {o : HO} (h : H a = some (.lst vs)) : Keep (fun x => x = a) H (upd H a o) := Keep.set h rfl (fun z => z)
end
theorem wipe_agree {σ τ : L2.St} (hl : τ.length = σ.length) : ∀ (vs : List Nat), (∀ j : Nat, τ[j]? ≠ σ[j]? → j ∈ vs) → L2.wipe τ vs = L2.wipe σ vs := fun vs h => by
  apply List.ext_getElem?
  intro j
  by_cases hj : j ∈ vs
  · have key : ∀ (ρ : L2.St) (ws : List Nat), j ∈ ws → (L2.wipe ρ ws)[j]? = if j < ρ.length then some none else none := fun ρ ws => by
      induction ws with
      | nil => intro z; simp at z
      | cons w ws ih =>
        intro z
        unfold L2.wipe
        by_cases e : w = j
        · subst e
          rw [List.getElem?_set, if_pos rfl, L2.wipe_length]
        · rw [List.getElem?_set_ne e]
          rcases List.mem_cons.mp z with z | z
          · exact absurd z.symm e
          · exact ih z
    rw [key τ vs hj, key σ vs hj, hl]
  · rw [L2.wipe_out hj, L2.wipe_out hj]
    by_cases e : τ[j]? = σ[j]?
    · exact e
    · exact absurd (h j e) hj
theorem mem_of_lookup' {l : List (Str × NameKind)} {x : Str} {k : NameKind} (h : l.lookup x = some k) : (x, k) ∈ l := by
  induction l with
  | nil => simp at h
  | cons y l ih =>
    obtain ⟨n, k'⟩ := y
    cases e : x == n with
    | true =>
      simp only [List.lookup_cons, e] at h
      cases h
      rw [eq_of_beq e]
      exact List.mem_cons_self
    | false =>
      simp only [List.lookup_cons, e] at h
      exact List.mem_cons_of_mem _ (ih h)
theorem ownOf_mem {N : List Str} {scope : Scope} {x : Str} {j : Nat} (h : locl scope x = true) (hj : ixOf N x = some j) : j ∈ (ownOf N scope).map (·.2) := by
  have : (x, j) ∈ ownOf N scope := by
    unfold ownOf
    rw [List.mem_filterMap]
    rcases locl_of h with q | q
    · exact ⟨(x, .local), mem_of_lookup' q, by show (ixOf N x).map _ = _; rw [hj]; rfl⟩
    · exact ⟨(x, .cell), mem_of_lookup' q, by show (ixOf N x).map _ = _; rw [hj]; rfl⟩
  exact List.mem_map.mpr ⟨_, this, rfl⟩
section
variable {X : Cx} {C : Cd} {sc : Scope} {cx : CXT} {er : Er} {EX : XK} {G : Res → Prop} {A0 : Fp} {H0 : Hp} {R : Fns} (S : Snd R) (o : Okx X C sc cx er EX G A0 H0)
include S o
omit S in
theorem okx_blk (scope : Scope) (s : Shared) (H : Hp) (Ce : Addr) (cl : List (Str × Addr)) (fp : List Addr) : Okx (X.blk s H scope (compEnvC scope cl Ce X.env) fp) (lcCd C scope) (relS scope sc) cx er (fun _ _ _ => False) G A0 H0 where
  hN := o.hN
  nd := o.nd
  hsc := by rw [← o.hsc]; rfl
  calm := o.calm
  own := fun x h1 h2 => by
    rcases locl_of h1 with q | q
    · refine .inr ?_
      show (relS scope X.env.scope).names.lookup x = _
      exact lookup_relS_keep (fun z => nomatch z) q
    · refine .inl ?_
      show (scope.names.lookup x == some .cell) = true
      rw [q]; rfl
  bi := o.bi
  con := o.con
  kd := o.kd
  fn := fun x n h => o.fn x n h
  pas := PassesOwn.never
  thr := fun pins σ H s e s' I h => o.cxn _ _ _ _ _ h
  cxn := o.cxn
  room := o.room
  hG := o.hG
  xco := fun c fs ρ h => absurd h o.hG
omit S in
theorem lc_sl {scope : Scope} {σ τ : L2.St} (h : Sl (lcCd C scope) (relS scope sc) σ τ) : L2.wipe τ ((ownOf C.N scope).map (·.2)) = L2.wipe σ ((ownOf C.N scope).map (·.2)) := by
  refine wipe_agree h.1 _ fun j hj => ?_
  obtain ⟨x, h1, h2, h3⟩ := h.2 j hj
  refine ownOf_mem (x := x) h1 ?_
  unfold slotOf at h3
  split at h3
  · exact h3
  · cases h3
theorem ifs_ok {ifs : List Expr} (hf : few ifs = true) : PTs X ifs (RdT X.K G A0 H0 (ifsE R C sc ifs)) := by
  match ifs, hf with
  | [], _ => exact ⟨fun pins s σ H Q I ⟨ρ, k, F, k0, f0, en, g, q⟩ => pts_nil.run pins s σ H Q I (q true ρ H _ (Ch.refl en) g)⟩
  | [c], _ => exact pts_one (S.T o c)
abbrev ownI (C : Cd) (scope : Scope) : List Nat := (ownOf C.N scope).map (·.2)
def lcW (K : PySem.W.Frag) (G : Res → Prop) (step : D → Env → (Option D → Env → Res) → Res) (own : List Nat) (σ : L2.St) (ρ1 : Env) (Fe : Fp) (H1 : Hp) (D0 : Addr) (ds : List D) (k : List D → Env → Res) (i m : Nat) (H : Hp) : Prop :=
  i ≤ ds.length ∧ m = ds.length - i ∧ ∃ acc vs ρa τ Fa Fv, H D0 = some (.lst vs) ∧ Keep Fe H1 H ∧ (L2.wipe τ own = L2.wipe σ own ∧ τ.length = σ.length ∧ Ens K H ρa τ Fa) ∧ Fr Fe H1 Fa ∧ (∀ a, Fa a → a ≠ D0 ∧ H a ≠ none) ∧ Imp ρ1 ρa ∧ Rps K H acc vs Fv ∧ (∀ a, Fv a → (Fe a ∨ H1 a = none) ∧ a ≠ D0 ∧ H a ≠ none) ∧ Dis Fa Fv ∧ G (lcC step (ds.drop i) acc ρa k)
theorem lc_core (elt tg it : Expr) (ifs : List Expr) (scope : Scope) (hf : few ifs = true) {σ : L2.St} {H : Hp} {Q : VK} (h : RdE X.K G A0 H0 false false (fun ρ k => iterE R C sc it ρ fun ds ρ1 =>
    ckK (hidOk ρ1 (ownI C scope)) <|
    lcC (lcStep R C sc elt tg ifs scope) ds [] (wipeE ρ1 (ownI C scope)) fun acc ρ6 => k (.lst acc) (wipeB ρ6 ρ1 (ownI C scope))) σ H Q) :
    tLc (RdI X.K G A0 H0 (iterE R C sc it)) (RdG X.K G (lcCd C scope) (relS scope sc) (R.G (lcCd C scope) (relS scope sc) tg)) (RdT X.K G A0 H0 (ifsE R (lcCd C scope) (relS scope sc) ifs))
      (RdE X.K G A0 H0 (isPath elt) (isCalm elt) (R.E (lcCd C scope) (relS scope sc) elt)) (ownI C scope) σ H Q := by
  obtain ⟨ρ, k, F, k0, f0, en, g, q⟩ := h
  refine ⟨ρ, _, F, k0, f0, en, g, fun ds ρ1 J H1 Fe B c1 src trB djB pds g1 => ?_⟩
  obtain ⟨hid, g1⟩ := ckK_of o.hG g1
  intro D0 hD
  have kp0 : Keep F0 H1 (upd H1 D0 (.lst [])) := Keep.new hD
  refine ⟨lcW X.K G (lcStep R C sc elt tg ifs scope) (ownI C scope) σ ρ1 Fe H1 D0 ds (fun acc ρ6 => k (.lst acc) (wipeB ρ6 ρ1 (ownI C scope))), ⟨ds.length, Nat.zero_le _, rfl, [], [], _, σ, Fe, F0, upd_same, kp0.mono (fun _ z => z.elim), ⟨rfl, rfl, Ens.stay kp0 _ _ _ (fun _ _ z => z) (ens_wipe c1.en _)⟩, fun _ z => .inl z, fun a z => ⟨fun e => c1.tr a z (by rw [e]; exact hD), fun e => c1.tr a z (kp0.g a e)⟩,
    wipeE_imp _ _, rfl, fun _ z => z.elim, fun _ _ z => z, g1⟩, fun i m H2 hw => ?_⟩
  obtain ⟨hi, rfl, acc, vs, ρa, τ, Fa, Fv, hD2, kp, ⟨wt, lt, ena⟩, fra, tra, ima, racc, trv, djv, ga⟩ := hw
  have kpB : Keep (fun a => ¬ B a) H1 H2 := kp.mono fun a z w => djB a z w
  have kA : Keep A0 H0 H2 := (c1.keep k0 f0).trans kp (c1.from k0 f0)
  have fAa : Fr A0 H0 Fa := (c1.from k0 f0).trans (c1.keep k0 f0) fra
  by_cases hlt : i < ds.length
  · refine .inr ⟨src.go H2 kpB i hlt, fun H' => lcW X.K G (lcStep R C sc elt tg ifs scope) (ownI C scope) σ ρ1 Fe H1 D0 ds (fun acc ρ6 => k (.lst acc) (wipeB ρ6 ρ1 (ownI C scope))) (i + 1) (ds.length - (i + 1)) H', fun H' h' => ⟨ds.length - (i + 1), by omega, h'⟩, fun x H' hy => ?_⟩
    obtain ⟨rfl, d, hd, rd⟩ := src.yld H2 kpB i x H' hy hlt
    have hdrop : ds.drop i = d :: ds.drop (i + 1) := by
      rw [List.drop_eq_getElem_cons hlt]
      rw [List.getElem?_eq_getElem hlt] at hd
      cases hd; rfl
    rw [hdrop] at ga
    have ena' := ens_wipe2 ena (ownI C scope)
    rw [wt] at ena'
    refine ⟨_, _, Fa, d, F0, ena', rd, fun _ _ z => z, ga, fun ρ3 σ3 F3 f3 en3 sl3 im3 _ g3 => ?_⟩
    have hF3 : ∀ a, F3 a → Fa a := fun a z => (f3 a z).elim id fun z => z.elim
    have pud : d.pu = true := pus_get pds hd
    have im13 : Imp ρ1 ρ3 := ima.trans ((wipeE_imp ρa _).trans (im3 pud))
    have w3 : L2.wipe σ3 (ownI C scope) = L2.wipe σ (ownI C scope) := by
      rw [lc_sl o sl3]; exact wipe_agree (L2.wipe_length _ _) _ fun j hj => Classical.byContradiction fun hn => hj (L2.wipe_out hn)
    have l3 : σ3.length = σ.length := by rw [sl3.1, L2.wipe_length]
    refine ⟨w3, ?_⟩
    have fA : Fr A0 H0 F3 := fAa.sub hF3
    refine ⟨ρ3, _, F3, kA, fA, en3, g3, fun b ρ4 H4 F4 c4 g4 => ?_⟩
    have kp4 : Keep Fe H1 H4 := kp.trans c4.kp (fra.sub hF3)
    have fr4 : Fr Fe H1 F4 := (fra.sub hF3).trans kp c4.fr
    have nD4 : ∀ a, F4 a → a ≠ D0 := fun a z e => (c4.fr a z).elim (fun w => (tra a (hF3 a w)).1 e) fun w => by rw [e, hD2] at w; cases w
    have hD4 : H4 D0 = some (.lst vs) := c4.kp.k _ _ hD2 (.inl fun z => (tra _ (hF3 _ z)).1 rfl)
    have racc4 : Rps X.K H4 acc vs Fv := Rps.stay c4.kp _ _ _ (fun a z w => djv a (hF3 a w) z) racc
    have trv4 : ∀ a, Fv a → (Fe a ∨ H1 a = none) ∧ a ≠ D0 ∧ H4 a ≠ none := fun a z => ⟨(trv a z).1, (trv a z).2.1, fun e => (trv a z).2.2 (c4.kp.g a e)⟩
    have dj4 : Dis F4 Fv := fun a z w => (c4.fr a z).elim (fun y => djv a (hF3 a y) w) fun y => (trv a w).2.2 y
    dsimp only
    cases b with
    | false =>
      rw [if_neg (by decide)]
      exact ⟨hlt, rfl, acc, vs, ρ4, σ3, F4, Fv, hD4, kp4, ⟨w3, l3, c4.en⟩, fr4, fun a z => ⟨nD4 a z, c4.tr a z⟩, im13.trans c4.im, racc4, trv4, dj4, g4⟩
    | true =>
      rw [if_pos rfl]
      refine ⟨ρ4, _, F4, kA.trans c4.kp fA, fA.trans kA c4.fr, c4.en, g4, fun dy ρ5 vy H5 F5 c5 v5 _ g5 => ?_⟩
      have g5' : G (match (some dy : Option D) with
        | some y => ckK (decide (acc.length < szLine)) (lcC (lcStep R C sc elt tg ifs scope) (ds.drop (i + 1)) (acc ++ [y]) ρ5 (fun acc ρ6 => k (.lst acc) (wipeB ρ6 ρ1 (ownI C scope))))
        | none => lcC (lcStep R C sc elt tg ifs scope) (ds.drop (i + 1)) acc ρ5 (fun acc ρ6 => k (.lst acc) (wipeB ρ6 ρ1 (ownI C scope)))) ∧ (isPath elt = true → dy.pu = true) := by
        unfold storK at g5
        by_cases hp : isPath elt = true
        · rw [if_pos hp] at g5
          obtain ⟨pu, g5⟩ := puK_of o.hG g5
          exact ⟨g5, fun _ => pu⟩
        · rw [if_neg hp] at g5
          exact ⟨g5, fun z => absurd z hp⟩
      obtain ⟨g6, hpu⟩ := g5'
      obtain ⟨hsz, g6⟩ := ckK_of o.hG g6
      obtain ⟨Fy, oy⟩ := v5.own hpu
      have hD5 : H5 D0 = some (.lst vs) := c5.kp.k _ _ hD4 (.inl fun z => nD4 _ z rfl)
      have kp5 : Keep Fe H1 H5 := kp4.trans c5.kp fr4
      have fr5 : Fr Fe H1 F5 := fr4.trans kp4 c5.fr
      have racc5 : Rps X.K H5 acc vs Fv := Rps.stay c5.kp _ _ _ (fun a z w => dj4 a w z) racc4
      have hlen := Rps.length _ _ _ racc5
      refine ⟨vs, hD5, by rw [hlen, ← szLine_eq]; exact of_decide_eq_true hsz, ?_⟩
      have one : Keep (fun x => x = D0) H5 (upd H5 D0 (.lst (vs ++ [vy]))) := keep_one hD5
      have nD5 : ∀ a, F5 a → a ≠ D0 := fun a z e => (c5.fr a z).elim (fun w => nD4 a w e) fun w => by rw [e, hD4] at w; cases w
      have nDv : ∀ a, Fv a → a ≠ D0 := fun a z => (trv a z).2.1
      have nDy : ∀ a, Fy a → a ≠ D0 := fun a z e => (oy.fr a z).elim (fun w => nD4 a w e) fun w => by rw [e, hD4] at w; cases w
      have djvy : Dis Fv Fy := fun a z w => (oy.fr a w).elim (fun y => dj4 a y z) fun y => (trv4 a z).2.2 y
      have frD : ∀ a, H5 a ≠ none → (upd H5 D0 (.lst (vs ++ [vy]))) a ≠ none := fun a z e => z (one.g a e)
      refine ⟨hlt, rfl, acc ++ [dy], vs ++ [vy], ρ5, σ3, F5, fun a => (Fv a ∨ Fy a), upd_same, keep_laid kp5 hD (by rw [hD5]; exact fun z => nomatch z), ⟨w3, l3, Ens.stay one _ _ _ (fun a z e => nD5 a z e) c5.en⟩, fr5, fun a z => ⟨nD5 a z, frD a (c5.tr a z)⟩, (im13.trans c4.im).trans c5.im,
        Rps.snoc _ _ _ _ _ _ (Rps.stay one _ _ _ (fun a z e => nDv a z e) racc5) (Rp.stay one _ _ _ (fun a z e => nDy a z e) oy.rp) djvy, fun a z => ?_, fun a z w => ?_, g6⟩
      · rcases z with z | z
        · exact ⟨(trv4 a z).1, nDv a z, frD a fun e => (trv4 a z).2.2 (c5.kp.g a e)⟩
        · exact ⟨(fr4.trans kp4 oy.fr) a z, nDy a z, frD a (oy.tr a z)⟩
      · rcases w with w | w
        · exact (c5.fr a z).elim (fun y => dj4 a y w) fun y => (trv4 a w).2.2 y
        · exact oy.dj a z w
  · have : i = ds.length := by omega
    subst this
    rw [List.drop_length] at ga
    refine .inl ⟨src.stop H2 kpB, ?_⟩
    have key := ens_back (K := X.K) (H := H2) (ρ0 := ρ1) (σ := σ) (Ens.length _ _ _ c1.en) (ownI C scope) ρa τ Fa hid (fun v d hv he => ?_) lt (fun j hj => ?_) ena
    · refine q (.lst acc) _ (.ref D0) H2 Fa ⟨c1.kp.trans kp c1.fr, c1.im.trans (ima.trans (wipeB_imp _ _ hid)), c1.fr.trans c1.kp fra, key, fun a z => (tra a z).2⟩ (.inr ⟨fun a => Fv a ∨ a = D0, fun a z => ?_, fun a z w => ?_, ⟨D0, vs, rfl, hD2, .inr rfl, Rps.mono _ _ _ _ (fun a z => ⟨.inl z, (trv a z).2.1⟩) racc⟩, fun a z => ?_⟩) (fun z => nomatch z) ga
      · rcases z with z | z
        · exact (trv a z).1.elim (fun y => c1.fr a y) fun y => .inr (c1.kp.g a y)
        · rw [z]; exact .inr (c1.kp.g _ hD)
      · rcases w with w | w
        · exact djv a z w
        · exact (tra a z).1 w
      · rcases z with z | z
        · exact (trv a z).2.2
        · rw [z, hD2]; exact fun z => nomatch z
    · have pu := hidOk_of hid hv he
      obtain ⟨x, hx, r⟩ := Ens.get _ _ _ _ _ c1.en he
      exact ⟨x, hx, Rp.stay kp _ _ _ (fun _ z => z.elim) (Rp.pure _ _ _ pu r)⟩
    · have := congrArg (fun l => l[j]?) wt
      simp only [L2.wipe_out hj] at this
      exact this
end
end TI
set_option Elab.async false
set_option linter.all false
set_option maxRecDepth 100000
set_option maxHeartbeats 4000000
/-! expressions; statements -/
namespace TI
open PySem PySem.Spec PyProof.Rows L2



section
variable {X : Cx} {C : Cd} {sc : Scope} {cx : CXT} {er : Er} {EX : XK} {G : Res → Prop} {A0 : Fp} {H0 : Hp} {R : Fns} (S : Snd R) (o : Okx X C sc cx er EX G A0 H0)
include S o
omit S o in
theorem fold_ok {it : Expr} (h : isSet it = false) (env : PySem.Env) : ∀ x, foldedSetIterable it env x = pure x := by
  intro x
  cases it <;> first
    | rfl
    | cases h
theorem e_lc (elt tg it : Expr) (ifs : List Expr) (scope : Scope) (p : Pos) : PE X (.ListComp elt [⟨tg, it, ifs, 0⟩] scope p) (RdE X.K G A0 H0 false false (lcE R C sc elt tg it ifs scope)) := by
  cases hb : blkC C.N sc scope (ownOf C.N scope) && few ifs && !isSet it with
  | false =>
    refine pe_bad fun σ H Q ⟨ρ, k, F, k0, f0, en, g, q⟩ => ?_
    unfold lcE at g
    rw [hb] at g
    exact absurd g o.hG
  | true =>
    have hb' := hb
    rw [Bool.and_eq_true, Bool.and_eq_true, Bool.not_eq_true'] at hb'
    refine PE.imp (pe_lc o.calm o.nd (i_iter S o tg it) (by rw [o.hN, o.hsc]; exact blkOk_by hb'.1.1) (fun s H Ce cl fp => S.G (okx_blk o scope s H Ce cl fp) tg) (fun s H Ce cl fp => ifs_ok S (okx_blk o scope s H Ce cl fp) hb'.1.2)
      (fun s H Ce cl fp => S.E (okx_blk o scope s H Ce cl fp) elt) (fold_ok hb'.2 _)) fun σ H Q ⟨ρ, k, F, k0, f0, en, g, q⟩ => lc_core S o elt tg it ifs scope hb'.1.2 ⟨ρ, k, F, k0, f0, en, ?_, q⟩
    unfold lcE at g
    rw [hb] at g
    exact g
theorem e_step (e : Expr) : PE X e (RdE X.K G A0 H0 (isPath e) (isCalm e) (stepE R C sc e)) := by
  cases e with
  | Name x p => exact e_name o x p
  | Constant c j p => exact e_const o c j p
  | Tuple es n p => exact e_tuple S o es n p
  | List es p => exact e_list S o es p
  | IfExp t a b p => exact e_if S o t a b p
  | BinOp a op b p =>
    cases a with
    | Constant c j q =>
      cases c with
      | str x =>
        cases op with
        | Add => exact e_wrt S o x j q b p
        | _ => exact e_binop S o _ b _ p
      | _ => exact e_binop S o _ b op p
    | _ => exact e_binop S o _ b op p
  | UnaryOp op a p =>
    cases op with
    | Not => exact e_not S o a p
    | USub => exact e_neg S o a p
    | _ => exact e_stuck o
  | Compare a ops bs p =>
    match ops, bs with
    | [], _ => exact e_stuck o
    | [op], [] => exact e_stuck o
    | [op], [b] => exact e_cmp S o a op b p
    | [op], _ :: _ :: _ => exact e_stuck o
    | _ :: _ :: _, _ => exact e_stuck o
  | BoolOp op vs p =>
    cases op with
    | And =>
      match vs with
      | [] => exact e_stuck o
      | [a] => exact e_one S o .And a p
      | a :: b :: r => exact e_and S o a b r p
    | Or =>
      match vs with
      | [] => exact e_stuck o
      | [a] => exact e_one S o .Or a p
      | a :: b :: r => exact e_or S o a b r p
  | Subscript b i p =>
    cases hi : notSl i with
    | false =>
      cases i with
      | Slice lo hh st p2 =>
        cases st with
        | none => exact e_slice S o b lo hh p p2
        | some st => exact PE.imp (e_stuck o) fun _ _ _ h => h
      | _ => cases hi
    | true =>
      have fl : isPath (.Subscript b i p) = true := by cases i <;> first
        | rfl
        | cases hi
      rw [fl]
      cases b with
      | Name x xp =>
        refine PE.imp (e_ixN S o x xp i p hi) fun σ H Q h => ?_
        have e : stepE R C sc (.Subscript (.Name x xp) i p) = ixN1 R C sc x i := by
          cases i <;> first
            | rfl
            | cases hi
        rw [e] at h; exact h
      | _ =>
        refine PE.imp (e_ix S o _ i p hi) fun σ H Q h => ?_
        cases i <;> first
          | exact h
          | cases hi
  | Call f args kw p =>
    cases kw with
    | cons _ _ =>
      cases f <;> exact e_stuck o
    | nil =>
      cases f with
      | Name f fp =>
        cases hst : noStar args with
        | false =>
          refine pe_bad fun σ H Q ⟨ρ, k, F, k0, f0, en, g, q⟩ => ?_
          dsimp only [stepE] at g
          rw [hst] at g
          exact absurd g o.hG
        | true =>
          cases hf : isFn C sc f with
          | some n =>
            refine PE.imp (e_call S o f fp n args p hf hst) fun σ H Q ⟨ρ, k, F, k0, f0, en, g, q⟩ => ⟨ρ, k, F, k0, f0, en, ?_, q⟩
            dsimp only [stepE] at g
            rw [hst, hf] at g
            exact g
          | none =>
            cases hb : isBi C sc f with
            | false =>
              refine pe_bad fun σ H Q ⟨ρ, k, F, k0, f0, en, g, q⟩ => ?_
              dsimp only [stepE] at g
              rw [hst, hf] at g
              dsimp only at g
              rw [hb] at g
              exact absurd g o.hG
            | true =>
              by_cases hi : f = "isinstance"
              · subst hi
                refine PE.imp (e_isi S o fp args p hb hst) fun σ H Q ⟨ρ, k, F, k0, f0, en, g, q⟩ => ⟨ρ, k, F, k0, f0, en, ?_, q⟩
                dsimp only [stepE] at g
                rw [hst, hf] at g
                dsimp only at g
                rw [hb, if_pos rfl] at g
                exact g
              · refine PE.imp (e_bi S o f fp args p hb hst) fun σ H Q ⟨ρ, k, F, k0, f0, en, g, q⟩ => ⟨ρ, k, F, k0, f0, en, ?_, q⟩
                dsimp only [stepE] at g
                rw [hst, hf] at g
                dsimp only at g
                rw [hb, if_neg hi] at g
                exact g
      | Attribute ob m ap =>
        cases hg : opG ob && (ap.endLine == p.line) && noStar args && !args.isEmpty && decide (args.length < 20) with
        | false =>
          refine pe_bad fun σ H Q ⟨ρ, k, F, k0, f0, en, g, q⟩ => ?_
          dsimp only [stepE] at g
          rw [hg] at g
          exact absurd g o.hG
        | true =>
          have hg' := hg
          rw [Bool.and_eq_true, Bool.and_eq_true, Bool.and_eq_true, Bool.and_eq_true, Bool.not_eq_true', decide_eq_true_eq] at hg'
          refine PE.imp (e_meth S o ob m args ap p hg'.1.1.1.1 hg'.1.1.1.2 hg'.1.1.2 (fun e => by rw [e] at hg'; cases hg'.1.2) hg'.2) fun σ H Q ⟨ρ, k, F, k0, f0, en, g, q⟩ => ⟨ρ, k, F, k0, f0, en, ?_, q⟩
          dsimp only [stepE] at g
          rw [hg] at g
          exact g
      | _ => exact e_stuck o
  | ListComp elt gs scope p =>
    match gs with
    | [] => exact e_stuck o
    | [⟨tg, it, ifs, .ofNat 0⟩] => exact e_lc S o elt tg it ifs scope p
    | [⟨tg, it, ifs, .ofNat (n + 1)⟩] => exact e_stuck o
    | [⟨tg, it, ifs, .negSucc n⟩] => exact e_stuck o
    | ⟨tg, it, ifs, .ofNat 0⟩ :: _ :: _ => exact e_stuck o
    | ⟨tg, it, ifs, .ofNat (n + 1)⟩ :: _ :: _ => exact e_stuck o
    | ⟨tg, it, ifs, .negSucc n⟩ :: _ :: _ => exact e_stuck o
  | _ => exact e_stuck o
end
end TI
set_option Elab.async false
set_option linter.all false
set_option maxRecDepth 100000
set_option maxHeartbeats 4000000
/-! statements -/
namespace TI
open PySem PySem.Spec PyProof.Rows L2



section
variable {K : PySem.W.Frag} {G : Res → Prop} {np : Nat} {vs : List V} {F F' : Fp} {H H' : Hp} {E : Nx} {D : Ends}
theorem NxOk.shift (n : NxOk K G np vs F H E D) (k : Keep F H H') (f : Fr F H F') : NxOk K G np vs F' H' E D where
  nx := fun ρ' σ' H2 F2 k2 f2 => n.nx ρ' σ' H2 F2 (k.trans k2 f) (f.trans k f2)
  bk := fun ρ' σ' H2 F2 k2 f2 => n.bk ρ' σ' H2 F2 (k.trans k2 f) (f.trans k f2)
  ct := fun ρ' σ' H2 F2 k2 f2 => n.ct ρ' σ' H2 F2 (k.trans k2 f) (f.trans k f2)
  rt := fun d ρ' σ' v H2 F2 Fv k2 f2 fv => n.rt d ρ' σ' v H2 F2 Fv (k.trans k2 f) (f.trans k f2) (f.trans k fv)
end
section
variable {X : Cx} {C : Cd} {sc : Scope} {cx : CXT} {er : Er} {EX : XK} {G : Res → Prop} {A0 : Fp} {H0 : Hp} {R : Fns} (S : Snd R) (o : Okx X C sc cx er EX G A0 H0) (vs : List V)
include S o
omit S in
theorem s_stuck {st : Stmt} : PS X st (RdS X.K G A0 H0 C.np vs (fun _ _ => .stuck)) := ps_bad fun D σ H ⟨ρ, E, F, k0, f0, en, pa, g, n⟩ => absurd g o.hG
theorem s_pass (p : Pos) : PS X (.Pass p) (RdS X.K G A0 H0 C.np vs (fun ρ E => E.nx ρ)) :=
  PS.imp ps_pass fun D σ H ⟨ρ, E, F, k0, f0, en, pa, g, n⟩ => n.nx ρ σ H F (Keep.refl _ _) (Fr.refl _ _) en pa g
theorem s_break (p : Pos) : PS X (.Break p) (RdS X.K G A0 H0 C.np vs (fun ρ E => E.bk ρ)) :=
  PS.imp ps_break fun D σ H ⟨ρ, E, F, k0, f0, en, pa, g, n⟩ => n.bk ρ σ H F (Keep.refl _ _) (Fr.refl _ _) en pa g
theorem s_cont (p : Pos) : PS X (.Continue p) (RdS X.K G A0 H0 C.np vs (fun ρ E => E.ct ρ)) :=
  PS.imp ps_continue fun D σ H ⟨ρ, E, F, k0, f0, en, pa, g, n⟩ => n.ct ρ σ H F (Keep.refl _ _) (Fr.refl _ _) en pa g
omit S o in
theorem swaps_no {e : Expr} (h : isLc e = false) (t : Option Expr) (l : Nat) (env : PySem.Env) : swapsWith e t l env = pure false := by
  cases e <;> first
    | rfl
    | cases h
theorem s_expr (e : Expr) (p : Pos) : PS X (.Expr e p) (RdS X.K G A0 H0 C.np vs (fun ρ E => ckK (!isLc e) (R.E C sc e ρ fun _ ρ1 => E.nx ρ1))) := by
  cases hl : isLc e with
  | true => exact s_stuck o vs
  | false =>
    refine PS.imp (ps_expr (S.E o e) (swaps_no hl _ _ _)) fun D σ H ⟨ρ, E, F, k0, f0, en, pa, g, n⟩ => ?_
    exact ⟨ρ, _, F, k0, f0, en, g, fun d ρ1 v H1 Fe c1 v1 _ g1 => n.nx ρ1 σ H1 Fe c1.kp c1.fr c1.en (pa.imp c1.im) g1⟩
theorem s_retN (p : Pos) : PS X (.Return none p) (RdS X.K G A0 H0 C.np vs (fun ρ E => E.rt .non ρ)) :=
  PS.imp ps_retN fun D σ H ⟨ρ, E, F, k0, f0, en, pa, g, n⟩ => n.rt .non ρ σ .non H F F0 (Keep.refl _ _) (Fr.refl _ _) (fun _ z => z.elim) (fun _ _ z => z) en pa rfl g
theorem storK_of {e : Expr} {d : D} {r : Res} (g : G (storK e d r)) : G r ∧ (isPath e = true → d.pu = true) := by
  unfold storK at g
  by_cases hp : isPath e = true
  · rw [if_pos hp] at g
    obtain ⟨pu, g⟩ := puK_of o.hG g
    exact ⟨g, fun _ => pu⟩
  · rw [if_neg hp] at g
    exact ⟨g, fun z => absurd z hp⟩
theorem s_ret (e : Expr) (p : Pos) : PS X (.Return (some e) p) (RdS X.K G A0 H0 C.np vs (fun ρ E => R.E C sc e ρ fun d ρ1 => storK e d (E.rt d ρ1))) := by
  refine PS.imp (ps_ret (S.E o e)) fun D σ H ⟨ρ, E, F, k0, f0, en, pa, g, n⟩ => ?_
  refine ⟨ρ, _, F, k0, f0, en, g, fun d ρ1 v H1 Fe c1 v1 _ g1 => ?_⟩
  obtain ⟨g1, hp⟩ := storK_of S o g1
  obtain ⟨Fv, ow⟩ := v1.own hp
  exact n.rt d ρ1 σ v H1 Fe Fv c1.kp c1.fr ow.fr ow.dj c1.en (pa.imp c1.im) ow.rp g1
theorem s_retV (x : Str) (xp p : Pos) : PS X (.Return (some (.Name x xp)) p) (RdS X.K G A0 H0 C.np vs (stepS1 R C sc (.Return (some (.Name x xp)) p))) := by
  cases hs : slotOf C sc x with
  | none =>
    refine PS.imp (ps_ret (S.E o (.Name x xp))) fun D σ H ⟨ρ, E, F, k0, f0, en, pa, g, n⟩ => ?_
    dsimp only [stepS1] at g
    rw [hs] at g
    refine ⟨ρ, _, F, k0, f0, en, g, fun d ρ1 v H1 Fe c1 v1 _ g1 => ?_⟩
    obtain ⟨pu, g1⟩ := puK_of o.hG g1
    obtain ⟨Fv, ow⟩ := v1.own fun _ => pu
    exact n.rt d ρ1 σ v H1 Fe Fv c1.kp c1.fr ow.fr ow.dj c1.en (pa.imp c1.im) ow.rp g1
  | some i =>
    obtain ⟨x1, x2, x3, x4⟩ := o.toCok.visx hs
    refine PS.imp (ps_ret (pe_var (i := i) x1 x2 x3 x4)) fun D σ H ⟨ρ, E, F, k0, f0, en, pa, g, n⟩ => ?_
    dsimp only [stepS1] at g
    rw [hs] at g
    obtain ⟨d, hd, g⟩ := getK_of o.hG g
    cases pu : d.pu with
    | true =>
      rw [pu] at g
      obtain ⟨v, hv, r⟩ := Ens.get _ _ _ _ _ en hd
      exact ⟨v, hv, n.rt d ρ σ v H F F0 (Keep.refl _ _) (Fr.refl _ _) (fun _ z => z.elim) (fun _ _ z => z) en pa (Rp.pure _ _ _ pu r) g⟩
    | false =>
      rw [pu] at g
      obtain ⟨hi, g⟩ := ckK_of o.hG g
      obtain ⟨v, G1, G2, hv, r, en2, s1, s2, dj⟩ := Ens.take _ _ _ _ _ en hd
      refine ⟨v, hv, n.rt d (ρ.set i none) σ v H G2 G1 (Keep.refl _ _) (fun a z => .inl (s2 a z)) (fun a z => .inl (s1 a z)) (fun a z w => dj a w z) en2 (fun j d' hj e p' => ?_) r g⟩
      have : i ≠ j := fun e' => by have := of_decide_eq_true hi; omega
      rw [List.getElem?_set_ne this] at e
      exact pa j d' hj e p'
/-- a slot takes a value -/
theorem set_ok {i : Nat} {d : D} {v : V} {σ : L2.St} {H : Hp} {ρ : Env} {F Fv : Fp} {k : Env → Res} (en : Ens X.K H ρ σ F) (rp : Rp X.K H d v Fv) (dj : Dis F Fv) (pa : Par C.np vs σ ρ) (g : G (setK C i d ρ k)) :
    Ens X.K H (ρ.set i (some d)) (σ.set i (some v)) (fun a => F a ∨ Fv a) ∧ Par C.np vs (σ.set i (some v)) (ρ.set i (some d)) ∧ G (k (ρ.set i (some d))) := by
  have par : (i < C.np → d.pu = true) → Par C.np vs (σ.set i (some v)) (ρ.set i (some d)) := fun hd j d' hj e p' => by
    by_cases hij : i = j
    · subst hij
      rw [List.getElem?_set] at e
      rw [if_pos rfl] at e
      split at e
      · cases e; rw [hd hj] at p'; cases p'
      · cases e
    · rw [List.getElem?_set_ne hij] at e
      rw [List.getElem?_set_ne hij]
      exact pa j d' hj e p'
  unfold setK at g
  by_cases hnp : i < C.np
  · rw [if_pos hnp] at g
    obtain ⟨pu, g⟩ := puK_of o.hG g
    split at g
    · obtain ⟨_, g⟩ := puK_of o.hG g
      exact ⟨Ens.put _ _ _ _ i d v en rp dj, par fun _ => pu, g⟩
    · exact absurd g o.hG
  · rw [if_neg hnp] at g
    exact ⟨Ens.put _ _ _ _ i d v en rp dj, par fun z => absurd z hnp, g⟩
theorem s_setN (x : Str) (xp p : Pos) (e : Expr) : PS X (.Assign [.Name x xp] e p) (RdS X.K G A0 H0 C.np vs (stepS1 R C sc (.Assign [.Name x xp] e p))) := by
  cases hs : slotOf C sc x with
  | none =>
    refine ps_bad fun D σ H ⟨ρ, E, F, k0, f0, en, pa, g, n⟩ => ?_
    dsimp only [stepS1] at g
    rw [hs] at g
    exact absurd g o.hG
  | some i =>
    cases hc : C.own x && locl sc x with
    | false =>
      refine ps_bad fun D σ H ⟨ρ, E, F, k0, f0, en, pa, g, n⟩ => ?_
      dsimp only [stepS1] at g
      rw [hs] at g
      dsimp only at g
      rw [hc] at g
      exact absurd g o.hG
    | true =>
      rw [Bool.and_eq_true] at hc
      obtain ⟨x1, x2, x3, x4⟩ := o.toCok.visx hs
      have hl : Loc X.env.scope x := by rw [o.hsc]; exact locl_of hc.2
      cases hlc : isLc e with
      | false =>
        refine PS.imp (ps_set o.nd x1 hl (S.E o e) (swaps_no hlc _ _ _) (o.own x hc.1 hc.2)) fun D σ H ⟨ρ, E, F, k0, f0, en, pa, g, n⟩ => ?_
        dsimp only [stepS1] at g
        rw [hs] at g
        dsimp only at g
        rw [hc.1, hc.2, hlc] at g
        replace g : G (R.E C sc e ρ _) := g
        refine ⟨ρ, _, F, k0, f0, en, g, fun d ρ1 v H1 Fe c1 v1 _ g1 => ?_⟩
        obtain ⟨g1, hp⟩ := storK_of S o g1
        obtain ⟨Fv, ow⟩ := v1.own hp
        obtain ⟨en2, pa2, g2⟩ := set_ok S o vs c1.en ow.rp ow.dj (pa.imp c1.im) g1
        exact n.nx _ _ H1 _ c1.kp (fun a z => z.elim (c1.fr a) (ow.fr a)) en2 pa2 g2
      | true =>
        cases ho : lcOf e with
        | none =>
          refine ps_bad fun D σ H ⟨ρ, E, F, k0, f0, en, pa, g, n⟩ => ?_
          dsimp only [stepS1] at g
          rw [hs] at g
          dsimp only at g
          rw [hc.1, hc.2, hlc, ho] at g
          exact absurd g o.hG
        | some q =>
          obtain ⟨elt, tg', it, ifs, scope⟩ := q
          obtain ⟨ep, rfl⟩ : ∃ ep, e = .ListComp elt [⟨tg', it, ifs, 0⟩] scope ep := by
            unfold lcOf at ho
            split at ho
            · cases ho; exact ⟨_, rfl⟩
            · cases ho
          have red : ∀ {ρ : Env} {E : Nx}, G (stepS1 R C sc (.Assign [.Name x xp] (.ListComp elt [⟨tg', it, ifs, 0⟩] scope ep) p) ρ E) → G (lcE R C sc elt tg' it ifs scope ρ fun d ρ1 => setK C i d ρ1 E.nx) := fun {ρ E} g => by
            dsimp only [stepS1] at g
            rw [hs] at g
            dsimp only at g
            rw [hc.1, hc.2] at g
            exact g
          by_cases hsw : swapsWith (.ListComp elt [⟨tg', it, ifs, 0⟩] scope ep) (some (.Name x xp)) p.line X.env = pure true ∧ X.env.scope.names.lookup x = some .local
          · cases hb : blkC C.N sc scope (ownOf C.N scope) && few ifs && !isSet it with
            | false =>
              refine ps_bad fun D σ H ⟨ρ, E, F, k0, f0, en, pa, g, n⟩ => ?_
              replace g := red g
              unfold lcE at g
              rw [hb] at g
              exact absurd g o.hG
            | true =>
              have hb' := hb
              rw [Bool.and_eq_true, Bool.and_eq_true, Bool.not_eq_true'] at hb'
              refine PS.imp (ps_setLc (tt := RdT X.K G A0 H0 (ifsE R (lcCd C scope) (relS scope sc) ifs)) (g := RdG X.K G (lcCd C scope) (relS scope sc) (R.G (lcCd C scope) (relS scope sc) tg')) (te := RdE X.K G A0 H0 (isPath elt) (isCalm elt) (R.E (lcCd C scope) (relS scope sc) elt)) o.calm o.nd x1 hsw.2 hsw.1 (i_iter S o tg' it) (by rw [o.hN, o.hsc]; exact blkOk_by hb'.1.1) (fun s H Ce cl fp => S.G (okx_blk o scope s H Ce cl fp) tg') (fun s H Ce cl fp => ifs_ok S (okx_blk o scope s H Ce cl fp) hb'.1.2)
                (fun s H Ce cl fp => S.E (okx_blk o scope s H Ce cl fp) elt) (fold_ok hb'.2 _)) fun D σ H ⟨ρ, E, F, k0, f0, en, pa, g, n⟩ => ?_
              replace g := red g
              unfold lcE at g
              rw [hb] at g
              refine lc_core S o elt tg' it ifs scope hb'.1.2 ⟨ρ, fun d ρ1 => setK C i d ρ1 E.nx, F, k0, f0, en, g, fun d ρ1 v H1 Fe c1 v1 _ g1 => ?_⟩
              obtain ⟨Fv, ow⟩ := v1.own fun z => nomatch z
              obtain ⟨en2, pa2, g2⟩ := set_ok S o vs c1.en ow.rp ow.dj (pa.imp c1.im) g1
              exact n.nx _ _ H1 _ c1.kp (fun a z => z.elim (c1.fr a) (ow.fr a)) en2 pa2 g2
          · have hsf : swapsWith (.ListComp elt [⟨tg', it, ifs, 0⟩] scope ep) (some (.Name x xp)) p.line X.env = pure false := by
              obtain ⟨b, hb, hbl⟩ : ∃ b, swapsWith (.ListComp elt [⟨tg', it, ifs, 0⟩] scope ep) (some (.Name x xp)) p.line X.env = pure b ∧ (b = true → X.env.scope.names.lookup x = some .local) := ⟨_, rfl, fun h => by
                rw [Bool.and_eq_true, Bool.and_eq_true, Bool.and_eq_true] at h
                exact eq_of_beq h.1.1.2⟩
              cases b with
              | false => exact hb
              | true => exact absurd ⟨hb, hbl rfl⟩ hsw
            refine PS.imp (ps_set o.nd x1 hl (e_lc S o elt tg' it ifs scope ep) hsf (o.own x hc.1 hc.2)) fun D σ H ⟨ρ, E, F, k0, f0, en, pa, g, n⟩ => ?_
            replace g := red g
            refine ⟨ρ, _, F, k0, f0, en, g, fun d ρ1 v H1 Fe c1 v1 _ g1 => ?_⟩
            obtain ⟨Fv, ow⟩ := v1.own fun z => nomatch z
            obtain ⟨en2, pa2, g2⟩ := set_ok S o vs c1.en ow.rp ow.dj (pa.imp c1.im) g1
            exact n.nx _ _ H1 _ c1.kp (fun a z => z.elim (c1.fr a) (ow.fr a)) en2 pa2 g2
theorem s_setT (es : List Expr) (m : Nat) (tp p : Pos) (e : Expr) : PS X (.Assign [.Tuple es m tp] e p) (RdS X.K G A0 H0 C.np vs (stepS1 R C sc (.Assign [.Tuple es m tp] e p))) := by
  cases hl : !isLc e && !isTup e with
  | false =>
    refine ps_bad fun D σ H ⟨ρ, E, F, k0, f0, en, pa, g, n⟩ => ?_
    dsimp only [stepS1] at g
    rw [hl] at g
    exact absurd g o.hG
  | true =>
    have hl' := hl
    rw [Bool.and_eq_true, Bool.not_eq_true', Bool.not_eq_true'] at hl'
    refine PS.imp (ps_asg (S.E o e) (S.G o (.Tuple es m tp)) (swaps_no hl'.1 (some (.Tuple es m tp)) p.line X.env) (by
      cases e <;> first
        | rfl
        | cases hl'.2) rfl) fun D σ H ⟨ρ, E, F, k0, f0, en, pa, g, n⟩ => ?_
    dsimp only [stepS1] at g
    rw [hl] at g
    replace g : G (R.E C sc e ρ _) := g
    refine ⟨ρ, _, F, k0, f0, en, g, fun d ρ1 v H1 Fe c1 v1 _ g1 => ?_⟩
    obtain ⟨hp, g1⟩ := ckK_of o.hG g1
    obtain ⟨Fv, ow⟩ := v1.own fun z => by rw [z] at hp; exact hp
    exact ⟨ρ1, _, Fe, d, Fv, c1.en, ow.rp, ow.dj, g1, fun ρ' σ' F' f' en' sl _ pa' g' => n.nx ρ' σ' H1 F' c1.kp (fun a z => (f' a z).elim (c1.fr a) (ow.fr a)) en' (pa' vs (pa.imp c1.im)) g'⟩
theorem s_setI (x : Str) (xp tp p : Pos) (i e : Expr) : PS X (.Assign [.Subscript (.Name x xp) i tp] e p) (RdS X.K G A0 H0 C.np vs (stepS1 R C sc (.Assign [.Subscript (.Name x xp) i tp] e p))) := by
  cases hl : !isLc e && !isSl i with
  | false =>
    refine ps_bad fun D σ H ⟨ρ, E, F, k0, f0, en, pa, g, n⟩ => ?_
    dsimp only [stepS1] at g
    rw [hl] at g
    exact absurd g o.hG
  | true =>
    have hl' := hl
    rw [Bool.and_eq_true, Bool.not_eq_true', Bool.not_eq_true'] at hl'
    cases hs : slotOf C sc x with
    | none =>
      refine ps_bad fun D σ H ⟨ρ, E, F, k0, f0, en, pa, g, n⟩ => ?_
      dsimp only [stepS1] at g
      rw [hl, hs] at g
      exact absurd g o.hG
    | some j =>
      obtain ⟨x1, x2, x3, x4⟩ := o.toCok.visx hs
      refine PS.imp (ps_asg (S.E o e) (pg_sub (pe_var (i := j) x1 x2 x3 x4) (S.E o i) set_list (by
        intro v
        cases i <;> first
          | rfl
          | cases hl'.2)) (swaps_no hl'.1 (some (.Subscript (.Name x xp) i tp)) p.line X.env) (by cases e <;> rfl) rfl) fun D σ H ⟨ρ, E, F, k0, f0, en, pa, g, n⟩ => ?_
      dsimp only [stepS1] at g
      rw [hl, hs] at g
      replace g : G (R.E C sc e ρ _) := g
      refine ⟨ρ, _, F, k0, f0, en, g, fun d ρ1 v H1 Fe c1 v1 _ g1 => ?_⟩
      obtain ⟨pu, g1⟩ := puK_of o.hG g1
      obtain ⟨Fd, rd⟩ := v1.any
      obtain ⟨c0, hc0, g1⟩ := getK_of o.hG g1
      obtain ⟨lv, hlv, _⟩ := Ens.get _ _ _ _ _ c1.en hc0
      refine ⟨lv, hlv, ρ1, _, Fe, c1.keep k0 f0, c1.from k0 f0, c1.en, g1, fun y ρ2 iv H2 Fe2 c2 v2 _ g2 => ?_⟩
      obtain ⟨m, hm, g2⟩ := oK_of o.hG g2
      obtain ⟨Fy, ry⟩ := v2.any
      cases y with
      | int m' =>
        have hmm' : m' = m := by cases hm; rfl
        subst hmm'
        cases (show iv = .int m' from ry)
        obtain ⟨c, hc, g2⟩ := getK_of o.hG g2
        cases c with
        | lst ds =>
          obtain ⟨mm, hmm, g2⟩ := oK_of o.hG g2
          obtain ⟨lv', E1, E2, hv', r', en', t1, t2, d12⟩ := Ens.take _ _ _ _ _ c2.en hc
          obtain ⟨a, us, rfl, ha, hE, hus⟩ := r'
          rw [hlv] at hv'; cases hv'
          have hlen := Rps.length _ _ _ hus
          have rd2 : Rp X.K H2 d v F0 := keep_pure rd pu c2
          have one : Keep (fun z => z = a) H2 (upd H2 a (.lst (us.set mm v))) := keep_one ha
          refine ⟨a, us, m', mm, rfl, rfl, ha, by rw [hlen]; exact hmm, ?_⟩
          have na2 : ¬ E2 a := fun z => d12 a hE z
          have rp1 : Rps X.K (upd H2 a (.lst (us.set mm v))) (ds.set mm d) (us.set mm v) (fun b => E1 b ∧ b ≠ a) :=
            Rps.mono _ _ _ _ (fun b hb => hb.elim id fun z => z.elim) (Rps.set _ _ _ F0 mm d v (Rps.stay one _ _ _ (fun b hb e => hb.2 e) hus) (Rp.stay one _ _ _ (fun _ z => z.elim) rd2) fun _ _ z => z)
          have rp : Rp X.K (upd H2 a (.lst (us.set mm v))) (.lst (ds.set mm d)) (.ref a) E1 := ⟨a, us.set mm v, rfl, upd_same, hE, rp1⟩
          have en3 := Ens.back (Ens.stay one _ _ _ (fun b hb (e : b = a) => na2 (e ▸ hb)) en') hlv rp (fun b p q => d12 b q p)
          have c12 := c1.trans c2
          refine n.nx _ σ _ _ (c12.kp.trans (one.mono fun b e => (show b = a from e) ▸ t1 a hE) c12.fr) (fun b z => z.elim (fun w => c12.fr b (t2 b w)) fun w => c12.fr b (t1 b w)) en3 ((pa.imp c12.im).imp fun q d' e p' => ?_) g2
          by_cases hj : j = q
          · subst hj; exact ⟨_, hc, rfl⟩
          · rw [List.getElem?_set_ne hj] at e; exact ⟨d', e, p'⟩
        | _ => exact absurd g2 o.hG
      | _ => cases hm
theorem s_aug (x : Str) (xp p : Pos) (op : Operator) (e : Expr) : PS X (.AugAssign (.Name x xp) op e p) (RdS X.K G A0 H0 C.np vs (stepS1 R C sc (.AugAssign (.Name x xp) op e p))) := by
  cases hs : slotOf C sc x with
  | none =>
    refine ps_bad fun D σ H ⟨ρ, E, F, k0, f0, en, pa, g, n⟩ => ?_
    dsimp only [stepS1] at g
    rw [hs] at g
    exact absurd g o.hG
  | some i =>
    cases hc : C.own x && locl sc x && isAS op with
    | false =>
      refine ps_bad fun D σ H ⟨ρ, E, F, k0, f0, en, pa, g, n⟩ => ?_
      dsimp only [stepS1] at g
      rw [hs] at g
      dsimp only at g
      rw [hc] at g
      exact absurd g o.hG
    | true =>
      have hc' := hc
      rw [Bool.and_eq_true, Bool.and_eq_true] at hc'
      obtain ⟨x1, x2, x3, x4⟩ := o.toCok.visx hs
      have hl : Loc X.env.scope x := by rw [o.hsc]; exact locl_of hc'.1.2
      have hop : PIp X op (fun x y H Q => ∃ dx dy Fx Fy k, Rp X.K H dx x Fx ∧ Rp X.K H dy y Fy ∧ G (augD op dx dy k) ∧ VRes G X.K k H Q) := by
        intro pins s σ H x y v u Q I r1 r2 h
        obtain ⟨dx, dy, Fx, Fy, k, hx, hy, g, q⟩ := h
        unfold augD at g
        split at g
        · cases (show x = .int _ from hx)
          cases (show y = .int _ from hy)
          exact ip_add pins s σ H _ _ v u Q I r1 r2 ⟨_, _, rfl, rfl, q.here (d := .int _) rfl g⟩
        · cases (show x = .str _ from hx)
          cases (show y = .str _ from hy)
          obtain ⟨hz, g⟩ := ckK_of o.hG g
          exact iop_add_str pins s σ H _ _ v u Q I r1 r2 ⟨_, _, rfl, rfl, by rw [← szLine_eq]; exact of_decide_eq_true hz, q.here (d := .str _) rfl g⟩
        · cases (show x = .int _ from hx)
          cases (show y = .int _ from hy)
          exact ip_sub pins s σ H _ _ v u Q I r1 r2 ⟨_, _, rfl, rfl, q.here (d := .int _) rfl g⟩
        · exact absurd g o.hG
      refine PS.imp (ps_aug o.nd x1 hl (S.E o e) hop (o.own x hc'.1.1 hc'.1.2)) fun D σ H ⟨ρ, E, F, k0, f0, en, pa, g, n⟩ => ?_
      dsimp only [stepS1] at g
      rw [hs] at g
      dsimp only at g
      rw [hc] at g
      obtain ⟨d, hd, g⟩ := getK_of o.hG (show G (getK ρ i _) from g)
      obtain ⟨pu, g⟩ := puK_of o.hG g
      obtain ⟨v, hv, r⟩ := Ens.get _ _ _ _ _ en hd
      refine ⟨v, hv, ρ, _, F, k0, f0, en, g, fun y ρ1 w H1 Fe c1 v1 _ g1 => ?_⟩
      obtain ⟨Fy, hy⟩ := v1.any
      refine ⟨d, y, F0, Fy, _, Rp.stay c1.kp _ _ _ (fun _ z => z.elim) (Rp.pure _ _ _ pu r), hy, g1, fun z zv H2 Fz kp fr rp g2 => ?_⟩
      have c1' := c1.grow kp
      have ow := c1.val kp fr rp
      obtain ⟨en2, pa2, g3⟩ := set_ok S o vs c1'.en ow.rp ow.dj (pa.imp c1.im) g2
      exact n.nx _ _ H2 _ c1'.kp (fun a z => z.elim (c1'.fr a) (ow.fr a)) en2 pa2 g3
theorem s_if (c : Expr) (a b : List Stmt) (p : Pos) : PS X (.If c a b p) (RdS X.K G A0 H0 C.np vs (stepS1 R C sc (.If c a b p))) := by
  refine PS.imp (ps_if (S.T o c) (S.S o vs a) (S.S o vs b)) fun D σ H ⟨ρ, E, F, k0, f0, en, pa, g, n⟩ => ?_
  refine ⟨ρ, _, F, k0, f0, en, g, fun t ρ1 H1 Fe c1 g1 => ?_⟩
  dsimp only
  cases t with
  | true =>
    rw [if_pos rfl]
    exact ⟨ρ1, E, Fe, c1.keep k0 f0, c1.from k0 f0, c1.en, pa.imp c1.im, g1, n.shift c1.kp c1.fr⟩
  | false =>
    rw [if_neg (by decide)]
    exact ⟨ρ1, E, Fe, c1.keep k0 f0, c1.from k0 f0, c1.en, pa.imp c1.im, g1, n.shift c1.kp c1.fr⟩
theorem s_while (c : Expr) (body : List Stmt) (p : Pos) : PS X (.While c body [] p) (RdS X.K G A0 H0 C.np vs (stepS1 R C sc (.While c body [] p))) := by
  refine PS.imp (ps_while o.pas (S.T o c) (S.S o vs body)) fun D σ H ⟨ρ, E, F, k0, f0, en, pa, g, n⟩ => ?_
  refine ⟨fun m σ' H' => ∃ ρa Fa, Keep F H H' ∧ Fr F H Fa ∧ Ens X.K H' ρa σ' Fa ∧ Par C.np vs σ' ρa ∧ G (whileC (fun ρ1 k => R.T C sc c ρ1 k) (fun ρ1 E2 => R.S C sc body ρ1 E2) m ρa E), ⟨C.wf, ρ, F, Keep.refl _ _, Fr.refl _ _, en, pa, g⟩, fun m σ1 H1 hw => ?_⟩
  obtain ⟨ρa, Fa, kp, fr, ena, paa, ga⟩ := hw
  cases m with
  | zero => exact absurd ga o.hG
  | succ m =>
    have kA := k0.trans kp f0
    have fA := f0.trans k0 fr
    refine ⟨ρa, _, Fa, kA, fA, ena, ga, fun t ρ1 H2 Fe c1 g1 => ?_⟩
    have kp2 := kp.trans c1.kp fr
    have fr2 := fr.trans kp c1.fr
    dsimp only
    cases t with
    | false =>
      rw [if_neg (by decide)]
      exact n.nx ρ1 σ1 H2 Fe kp2 fr2 c1.en (paa.imp c1.im) g1
    | true =>
      rw [if_pos rfl]
      have nn : ∀ ρ' σ' H' F', Keep Fe H2 H' → Fr Fe H2 F' → Ens X.K H' ρ' σ' F' → Par C.np vs σ' ρ' → G (whileC (fun ρ1 k => R.T C sc c ρ1 k) (fun ρ1 E2 => R.S C sc body ρ1 E2) m ρ' E) → (∃ ρa Fa, Keep F H H' ∧ Fr F H Fa ∧ Ens X.K H' ρa σ' Fa ∧ Par C.np vs σ' ρa ∧ G (whileC (fun ρ1 k => R.T C sc c ρ1 k) (fun ρ1 E2 => R.S C sc body ρ1 E2) m ρa E)) :=
        fun ρ' σ' H' F' k f e pp gg => ⟨ρ', F', kp2.trans k fr2, fr2.trans kp2 f, e, pp, gg⟩
      have n2 := n.shift kp2 fr2
      exact ⟨fun σ' H' => ∃ ρa Fa, Keep F H H' ∧ Fr F H Fa ∧ Ens X.K H' ρa σ' Fa ∧ Par C.np vs σ' ρa ∧ G (whileC (fun ρ1 k => R.T C sc c ρ1 k) (fun ρ1 E2 => R.S C sc body ρ1 E2) m ρa E), fun σ' H' h' => ⟨m, Nat.lt_succ_self m, h'⟩,
        ρ1, _, Fe, kA.trans c1.kp fA, fA.trans kA c1.fr, c1.en, paa.imp c1.im, g1, ⟨nn, n2.nx, nn, n2.rt⟩⟩
theorem s_for (tg it : Expr) (body : List Stmt) (p : Pos) : PS X (.For tg it body [] p) (RdS X.K G A0 H0 C.np vs (stepS1 R C sc (.For tg it body [] p))) := by
  cases hi : isSet it with
  | true =>
    refine ps_bad fun D σ H ⟨ρ, E, F, k0, f0, en, pa, g, n⟩ => ?_
    dsimp only [stepS1] at g
    rw [hi] at g
    exact absurd g o.hG
  | false =>
    refine PS.imp (ps_for o.pas o.calm (i_iter S o tg it) (S.G o tg) (S.S o vs body) (fold_ok hi _)) fun D σ H ⟨ρ, E, F, k0, f0, en, pa, g, n⟩ => ?_
    dsimp only [stepS1] at g
    rw [hi] at g
    replace g : G (iterE R C sc it ρ _) := g
    refine ⟨ρ, _, F, k0, f0, en, g, fun ds ρ1 J H1 Fe B c1 src trB djB pds g1 => ?_⟩
    have n1 := n.shift c1.kp c1.fr
    have kA1 := c1.keep k0 f0
    have fA1 := c1.from k0 f0
    let W : Nat → Nat → L2.St → Hp → Prop := fun i m σ' H' => i ≤ ds.length ∧ m = ds.length - i ∧ ∃ ρa Fa, Keep Fe H1 H' ∧ Fr Fe H1 Fa ∧ Dis Fa B ∧ Ens X.K H' ρa σ' Fa ∧ Par C.np vs σ' ρa ∧ G (forC (fun d ρ2 E2 => R.G C sc tg d ρ2 fun ρ3 => R.S C sc body ρ3 E2) (ds.drop i) ρa E)
    refine ⟨W, ⟨ds.length, Nat.zero_le _, rfl, ρ1, Fe, Keep.refl _ _, Fr.refl _ _, djB, c1.en, pa.imp c1.im, g1⟩, fun i m σ2 H2 hw => ?_⟩
    obtain ⟨hle, rfl, ρa, Fa, kp, fr, djA, ena, paa, ga⟩ := hw
    have kpB : Keep (fun a => ¬ B a) H1 H2 := kp.mono fun a z w => djB a z w
    have kA := kA1.trans kp fA1
    have fA := fA1.trans kA1 fr
    have n2 := n1.shift kp fr
    by_cases hlt : i < ds.length
    · refine .inr ⟨src.go H2 kpB i hlt, fun σ' H' => W (i + 1) (ds.length - (i + 1)) σ' H', fun σ' H' h' => ⟨ds.length - (i + 1), by omega, h'⟩, fun x H' hy => ?_⟩
      obtain ⟨rfl, d, hd, rd⟩ := src.yld H2 kpB i x H' hy hlt
      have hdrop : ds.drop i = d :: ds.drop (i + 1) := by
        rw [List.drop_eq_getElem_cons hlt]
        rw [List.getElem?_eq_getElem hlt] at hd
        cases hd; rfl
      rw [hdrop] at ga
      have pud : d.pu = true := pus_get pds hd
      refine ⟨ρa, _, Fa, d, F0, ena, rd, fun _ _ z => z, ga, fun ρ3 σ3 F3 f3 en3 sl3 im3 pa3 g3 => ?_⟩
      have hF3 : ∀ a, F3 a → Fa a := fun a z => (f3 a z).elim id fun z => z.elim
      have nn : ∀ ρ' σ' H4 F', Keep F3 H' H4 → Fr F3 H' F' → Ens X.K H4 ρ' σ' F' → Par C.np vs σ' ρ' → G (forC (fun d ρ2 E2 => R.G C sc tg d ρ2 fun ρ3 => R.S C sc body ρ3 E2) (ds.drop (i + 1)) ρ' E) → W (i + 1) (ds.length - (i + 1)) σ' H4 :=
        fun ρ' σ' H4 F' k f e pp gg => ⟨hlt, rfl, ρ', F', kp.trans k (fr.sub hF3), (fr.sub hF3).trans kp f, fun a z w => (f a z).elim (fun y => djA a (hF3 a y) w) fun y => trB a w (kp.g a y), e, pp, gg⟩
      have n3 := n2.shift (Keep.refl _ _) (F' := F3) fun a z => .inl (hF3 a z)
      exact ⟨ρ3, _, F3, kA, fA.sub hF3, en3, pa3 vs paa, g3, ⟨nn, n3.nx, nn, n3.rt⟩⟩
    · have : i = ds.length := by omega
      subst this
      rw [List.drop_length] at ga
      exact .inl ⟨src.stop H2 kpB, n2.nx ρa σ2 H2 Fa (Keep.refl _ _) (Fr.refl _ _) ena paa ga⟩
theorem s_step1 (st : Stmt) : PS X st (RdS X.K G A0 H0 C.np vs (stepS1 R C sc st)) := by
  cases st with
  | Pass p => exact s_pass S o vs p
  | Break p => exact s_break S o vs p
  | Continue p => exact s_cont S o vs p
  | Expr e p => exact s_expr S o vs e p
  | Return e p =>
    cases e with
    | none => exact s_retN S o vs p
    | some e =>
      cases e with
      | Name x xp => exact s_retV S o vs x xp p
      | _ => exact s_ret S o vs _ p
  | Assign tgs e p =>
    match tgs with
    | [] => exact s_stuck o vs
    | _ :: _ :: _ => exact s_stuck o vs
    | [tg] =>
      cases tg with
      | Name x xp => exact s_setN S o vs x xp p e
      | Tuple es m tp => exact s_setT S o vs es m tp p e
      | Subscript b i tp =>
        cases b with
        | Name x xp => exact s_setI S o vs x xp tp p i e
        | _ => exact s_stuck o vs
      | _ => exact s_stuck o vs
  | AugAssign tg op e p =>
    cases tg with
    | Name x xp => exact s_aug S o vs x xp p op e
    | _ => exact s_stuck o vs
  | If c a b p => exact s_if S o vs c a b p
  | For tg it body els p =>
    cases els with
    | nil => exact s_for S o vs tg it body p
    | cons _ _ => exact s_stuck o vs
  | While c body els p =>
    cases els with
    | nil => exact s_while S o vs c body p
    | cons _ _ => exact s_stuck o vs
  | _ => exact s_stuck o vs
theorem s_step (ss : List Stmt) : PSs X ss (RdS X.K G A0 H0 C.np vs (stepS R C sc ss)) := by
  cases ss with
  | nil => exact PSs.imp pss_nil fun D σ H ⟨ρ, E, F, k0, f0, en, pa, g, n⟩ => n.nx ρ σ H F (Keep.refl _ _) (Fr.refl _ _) en pa g
  | cons st r =>
    refine PSs.imp (pss_cons (s_step1 S o vs st) (S.S o vs r)) fun D σ H ⟨ρ, E, F, k0, f0, en, pa, g, n⟩ => ?_
    exact ⟨ρ, _, F, k0, f0, en, pa, g, ⟨fun ρ' σ' H' F' k f e pp gg => ⟨ρ', E, F', k0.trans k f0, f0.trans k0 f, e, pp, gg, n.shift k f⟩, n.bk, n.ct, n.rt⟩⟩
end
theorem snd_step {R : Fns} (S : Snd R) : Snd (step R) where
  E := fun o e => e_step S o e
  T := fun o e => t_step S o e
  W := fun o op vs p => w_step S o op vs p
  A := fun o es => a_step S o es
  P := fun o e => p_step S o e
  G := fun o e => g_step S o e
  S := fun o vs ss => s_step S o vs ss
theorem snd_dead : Snd dead where
  E := fun o e => pe_bad fun σ H Q ⟨ρ, k, F, k0, f0, en, g, q⟩ => absurd g o.hG
  T := fun o e => t_stuck o
  W := fun o op vs p => w_bad o
  A := fun o es => a_stuck o
  P := fun o e => CwR.PET.of (pe_bad fun σ H Q ⟨ρ, k, F, k0, f0, en, g, q⟩ => absurd g o.hG)
  G := fun o e => pg_bad fun v σ H Q ⟨ρ, k, F, d, Fv, en, rp, dj, g, q⟩ => absurd g o.hG
  S := fun o vs ss => ⟨fun pins s σ H D I ⟨ρ, E, F, k0, f0, en, pa, g, n⟩ => absurd g o.hG⟩
theorem snd_ev : ∀ n, Snd (ev n)
  | 0 => snd_dead
  | n + 1 => snd_step (snd_ev n)
end TI
set_option Elab.async false
set_option linter.all false
set_option maxRecDepth 100000
set_option maxHeartbeats 4000000
/-! defs -/
namespace TI
open PySem PySem.Spec PyProof.Rows L2



theorem fin_ok {K : PySem.W.Frag} {H : Hp} : ∀ (vs : List V) (ρ : Env) (σ : L2.St) (F : Fp), Ens K H ρ σ F → (∀ (i : Nat) d, i < vs.length → ρ[i]? = some (some d) → d.pu = false → ∃ v, vs[i]? = some v ∧ σ[i]? = some (some v)) →
    Ens K H (finOf vs.length ρ) (vs.map some) F
  | [], ρ, σ, F, h, p => rfl
  | v :: vs, [], σ, F, h, p => by
    have e : σ = [] := h
    subst e
    exact ⟨some v, vs.map some, rfl, fin_ok vs [] [] F rfl fun i d hi e => by simp at e⟩
  | v :: vs, none :: ρ, σ, F, h, p => by
    obtain ⟨o, τ, rfl, h⟩ := h
    exact ⟨some v, vs.map some, rfl, fin_ok vs ρ τ F h fun i d hi e pu => p (i + 1) d (by simpa using hi) e pu⟩
  | v :: vs, some d :: ρ, σ, F, h, p => by
    obtain ⟨w, τ, G1, G2, rfl, hd, h, s1, s2, dj⟩ := h
    have ih := fin_ok vs ρ τ G2 h fun i d hi e pu => p (i + 1) d (by simpa using hi) e pu
    show Ens K H (fin1 (some d) :: finOf vs.length ρ) _ F
    cases pu : d.pu with
    | true =>
      have e : fin1 (some d) = none := by show (match d.pu with | true => none | false => some d) = _; rw [pu]
      rw [e]
      exact ⟨some v, vs.map some, rfl, Ens.mono _ _ _ _ s2 ih⟩
    | false =>
      have e : fin1 (some d) = some d := by show (match d.pu with | true => none | false => some d) = _; rw [pu]
      rw [e]
      obtain ⟨v', hv, hw⟩ := p 0 d (by simp) rfl pu
      simp at hv hw
      subst hv; subst hw
      exact ⟨_, vs.map some, G1, G2, rfl, hd, ih, s1, s2, dj⟩
theorem ens_none {K : PySem.W.Frag} {H : Hp} : ∀ (n : Nat), Ens K H (List.replicate n none) (List.replicate n none) F0
  | 0 => rfl
  | n + 1 => ⟨none, _, rfl, ens_none n⟩
theorem ens_start {K : PySem.W.Frag} {H : Hp} (n : Nat) : ∀ {ds : List D} {vs : List V} {F : Fp}, Rps K H ds vs F → Ens K H (ds.map some ++ List.replicate n none) (vs.map some ++ List.replicate n none) F
  | [], vs, F, h => by
    rw [show vs = [] from h]
    exact Ens.mono _ _ _ _ (fun _ z => z.elim) (ens_none n)
  | d :: ds, vs, F, h => by
    obtain ⟨v, ws, G1, G2, rfl, h1, h2, s1, s2, dj⟩ := h
    exact ⟨v, _, G1, G2, rfl, h1, ens_start n h2, s1, s2, dj⟩
/-- what the names of the text are, by the facts of the head -/
structure GOk (K : PySem.W.Frag) (w : World) (mg : Str → Option Value) (glo : Str → Glo) : Prop where
  bi : ∀ x, glo x = .bi → mg x = none
  con : ∀ x d, glo x = .con d → d.pu = true ∧ ∃ u v, mg x = some u ∧ RelV v u ∧ ∀ H, Rp K H d v F0
  kd : ∀ x kvs, glo x = .kd kvs → ∃ a es n, mg x = some (.ref a) ∧ KDict K w a es n ∧ ∀ z, ∃ r, PySem.W.nsIn K a z = some r ∧ (match kvs.lookup z with
    | none => r = none
    | some d => d.pu = true ∧ ∃ u v, r = some u ∧ RelV v u ∧ ∀ H, Rp K H d v F0)
section
variable {P : Program} {w : World} {K : PySem.W.Frag} {mg : Str → Option Value} {base : Heap} {cx : CXT} {er : Er}
/-- how an exception goes on -/
structure XOk (cx : CXT) (P : Program) (w : World) (K : PySem.W.Frag) (mg : Str → Option Value) (base : Heap) : Prop where
  th : ∀ N qual scope f cdv A outer s H E, Passes cx (cxOf cx P w K mg base N qual scope f cdv A outer s H E) E
  cn : ∀ st H s e s', cx st H s (fun _ _ _ => False) e s' → False
theorem xok0 : XOk L2.CX0 P w K mg base := ⟨fun _ _ _ _ _ _ _ _ _ _ => fun _ _ _ _ _ _ _ z => z.elim, fun _ _ _ _ _ z => z⟩
theorem run_ok (xo : XOk cx P w K mg base) {x qual : Str} {params : Arguments} {kws : List (Str × V)} {f : Addr} {fd : FuncData} {d : Df} (F : FunD K x qual params d.body d.sc [] kws f fd) (FS : FnScope d.N (d.N.take d.np) d.sc) (hnp : (d.N.take d.np).length = d.np) (glo : Str → Glo) (call : Str → List D → Res) (wf m n : Nat)
    (go : GOk K w mg glo) (hfn : ∀ y k, glo y = .fn k → ∃ (fa : Addr) (fdy : FuncData) (ps : List Str), ps.length = k ∧ FnOk P w K mg base cx n fa fdy ps (SpD K er k (call y)) ∧ mg y = some (.ref fa) ∧ PySem.W.keepIn K (.ref fa) = true ∧ Binds K fdy ps []) :
    FnOk P w K mg base cx (n + 1) f fd (d.N.take d.np) (SpD K er d.np (runD glo call wf m d)) := by
  refine F.ok FS (fun vs H Q E h => by rw [hnp]; exact h.1) (fun cdv A outer s H vs Q E hr h => ?_)
  obtain ⟨hl, ds, Fa, hds, hg⟩ := h
  have ok : Okx (cxOf cx P w K mg base d.N qual d.sc f cdv A outer s H E) (cdOf glo call wf d) d.sc cx er E (fun r => RGood K er Fa H vs r Q E) Fa H := {
    hN := rfl
    nd := FS.nd
    hsc := rfl
    calm := rfl
    own := fun x _ _ => .inl rfl
    bi := go.bi
    con := go.con
    kd := go.kd
    fn := fun y k hy => by
      obtain ⟨fa, fdy, ps, h1, h2, h3, h4, h5⟩ := hfn y k hy
      exact ⟨fa, n, fdy, ps, h1, h2, hr, h3, h4, h5⟩
    pas := L2.passes_of (K := fun e s'' => cx outer H s E e s'') rfl
    thr := xo.th _ _ _ _ _ _ _ _ _ _
    cxn := xo.cn
    room := by have := hr.un; show (A.deeper _).units + 1 < cLine; omega
    hG := fun z => z
    xco := fun c fs ρ g => g }
  refine ⟨_, (snd_ev m).S ok vs d.body, env0 d ds, nx0 d.np, Fa, Keep.refl _ _, Fr.refl _ _, ?_, fun i dd hi e pu => ?_, hg, ⟨fun ρ' σ' H' F' kp fr en pa g => ?_, fun ρ' σ' H' F' kp fr en pa g => g.elim, fun ρ' σ' H' F' kp fr en pa g => g.elim, fun dd ρ' σ' v H' F' Fv kp fr fv dj en pa rp g => ?_⟩⟩
  · have := ens_start (K := K) (H := H) (d.N.length - ds.length) hds
    unfold env0 L2.start
    rw [Rps.length _ _ _ hds]
    exact this
  · have hlen := Rps.length _ _ _ hds
    have hi' : i < vs.length := by rw [hl]; exact hi
    refine ⟨vs[i], List.getElem?_eq_getElem hi', ?_⟩
    unfold L2.start
    rw [List.getElem?_append_left (by simpa using hi'), List.getElem?_map, List.getElem?_eq_getElem hi']
    rfl
  · refine g .non H' F0 F' kp (fun _ z => z.elim) fr (fun _ _ z => z) rfl ?_
    have := fin_ok vs ρ' σ' F' en (fun i d0 hi e p => pa i d0 (by show i < d.np; rw [← hl]; exact hi) e p)
    rw [hl] at this
    exact this
  · refine g v H' Fv F' kp fv fr dj rp ?_
    have := fin_ok vs ρ' σ' F' en (fun i d0 hi e p => pa i d0 (by show i < d.np; rw [← hl]; exact hi) e p)
    rw [hl] at this
    exact this
/-- a def of the text keeps what the evaluator tells -/
def FnIs (P : Program) (w : World) (K : PySem.W.Frag) (mg : Str → Option Value) (base : Heap) (cx : CXT) (er : Er) (p : Str × Df) : Prop :=
  ∃ (fa : Addr) (fd : FuncData) (x qual : Str) (params : Arguments) (kws : List (Str × V)), mg p.1 = some (.ref fa) ∧ Binds K fd (p.2.N.take p.2.np) [] ∧ FunD K x qual params p.2.body p.2.sc [] kws fa fd ∧ FnScope p.2.N (p.2.N.take p.2.np) p.2.sc ∧ (p.2.N.take p.2.np).length = p.2.np
def ExtIs (P : Program) (w : World) (K : PySem.W.Frag) (mg : Str → Option Value) (base : Heap) (cx : CXT) (er : Er) (p : Str × Nat × (List D → Res)) : Prop :=
  ∃ (fa : Addr) (fd : FuncData) (ps : List Str), ps.length = p.2.1 ∧ mg p.1 = some (.ref fa) ∧ PySem.W.keepIn K (.ref fa) = true ∧ Binds K fd ps [] ∧ FnOk P w K mg base cx 1 fa fd ps (SpD K er p.2.1 p.2.2)
theorem lookup_mem {α : Type} {l : List (Str × α)} {x : Str} {k : α} (h : l.lookup x = some k) : (x, k) ∈ l := by
  induction l with
  | nil => simp at h
  | cons y l ih =>
    obtain ⟨n, k'⟩ := y
    cases e : x == n with
    | true =>
      simp only [List.lookup_cons, e] at h
      cases h
      rw [eq_of_beq e]
      exact List.mem_cons_self
    | false =>
      simp only [List.lookup_cons, e] at h
      exact List.mem_cons_of_mem _ (ih h)
theorem fn_never {k : Nat} {fa : Addr} {fd : FuncData} {ps : List Str} {np : Nat} (h : ps.length = np) : FnOk P w K mg base cx k fa fd ps (SpD K er np fun _ => .stuck) :=
  ⟨fun vs H Q E q => by rw [h]; exact q.1, fun A outer s H args us vs Q E _ _ _ _ q => by obtain ⟨_, _, _, _, z⟩ := q; exact z.elim⟩
theorem glo_fn {T : Tab} {y : Str} {k : Nat} (h : T.glo y = .fn k) : (∃ d, T.fns.lookup y = some d ∧ d.np = k) ∨ (T.fns.lookup y = none ∧ ∃ g, T.exts.lookup y = some g ∧ g.1 = k) := by
  unfold Tab.glo at h
  cases e : T.fns.lookup y with
  | some d => rw [e] at h; cases h; exact .inl ⟨d, rfl, rfl⟩
  | none =>
    rw [e] at h
    dsimp only at h
    cases e2 : T.exts.lookup y with
    | some g => rw [e2] at h; cases h; exact .inr ⟨rfl, g, rfl, rfl⟩
    | none =>
      rw [e2] at h
      dsimp only at h
      split at h <;> first
        | cases h
        | (split at h <;> cases h)
theorem all_ok (xo : XOk cx P w K mg base) {T : Tab} (go : GOk K w mg T.glo) (hf : ∀ p ∈ T.fns, FnIs P w K mg base cx er p) (he : ∀ p ∈ T.exts, ExtIs P w K mg base cx er p) (wf m : Nat) :
    ∀ (n : Nat) y k, T.glo y = .fn k → ∃ (fa : Addr) (fdy : FuncData) (ps : List Str), ps.length = k ∧ FnOk P w K mg base cx n fa fdy ps (SpD K er k (T.call wf m n y)) ∧ mg y = some (.ref fa) ∧ PySem.W.keepIn K (.ref fa) = true ∧ Binds K fdy ps []
  | 0, y, k, h => by
    rcases glo_fn h with ⟨d, hd, rfl⟩ | ⟨_, g, hg, rfl⟩
    · obtain ⟨fa, fd, x, qual, params, kws, h1, h2, h3, h4, h5⟩ := hf _ (lookup_mem hd)
      exact ⟨fa, fd, _, h5, fn_never h5, h1, h3.kp, h2⟩
    · obtain ⟨fa, fd, ps, h1, h2, h3, h4, h5⟩ := he _ (lookup_mem hg)
      exact ⟨fa, fd, ps, h1, fn_never h1, h2, h3, h4⟩
  | n + 1, y, k, h => by
    rcases glo_fn h with ⟨d, hd, rfl⟩ | ⟨hn, g, hg, rfl⟩
    · obtain ⟨fa, fd, x, qual, params, kws, h1, h2, h3, h4, h5⟩ := hf _ (lookup_mem hd)
      have e : T.call wf m (n + 1) y = runD T.glo (T.call wf m n) wf m d := by
        funext ds
        show (match T.fns.lookup y with | some d => runD T.glo (T.call wf m n) wf m d ds | none => _) = _
        rw [hd]
      rw [e]
      exact ⟨fa, fd, _, h5, run_ok xo h3 h4 h5 T.glo _ wf m n go (all_ok xo go hf he wf m n), h1, h3.kp, h2⟩
    · obtain ⟨fa, fd, ps, h1, h2, h3, h4, h5⟩ := he _ (lookup_mem hg)
      have e : T.call wf m (n + 1) y = g.2 := by
        funext ds
        show (match T.fns.lookup y with | some d => runD T.glo (T.call wf m n) wf m d ds | none => match T.exts.lookup y with | some g => g.2 ds | none => .stuck) = _
        rw [hn, hg]
      rw [e]
      exact ⟨fa, fd, ps, h1, h5.mono (by omega), h2, h3, h4⟩
end
end TI
set_option Elab.async false
set_option linter.all false
set_option maxRecDepth 100000
set_option maxHeartbeats 4000000
/-! the head's facts for the evaluator -/
namespace TI
open PySem PySem.Spec PyProof.Rows L2
section
variable {P : Program} {w : World} {K : PySem.W.Frag} {mg : Str → Option Value} {base h : Heap} {cx : CXT} {er : Er}
theorem fn_is (X : K.In h) (G : h.Ns mainGlobals mg) {nm : Str} {st : Stmt} {d : Df} (hb : d.body = defBody st) (hs : d.sc = defScope st) (cg : (He.Fa.glo nm).ok K = true) (F : ∃ fd, FunD K nm nm (defArgs st) (defBody st) (defScope st) [] [] (He.ga K nm) fd)
    (S : FnScope d.N (d.N.take d.np) d.sc) (hl : (d.N.take d.np).length = d.np)
    (hbind : ∀ (kV doc pm : Value) (an : Option Addr) (cdv ct : Value) (us : List Value), us.length = (d.N.take d.np).length → bindArgs (PySem.W.fnOf nm nm (defArgs st) (defBody st) (defScope st) .none kV doc pm an cdv ct) ⟨us, []⟩ = pure ((d.N.take d.np).zip us)) :
    FnIs P w K mg base cx er (nm, d) := by
  obtain ⟨fd, F⟩ := F
  refine ⟨He.ga K nm, fd, nm, nm, defArgs st, [], He.glo_ok X G cg, F.bindsN hbind, ?_, S, hl⟩
  rw [show (nm, d).2.body = defBody st from hb, show (nm, d).2.sc = defScope st from hs]
  exact F
/-- what a constant, a dict of the top is -/
def ConIs (K : PySem.W.Frag) (w : World) (mg : Str → Option Value) (p : Str × Glo) : Prop := match p.2 with
  | .con d => d.pu = true ∧ ∃ u v, mg p.1 = some u ∧ RelV v u ∧ ∀ H, Rp K H d v F0
  | .kd kvs => ∃ a es n, mg p.1 = some (.ref a) ∧ KDict K w a es n ∧ ∀ z, ∃ r, PySem.W.nsIn K a z = some r ∧ (match kvs.lookup z with
    | none => r = none
    | some d => d.pu = true ∧ ∃ u v, r = some u ∧ RelV v u ∧ ∀ H, Rp K H d v F0)
  | _ => True
theorem glo_con {T : Tab} {x : Str} {d : D} (h : T.glo x = .con d) : T.cons.lookup x = some (.con d) := by
  unfold Tab.glo at h
  cases e : T.fns.lookup x with
  | some d => rw [e] at h; cases h
  | none =>
    rw [e] at h
    dsimp only at h
    cases e2 : T.exts.lookup x with
    | some g => rw [e2] at h; cases h
    | none =>
      rw [e2] at h
      dsimp only at h
      cases e3 : T.cons.lookup x with
      | none => rw [e3] at h; dsimp only at h; split at h <;> cases h
      | some g => cases g <;> (rw [e3] at h; dsimp only at h; first | (cases h; rfl) | (cases h) | (split at h <;> cases h))
theorem glo_kd {T : Tab} {x : Str} {d : List (Str × D)} (h : T.glo x = .kd d) : T.cons.lookup x = some (.kd d) := by
  unfold Tab.glo at h
  cases e : T.fns.lookup x with
  | some d => rw [e] at h; cases h
  | none =>
    rw [e] at h
    dsimp only at h
    cases e2 : T.exts.lookup x with
    | some g => rw [e2] at h; cases h
    | none =>
      rw [e2] at h
      dsimp only at h
      cases e3 : T.cons.lookup x with
      | none => rw [e3] at h; dsimp only at h; split at h <;> cases h
      | some g => cases g <;> (rw [e3] at h; dsimp only at h; first | (cases h; rfl) | (cases h) | (split at h <;> cases h))
theorem glo_bi {T : Tab} {x : Str} (h : T.glo x = .bi) : x ∈ T.bis := by
  unfold Tab.glo at h
  cases e : T.fns.lookup x with
  | some d => rw [e] at h; cases h
  | none =>
    rw [e] at h
    dsimp only at h
    cases e2 : T.exts.lookup x with
    | some g => rw [e2] at h; cases h
    | none =>
      rw [e2] at h
      dsimp only at h
      have fin : (match T.bis.contains x with | true => Glo.bi | false => Glo.no) = .bi → x ∈ T.bis := by
        intro q
        cases e4 : T.bis.contains x with
        | true => exact List.contains_iff_mem.mp e4
        | false => rw [e4] at q; cases q
      cases e3 : T.cons.lookup x with
      | none => rw [e3] at h; exact fin h
      | some g => cases g <;> (rw [e3] at h; first | exact fin h | cases h)
theorem go_of {T : Tab} (hb : ∀ x ∈ T.bis, mg x = none) (hc : ∀ p ∈ T.cons, ConIs K w mg p) : GOk K w mg T.glo :=
  ⟨fun x h => hb x (glo_bi h), fun x d h => hc _ (lookup_mem (glo_con h)), fun x kvs h => hc _ (lookup_mem (glo_kd h))⟩
theorem con_str (X : K.In h) (G : h.Ns mainGlobals mg) {x z : Str} (c : (He.Fa.str x z).ok K = true) : ConIs K w mg (x, .con (.str z)) := by
  obtain ⟨t, e⟩ := He.str_ok X G c
  exact ⟨rfl, .str z t, .str z, e, ⟨t, rfl⟩, fun _ => rfl⟩
theorem con_int (X : K.In h) (G : h.Ns mainGlobals mg) {x : Str} {z : Int} (c : (He.Fa.int x z).ok K = true) : ConIs K w mg (x, .con (.int z)) := by
  obtain ⟨t, e⟩ := He.int_ok X G c
  exact ⟨rfl, .int z t, .int z, e, ⟨t, rfl⟩, fun _ => rfl⟩
/-! the dicts of the top -/
open He in
theorem keys_all {P : Params} : ∀ {l : List DictEntry} {ks : List Str}, l.map keyOf = keysIn P ks → ∀ e ∈ l, ∃ k t, e.key = .str k t ∧ k ∈ ks
  | [], _, _, e, he => by simp at he
  | a :: r, [], h, _, _ => by cases h
  | a :: r, k :: ks, h, e, he => by
    have h1 : keyOf a :: r.map keyOf = some (k, PyData.keyHash P k) :: keysIn P ks := h
    injection h1 with h2 h3
    rcases List.mem_cons.mp he with rfl | he
    · unfold keyOf at h2
      split at h2
      · rename_i x t q
        obtain ⟨h5, h6⟩ := Prod.mk.inj (Option.some.inj h2)
        exact ⟨x, t, q, by rw [h5]; exact List.mem_cons_self⟩
      · cases h2
    · obtain ⟨k', t, q, hk⟩ := keys_all h3 e he
      exact ⟨k', t, q, List.mem_cons_of_mem _ hk⟩
open He in
theorem ns_out {a : Addr} {ks : List Str} (h : dicW K a = some (keysIn w.params ks)) {z : Str} (hz : z ∉ ks) : PySem.W.nsIn K a z = some none := by
  unfold dicW at h
  split at h
  · rename_i c es n sl q
    split at h
    · have hk := keys_all (Option.some.inj h)
      unfold PySem.W.nsIn
      rw [q]
      dsimp only
      have hf : es.toList.find? (·.key.isStr z) = none := by
        rw [List.find?_eq_none]
        intro e he hs
        obtain ⟨k, t, hk1, hk2⟩ := hk e he
        rw [hk1] at hs
        have : k = z := by simpa [Value.isStr] using hs
        exact hz (this ▸ hk2)
      rw [hf]
      dsimp only
      have ha : es.toList.any (·.refKey) = false := by
        rw [List.any_eq_false]
        intro e he hs
        obtain ⟨k, t, hk1, hk2⟩ := hk e he
        unfold PySem.DictEntry.refKey at hs
        rw [hk1] at hs
        cases hs
      rw [ha]
      rfl
    · cases h
  · cases h
/-- a written value as the text has it -/
def dvD : He.Dv → D
  | .non => .non
  | .bl b => .bl b
  | .int i => .int i
  | .str x => .str x
  | _ => .ty ""
def dvOk : He.Dv → Bool
  | .non => true
  | .bl b => true
  | .int i => true
  | .str x => true
  | _ => false
theorem dv_rp {q : He.Dv} (h : dvOk q = true) : (dvD q).pu = true ∧ ∀ H, Rp K H (dvD q) (q.v K) F0 := by
  cases q <;> first | exact ⟨rfl, fun _ => rfl⟩ | (cases h)
theorem lookup_map {α β : Type} (f : α → β) : ∀ (l : List (Str × α)) (z : Str), (l.map fun q => (q.1, f q.2)).lookup z = (l.lookup z).map f
  | [], z => rfl
  | (y, a) :: l, z => by
    rw [List.map_cons, List.lookup_cons, List.lookup_cons]
    cases z == y with
    | true => rfl
    | false => exact lookup_map f l z
theorem lookup_none {α : Type} : ∀ {l : List (Str × α)} {z : Str}, l.lookup z = none → z ∉ l.map (·.1)
  | [], z, _ => by simp
  | (y, a) :: l, z, h => by
    rw [List.lookup_cons] at h
    cases e : z == y with
    | true => rw [e] at h; cases h
    | false =>
      rw [e] at h
      have := lookup_none h
      simp only [List.map_cons, List.mem_cons, not_or]
      exact ⟨by intro q; subst q; simp at e, this⟩
theorem con_kd (X : K.In h) (G : h.Ns mainGlobals mg) {x : Str} {kvs : List (Str × He.Dv)} (cg : (He.Fa.glo x).ok K = true) (cd : He.dicW K (He.ga K x) = some (He.keysIn w.params (kvs.map (·.1)))) (cv : He.valsB K (He.ga K x) kvs = true) (co : kvs.all (fun q => dvOk q.2) = true) :
    ConIs K w mg (x, .kd (kvs.map fun q => (q.1, dvD q.2))) := by
  obtain ⟨es, n, kd⟩ := He.dicW_ok cd
  refine ⟨He.ga K x, es, n, He.glo_ok X G cg, kd, fun z => ?_⟩
  rw [lookup_map]
  cases e : kvs.lookup z with
  | none => exact ⟨none, ns_out cd (lookup_none e), rfl⟩
  | some q =>
    have hm := lookup_mem e
    obtain ⟨u, h1, h2⟩ := He.valsB_ok cv hm
    obtain ⟨p1, p2⟩ := dv_rp (K := K) (List.all_eq_true.mp co _ hm)
    exact ⟨some u, h1, p1, u, q.v K, rfl, h2, p2⟩
/-- the script: a list that nobody writes -/
theorem sqf_of {H : Hp} {a : Addr} {vs : List V} (ho : Only H) (hs : SqL K H a vs) : SqF K H a vs := by
  rcases hs with (hs | ⟨o, hs⟩) | hs
  · rcases ho a with h | ⟨o, xs, h⟩
    · rw [h] at hs; cases hs
    · rw [h] at hs; cases hs
  · exact .inl ⟨o, hs⟩
  · exact .inr hs
theorem rps_ints {H : Hp} : ∀ ns : List Int, Rps K H (ns.map D.int) (ns.map V.int) F0
  | [] => rfl
  | n :: ns => ⟨.int n, ns.map V.int, F0, F0, rfl, rfl, rps_ints ns, fun _ q => q, fun _ q => q, fun _ q => q.elim⟩
theorem pus_ints : ∀ ns : List Int, D.pus (ns.map D.int) = true
  | [] => rfl
  | n :: ns => by show (true && _) = true; rw [pus_ints ns]; rfl
def er0 : Er := fun _ _ _ _ _ => False
/-- the law's promise from its equation -/
theorem law_sp {g : List D → Res} {H : Hp} {a : Addr} {ns : List Int} (ho : Only H) (hs : SqL K H a (ns.map V.int)) (e : g [.rol (ns.map D.int)] = .ret (.bl true) [none]) :
    SpD K er 1 g [.ref a] H (fun v _ => v = .bl true) fun _ _ _ => False := by
  refine ⟨rfl, [.rol (ns.map D.int)], F0, ⟨.ref a, [], F0, F0, rfl, ⟨a, ns.map V.int, rfl, sqf_of ho hs, pus_ints ns, rps_ints ns⟩, rfl, fun _ q => q, fun _ q => q, fun _ q => q.elim⟩, ?_⟩
  rw [e]
  intro v H' Fv Ff _ _ _ _ r _
  exact r
end
end TI
set_option Elab.async false
set_option linter.all false
set_option maxRecDepth 100000
set_option maxHeartbeats 4000000
/-! texts: one sign sought, exchanged -/
namespace TI
open PySem PySem.Spec PyProof.Rows L2 Builtin Builtin.Str PySem.StrLaws

def one (c : Nat) : PySem.Str := ⟨#[c]⟩
theorem sub_one (x : PySem.Str) (c i : Nat) : (i + (one c).length ≤ x.length ∧ subAt x (one c) i = true) ↔ x.cps.toList[i]? = some c := by
  have e1 : (one c).length = 1 := rfl
  rw [e1]
  unfold subAt
  rw [e1]
  have hl : x.length = x.cps.size := rfl
  constructor
  · rintro ⟨h1, h2⟩
    have h3 : x.cps.extract i (i + 1) = (one c).cps := by simpa using h2
    have h4 := congrArg (fun (a : Array Nat) => a[0]?) h3
    have hi : i < x.cps.size := by omega
    have h5 : (x.cps.extract i (i + 1))[0]? = x.cps[i]? := by
      rw [Array.getElem?_extract]
      simp
      intro h; omega
    rw [h5] at h4
    rw [Array.getElem?_toList, h4]
    rfl
  · intro h
    rw [Array.getElem?_toList] at h
    have hi : i < x.cps.size := by
      rcases Nat.lt_or_ge i x.cps.size with q | q
      · exact q
      · rw [Array.getElem?_eq_none q] at h; cases h
    refine ⟨by omega, ?_⟩
    have : x.cps.extract i (i + 1) = (one c).cps := by
      apply Array.ext
      · simp [one]; omega
      · intro j h1 h2
        have hj : j = 0 := by simp [one] at h2; omega
        subst hj
        rw [Array.getElem?_eq_getElem hi] at h
        cases h
        simp [one]
    rw [this]
    simp
theorem at_one (x : PySem.Str) (c hi i : Nat) (hh : hi ≤ x.length) : At x (one c) hi i ↔ i < hi ∧ x.cps.toList[i]? = some c := by
  have e1 : (one c).length = 1 := rfl
  unfold At
  constructor
  · rintro ⟨h1, h2⟩
    rw [e1] at h1
    exact ⟨by omega, (sub_one x c i).mp ⟨by rw [e1]; omega, h2⟩⟩
  · rintro ⟨h1, h2⟩
    exact ⟨by rw [e1]; omega, ((sub_one x c i).mpr h2).2⟩
theorem range'_split2 {p n a : Nat} {pre post : List Nat} (h : List.range' p n = pre ++ a :: post) : p ≤ a ∧ a < p + n ∧ ∀ k, p ≤ k → k < a → k ∈ pre := by
  have hL : n = pre.length + (post.length + 1) := by
    have := congrArg List.length h
    simpa using this
  have hlen : p + pre.length = a := by
    have h1 : (List.range' p n)[pre.length]? = some a := by rw [h]; simp
    rw [List.getElem?_range'] at h1
    · simpa using h1
    · omega
  refine ⟨by omega, by omega, fun k h1 h2 => ?_⟩
  have h3 : (List.range' p n)[k - p]? = pre[k - p]? := by rw [h, List.getElem?_append_left (by omega)]
  rw [List.getElem?_range'] at h3
  · have h4 : pre[k - p]? = some k := by rw [← h3]; simp; omega
    exact List.mem_of_getElem? h4
  · omega
theorem findIn_nat (x : PySem.Str) (c p s : Nat) (hp : p ≤ s) (hs : s ≤ x.length) : Txt.findIn x (one c) (p : Int) (s : Int) = (match occurrences x (one c) p s 1 with | k :: _ => (k : Int) | [] => -1) := by
  have e1 : fromIndex x.length (p : Int) = p := by unfold fromIndex; rw [if_neg (by omega)]; omega
  have e2 : toIndexW x.length (s : Int) = s := by unfold toIndexW; rw [if_neg (by omega)]; omega
  unfold Txt.findIn
  rw [e1, e2]
  cases occurrences x (one c) p s 1 <;> rfl
theorem find_at {x : PySem.Str} {c p s k : Nat} (hpk : p ≤ k) (hks : k < s) (hs : s ≤ x.length) (hc : x.cps.toList[k]? = some c) (hno : ∀ i, p ≤ i → i < k → x.cps.toList[i]? ≠ some c) : Txt.findIn x (one c) (p : Int) (s : Int) = (k : Int) := by
  rw [findIn_nat x c p s (by omega) hs, occ_eq]
  rcases occ_first x (one c) s 1 (Nat.le_refl _) (List.range' p (s + 1 - p)) p (fun i hi => by simp [List.mem_range'] at hi; omega) with ⟨h0, hn⟩ | ⟨pre, a, post, e, h0, ha, hn⟩
  · exact absurd ((at_one x c s k hs).mpr ⟨hks, hc⟩) (hn k (List.mem_range'_1.mpr (by omega)))
  · obtain ⟨r1, r2, r3⟩ := range'_split2 e
    have ha' := (at_one x c s a hs).mp ha
    have hak : a = k := by
      rcases Nat.lt_trichotomy a k with h | h | h
      · exact absurd ha'.2 (hno a r1 h)
      · exact h
      · exact absurd ((at_one x c s k hs).mpr ⟨hks, hc⟩) (hn k (r3 k hpk h))
    subst hak
    cases hh : (forIn (List.range' p (s + 1 - p)) ((#[] : Array Nat), p) (occBody x (one c) s 1)).run.fst with
    | mk l =>
      rw [hh] at h0
      cases l with
      | nil => simp at h0
      | cons b l => simp at h0; subst h0; rfl
theorem find_no {x : PySem.Str} {c p s : Nat} (hp : p ≤ s) (hs : s ≤ x.length) (hno : ∀ i, p ≤ i → i < s → x.cps.toList[i]? ≠ some c) : Txt.findIn x (one c) (p : Int) (s : Int) = -1 := by
  rw [findIn_nat x c p s hp hs, occ_eq]
  rcases occ_first x (one c) s 1 (Nat.le_refl _) (List.range' p (s + 1 - p)) p (fun i hi => by simp [List.mem_range'] at hi; omega) with ⟨h0, hn⟩ | ⟨pre, a, post, e, h0, ha, hn⟩
  · rw [h0]
  · obtain ⟨r1, r2, r3⟩ := range'_split2 e
    have ha' := (at_one x c s a hs).mp ha
    exact absurd ha'.2 (hno a r1 ha'.1)
/-! ### one sign exchanged -/
def pos1 (c : Nat) : List Nat → Nat → List Nat
  | [], _ => []
  | a :: cs, o => if a = c then o :: pos1 c cs (o + 1) else pos1 c cs (o + 1)
theorem occ_all (x : PySem.Str) (c limit : Nat) : ∀ (cs : List Nat) (o : Nat) (arr : Array Nat) (free : Nat), x.cps.toList.drop o = cs → arr.size + cs.length < limit → free ≤ o → o ≤ x.length →
    (forIn (List.range' o (cs.length + 1)) (arr, free) (occBody x (one c) x.length limit)).run.fst.toList = arr.toList ++ pos1 c cs o
  | [], o, arr, free, hd, hl, hf, ho => by
    rw [show List.range' o (([] : List Nat).length + 1) = [o] from rfl, List.forIn_cons]
    have hol : x.length ≤ o := by
      have := congrArg List.length hd
      simp at this
      show x.cps.size ≤ o
      omega
    unfold occBody
    rw [if_neg (fun h => by have := h.1.2; have e1 : (one c).length = 1 := rfl; omega)]
    simp [pos1]
  | a :: cs, o, arr, free, hd, hl, hf, ho => by
    have hlen : (a :: cs).length + 1 = (cs.length + 1) + 1 := rfl
    rw [hlen, List.range'_succ, List.forIn_cons]
    have ha : x.cps.toList[o]? = some a := by
      have := congrArg (fun l => l[0]?) hd
      simpa using this
    have hd' : x.cps.toList.drop (o + 1) = cs := by
      have := congrArg (fun l => l.drop 1) hd
      simpa [List.drop_drop] using this
    have hlt : o < x.length := by
      have h1 : o < x.cps.toList.length := (List.getElem?_eq_some_iff.mp ha).1
      show o < x.cps.size
      simpa using h1
    unfold occBody
    simp only [List.length_cons] at hl
    by_cases hc : a = c
    · subst hc
      have h2 := (sub_one x a o).mpr ha
      rw [if_pos ⟨⟨⟨by show arr.size < limit; omega, hf⟩, h2.1⟩, h2.2⟩]
      have ih := occ_all x a limit cs (o + 1) (arr.push o) (o + (one a).length) hd' (by simp; omega) (by show o + 1 ≤ o + 1; omega) (by omega)
      simp only [Nat.add_comm 1] at *
      show (forIn (List.range' (o + 1) (cs.length + 1)) (arr.push o, o + (one a).length) (occBody x (one a) x.length limit)).run.fst.toList = _
      rw [ih]
      simp [pos1]
    · rw [if_neg (fun h => by
        have := (sub_one x c o).mp ⟨h.1.2, h.2⟩
        rw [ha] at this
        cases this
        exact hc rfl)]
      have ih := occ_all x c limit cs (o + 1) arr free hd' (by omega) (by omega) (by omega)
      show (forIn (List.range' (o + 1) (cs.length + 1)) (arr, free) (occBody x (one c) x.length limit)).run.fst.toList = _
      rw [ih]
      simp [pos1, hc]
theorem occ_one (x : PySem.Str) (c : Nat) : occurrences x (one c) 0 x.length (x.length + 1) = pos1 c x.cps.toList 0 := by
  rw [occ_eq]
  have := occ_all x c (x.length + 1) x.cps.toList 0 #[] 0 rfl (by show 0 + x.cps.toList.length < x.cps.size + 1; simp) (Nat.le_refl _) (Nat.zero_le _)
  have e : x.length + 1 - 0 = x.cps.toList.length + 1 := by show x.cps.size + 1 - 0 = _; simp
  rw [e, this]
  simp
def gl (z : List Nat) : List (List Nat) → List Nat
  | [] => []
  | p :: ps => p ++ ps.flatMap fun q => z ++ q
theorem glued_gl (z : PySem.Str) (ps : List PySem.Str) : (glued z ps).cps.toList = gl z.cps.toList (ps.map (·.cps.toList)) := by
  have key : ∀ (l : List PySem.Str) (acc : Array Nat), (l.foldl (fun acc p => acc ++ z.cps ++ p.cps) acc).toList = acc.toList ++ (l.map (·.cps.toList)).flatMap fun q => z.cps.toList ++ q := fun l => by
    induction l with
    | nil => intro acc; simp
    | cons p l ih => intro acc; rw [List.foldl_cons, ih]; simp
  unfold glued
  cases ps with
  | nil => rfl
  | cons p ps =>
    show ((ps.foldl _ p.cps)).toList = _
    rw [key]
    rfl
theorem pieces (z L : List Nat) (c : Nat) : ∀ (cs : List Nat) (o s : Nat), L.drop o = cs → s ≤ o → o ≤ L.length →
    gl z (((s :: (pos1 c cs o).map (· + 1)).zip (pos1 c cs o ++ [L.length])).map fun p => (L.take p.2).drop p.1) = (L.take o).drop s ++ cs.flatMap fun a => if a = c then z else [a]
  | [], o, s, hd, hs, ho => by
    have : L.length ≤ o := by
      have := congrArg List.length hd
      simp at this
      omega
    have e : o = L.length := by omega
    simp [pos1, gl, e]
  | a :: cs, o, s, hd, hs, ho => by
    have ha : L[o]? = some a := by
      have := congrArg (fun l => l[0]?) hd
      simpa using this
    have hd' : L.drop (o + 1) = cs := by
      have := congrArg (fun l => l.drop 1) hd
      simpa [List.drop_drop] using this
    have hlt : o < L.length := (List.getElem?_eq_some_iff.mp ha).1
    have hta : L.take (o + 1) = L.take o ++ [a] := by
      rw [List.take_succ, ha]; rfl
    by_cases hc : a = c
    · have ep : pos1 c (a :: cs) o = o :: pos1 c cs (o + 1) := by simp [pos1, hc]
      rw [ep]
      have ih := pieces z L c cs (o + 1) (o + 1) hd' (Nat.le_refl _) (by omega)
      have e0 : (L.take (o + 1)).drop (o + 1) = [] := by simp
      rw [e0, List.nil_append] at ih
      rw [List.map_cons, List.cons_append, List.zip_cons_cons, List.map_cons]
      have ne : ∀ (q : List (Nat × Nat)), q ≠ [] → ∀ p0 : List Nat, gl z (p0 :: q.map fun p => (L.take p.2).drop p.1) = p0 ++ (z ++ gl z (q.map fun p => (L.take p.2).drop p.1)) := fun q hq p0 => by
        cases q with
        | nil => exact absurd rfl hq
        | cons u v => simp [gl]
      rw [ne _ (by
        intro h
        have := congrArg List.length h
        simp at this), ih]
      simp [hc]
    · have ep : pos1 c (a :: cs) o = pos1 c cs (o + 1) := by simp [pos1, hc]
      rw [ep, pieces z L c cs (o + 1) s hd' (by omega) (by omega), hta]
      have : (L.take o ++ [a]).drop s = (L.take o).drop s ++ [a] := by
        rw [List.drop_append_of_le_length (by simp; omega)]
      rw [this]
      simp [hc]
theorem replace_one (x z : PySem.Str) (c : Nat) : (Txt.replace x (one c) z).cps.toList = x.cps.toList.flatMap fun a => if a = c then z.cps.toList else [a] := by
  unfold Txt.replace
  rw [occ_one]
  have e1 : ((one c).length == 0) = false := rfl
  rw [e1, Bool.false_and, Bool.or_false]
  by_cases he : (pos1 c x.cps.toList 0).isEmpty = true
  · rw [if_pos he]
    have : ∀ (cs : List Nat) (o : Nat), pos1 c cs o = [] → (cs.flatMap fun a => if a = c then z.cps.toList else [a]) = cs := fun cs => by
      induction cs with
      | nil => intro o _; rfl
      | cons a cs ih =>
        intro o h
        by_cases hc : a = c
        · simp [pos1, hc] at h
        · have h2 : pos1 c cs (o + 1) = [] := by simpa [pos1, hc] using h
          rw [List.flatMap_cons, ih _ h2, if_neg hc]
          rfl
    exact (this _ 0 (List.isEmpty_iff.mp he)).symm
  · rw [if_neg he, glued_gl]
    have := pieces z.cps.toList x.cps.toList c x.cps.toList 0 0 rfl (Nat.le_refl _) (Nat.zero_le _)
    simp only [List.take_zero, List.drop_nil, List.nil_append] at this
    rw [← this]
    unfold partsBetween
    congr 1
    rw [List.map_map]
    have el : x.length = x.cps.toList.length := by show x.cps.size = _; simp
    rw [el]
    show List.map _ (List.zip (0 :: (pos1 c x.cps.toList 0).map (· + 1)) _) = _
    refine List.map_congr_left fun p _ => ?_
    show (x.cps.extract p.1 p.2).toList = _
    rw [Array.toList_extract]
    simp [List.extract_eq_drop_take, List.drop_take]
end TI
set_option Elab.async false
set_option linter.all false
set_option maxRecDepth 100000
set_option maxHeartbeats 4000000
/-! texts: cut, digits, numbers -/
namespace TI
open PySem PySem.Spec PyProof.Rows L2 Builtin Builtin.Str PySem.StrLaws PySem.NumText PySem.W.KIN

abbrev Ls (x : PySem.Str) : List Nat := x.cps.toList
theorem Ls_len (x : PySem.Str) : (Ls x).length = x.length := by show x.cps.toList.length = x.cps.size; simp
theorem Str_ext {x y : PySem.Str} (h : Ls x = Ls y) : x = y := by
  cases x; cases y
  congr 1
  exact Array.toList_inj.mp h
theorem Ls_append (x y : PySem.Str) : Ls (x ++ y) = Ls x ++ Ls y := by
  show (x.cps ++ y.cps).toList = _
  simp
theorem cut_nat (x : PySem.Str) (p s : Nat) (hp : p ≤ s) : Ls (cutS x (some (p : Int)) (some (s : Int))) = ((Ls x).drop p).take (s - p) := by
  have hl : x.cps.toList.length = x.length := Ls_len x
  have hl2 : x.cps.size = x.length := rfl
  unfold cutS
  rw [HT.sIx_nat, HT.sIx_nat]
  show ((x.cps.toList.drop _).take _).toArray.toList = _
  rw [List.toList_toArray]
  rcases Nat.lt_or_ge s x.length with h | h
  · rw [Nat.min_eq_left (by omega), Nat.min_eq_left (by omega)]
  · rw [Nat.min_eq_right h]
    rcases Nat.lt_or_ge p x.length with h2 | h2
    · rw [Nat.min_eq_left (by omega)]
      rw [List.take_of_length_le (by simp; omega), List.take_of_length_le (by simp; omega)]
    · rw [Nat.min_eq_right h2]
      have e1 : x.cps.toList.drop x.length = [] := List.drop_of_length_le (by omega)
      have e2 : x.cps.toList.drop p = [] := List.drop_of_length_le (by omega)
      rw [e1, e2]; simp
/-- one sign at a place -/
theorem cut_one {x : PySem.Str} {pre post : List Nat} {a : Nat} (h : Ls x = pre ++ a :: post) : cutS x (some (pre.length : Int)) (some ((pre.length : Int) + 1)) = one a := by
  apply Str_ext
  have := cut_nat x pre.length (pre.length + 1) (by omega)
  rw [show ((pre.length + 1 : Nat) : Int) = (pre.length : Int) + 1 from by omega] at this
  rw [this, h]
  simp [one]
theorem cut_end {x : PySem.Str} {p : Nat} (h : x.length ≤ p) : cutS x (some (p : Int)) (some ((p : Int) + 1)) = ⟨#[]⟩ := by
  apply Str_ext
  have := cut_nat x p (p + 1) (by omega)
  rw [show ((p + 1 : Nat) : Int) = (p : Int) + 1 from by omega] at this
  rw [this, List.drop_of_length_le (by rw [Ls_len]; exact h), List.take_nil]
theorem lstrip_eq (x y : PySem.Str) : Ls (Txt.lstripChars x y) = (Ls x).dropWhile y.cps.contains := by
  have hd : ∀ (l : List Nat) (f : Nat → Bool), l.drop (l.takeWhile f).length = l.dropWhile f := fun l f => by
    induction l with
    | nil => rfl
    | cons a l ih =>
      rw [List.takeWhile_cons, List.dropWhile_cons]
      cases f a <;> simp [ih]
  unfold Txt.lstripChars Txt.stripBy
  have key : Ls (stripped y.cps.contains true false x) = (Ls x).dropWhile y.cps.contains := by
    unfold stripped
    show (x.cps.extract _ _).toList = _
    rw [Array.toList_extract]
    show (x.cps.toList.extract (x.cps.toList.takeWhile y.cps.contains).length x.length) = _
    rw [List.extract_eq_drop_take, hd]
    refine List.take_of_length_le ?_
    have h1 := congrArg List.length (hd x.cps.toList y.cps.contains)
    rw [List.length_drop] at h1
    have h2 := Ls_len x
    show _ ≤ x.length - _
    have h3 : x.cps.toList.length = x.length := h2
    omega
  by_cases hs : stripSame y.cps.contains true false x = true
  · rw [if_pos hs]
    unfold stripSame at hs
    rw [Bool.and_eq_true] at hs
    have h0 : (x.cps.toList.takeWhile y.cps.contains).length = 0 := by simpa [stripLo] using hs.1
    have := hd x.cps.toList y.cps.contains
    rw [h0] at this
    exact this
  · rw [if_neg hs]; exact key
/-! ### numbers -/
theorem toDigits_head : ∀ (m : Nat), 0 < m → ∀ c l, (Nat.toDigits 10 m).map Char.toNat = c :: l → c ≠ 48 := by
  intro m
  induction m using Nat.strongRecOn with
  | _ m ih =>
    intro hm c l h
    by_cases h10 : m < 10
    · rw [Nat.toDigits_of_lt_base h10] at h
      have hc : (Nat.digitChar m).toNat = c := by simpa using congrArg (fun l => l.headD 0) h
      have hdig : ∀ d : Nat, d < 10 → 0 < d → (Nat.digitChar d).toNat ≠ 48 := by decide
      rw [← hc]; exact hdig m h10 hm
    · have t : Nat.toDigits 10 (m / 10) ++ Nat.toDigits 10 (m % 10) = Nat.toDigits 10 (10 * (m / 10) + m % 10) := Nat.toDigits_append_toDigits (by decide) (by omega) (Nat.mod_lt m (by decide))
      rw [Nat.div_add_mod] at t
      rw [← t, List.map_append] at h
      cases hq : (Nat.toDigits 10 (m / 10)).map Char.toNat with
      | nil =>
        have := List.map_eq_nil_iff.mp hq
        have h2 := Nat.length_toDigits_pos (b := 10) (n := m / 10)
        rw [this] at h2
        simp at h2
      | cons c' l' =>
        rw [hq] at h
        have hc : c' = c := by simpa using congrArg (fun l => l.headD 0) h
        rw [← hc]
        exact ih (m / 10) (by omega) (by omega) c' l' hq
theorem toDigits_len (k : Nat) : ∀ (m : Nat), m < 10 ^ (k + 1) → (Nat.toDigits 10 m).length ≤ k + 1 := by
  induction k with
  | zero => intro m h; rw [Nat.toDigits_of_lt_base (by simpa using h)]; simp
  | succ k ih =>
    intro m h
    by_cases h10 : m < 10
    · rw [Nat.toDigits_of_lt_base h10]; simp
    · have t : Nat.toDigits 10 (m / 10) ++ Nat.toDigits 10 (m % 10) = Nat.toDigits 10 (10 * (m / 10) + m % 10) := Nat.toDigits_append_toDigits (by decide) (by omega) (Nat.mod_lt m (by decide))
      rw [Nat.div_add_mod] at t
      rw [← t, List.length_append, Nat.toDigits_of_lt_base (Nat.mod_lt m (by decide))]
      have := ih (m / 10) (by rw [Nat.div_lt_iff_lt_mul (by decide)]; rw [Nat.pow_succ] at h; exact h)
      simp
      omega
def ndg (m : Nat) : List Nat := (Nat.toDigits 10 m).map Char.toNat
theorem ndg_all (m : Nat) : AllDigits (ndg m) := by
  intro c hc
  obtain ⟨ch, hch, e⟩ := List.mem_map.mp hc
  have r := digit_range (Nat.isDigit_of_mem_toDigits (by decide) (by decide) hch)
  rw [← e]
  exact r
theorem ndg_ne (m : Nat) : ndg m ≠ [] := by
  intro e
  have h2 := Nat.length_toDigits_pos (b := 10) (n := m)
  rw [List.map_eq_nil_iff.mp e] at h2
  simp at h2
theorem int_nat (m : Nat) : Ls (PySem.Str.ofString (toString ((m : Nat) : Int))) = ndg m := signs_num m
theorem int_negs (m : Nat) : Ls (PySem.Str.ofString (toString (-((m + 1 : Nat) : Int)))) = 45 :: ndg (m + 1) := by
  show (PySem.Str.ofString _).cps.toList = _
  rw [signs_ofString]
  have e : toString (-((m + 1 : Nat) : Int)) = "-" ++ toString (m + 1) := rfl
  rw [e, String.toList_append]
  show 45 :: ((toString (m + 1)).toList.map Char.toNat) = _
  show 45 :: ((Nat.repr (m + 1)).toList.map Char.toNat) = _
  rw [Nat.toList_repr]
  rfl
end TI
set_option Elab.async false
set_option linter.all false
set_option maxRecDepth 100000
set_option maxHeartbeats 4000000
/-! the defs of the text, as the evaluator runs them -/
namespace K28
open PySem PySem.Spec PyProof.Rows L2 TI
def topS (i : Nat) : Stmt := PySem.Challenge.pw_surewater_k28_plain_there_and_back.main.body.getD i (.Pass ⟨0, 0, 0, 0⟩)
def df_show_plain : Df := ⟨["value", "member"], 1, defScope (topS 9), defBody (topS 9)⟩
def df_read_plain : Df := ⟨["text", "value", "place"], 1, defScope (topS 11), defBody (topS 11)⟩
def df_value_ : Df := ⟨["text", "place", "depth", "sign"], 3, defScope (topS 12), defBody (topS 12)⟩
def df_members_ : Df := ⟨["text", "place", "depth", "members", "member", "sign"], 3, defScope (topS 13), defBody (topS 13)⟩
def df_integer_ : Df := ⟨["text", "place", "negative", "start", "tail", "digits", "number"], 2, defScope (topS 14), defBody (topS 14)⟩
def df_unquoted_ : Df := ⟨["text", "place", "stretches", "stop", "sign", "escape"], 2, defScope (topS 15), defBody (topS 15)⟩
def df_first_of_ : Df := ⟨["text", "place", "stop", "sign", "found"], 2, defScope (topS 16), defBody (topS 16)⟩
def df_law_cell_ : Df := ⟨["script", "k"], 2, defScope (topS 18), defBody (topS 18)⟩
def df_law_digits_ : Df := ⟨["script", "first", "last", "digits", "k", "cell", "turn", "seed"], 3, defScope (topS 19), defBody (topS 19)⟩
def df_law_draw_ : Df := ⟨["box", "many", "at"], 2, defScope (topS 20), defBody (topS 20)⟩
def df_law_same_ : Df := ⟨["actual", "due", "k"], 2, defScope (topS 21), defBody (topS 21)⟩
def df_law_plain_ : Df := ⟨["value", "one"], 1, defScope (topS 22), defBody (topS 22)⟩
def df_law_value_ : Df := ⟨["box", "deep", "kind", "number", "signs", "k"], 2, defScope (topS 23), defBody (topS 23)⟩
def df_law : Df := ⟨["script", "box", "turn", "value", "k", "text"], 1, defScope (topS 24), defBody (topS 24)⟩
def defs : List (Str × Df) := [("show_plain", df_show_plain), ("read_plain", df_read_plain), ("_value", df_value_), ("_members", df_members_), ("_integer", df_integer_), ("_unquoted", df_unquoted_), ("_first_of", df_first_of_), ("_law_cell", df_law_cell_), ("_law_digits", df_law_digits_), ("_law_draw", df_law_draw_), ("_law_same", df_law_same_), ("_law_plain", df_law_plain_), ("_law_value", df_law_value_), ("law", df_law)]
def bis : List Str := ["isinstance", "bool", "int", "len", "range", "str", "tuple"]
def cons : List (Str × Glo) := [("DIGITS", .con (.str "0123456789")), ("MOST_DIGITS", .con (.int 2000)), ("DEEPEST", .con (.int 40)), ("WORDS", .kd [("T", .bl true), ("F", .bl false), ("N", .non)]), ("ESCAPES", .kd [("\"", .str "\""), ("\\", .str "\\"), ("n", .str "\n")])]
def r1 (x : Str) : Str := Txt.replace x "\\" "\\\\"
def r2 (x : Str) : Str := Txt.replace x "\"" "\\\""
def r3 (x : Str) : Str := Txt.replace x "\n" "\\n"
def lnOk (x : Str) (k : Nat) : Bool := decide (x.length + (x.length + 1) * k ≤ szLine)
/-- the three exchanges -/
def escK (x : Str) (k : Str → Res) : Res := ckK (lnOk x 2) (ckK (lnOk (r1 x) 2) (ckK (lnOk (r2 (r1 x)) 2) (k (r3 (r2 (r1 x))))))
def quoK (x : Str) (k : Str → Res) : Res := escK x fun y => ckK (decide (("\"" : Str).length + y.length ≤ szLine)) (ckK (decide ((("\"" : Str) ++ y).length + ("\"" : Str).length ≤ szLine)) (k ((("\"" : Str) ++ y) ++ ("\"" : Str))))
def gQuo (ds : List D) : Res := match ds with
  | [.str x] => quoK x fun y => .ret (.str y) [none]
  | _ => .stuck
def T : Tab := ⟨defs, [("_quoted", 1, gQuo)], cons, bis⟩
abbrev cl (wf n : Nat) (f : Str) (ds : List D) : Res := T.call wf 60 n f ds
theorem m_cell (wf n : Nat) (ds : List D) (k : Int) : cl wf (n + 1) "_law_cell" [.rol ds, .int k] = (match decide (k < (ds.length : Int)) with
  | true => atK ds k fun d => puK d (.ret d [none, none])
  | false => .ret (.int 0) [none, none]) := by kernel_rfl
theorem m_draw (wf n : Nat) (ds : List D) (at_ many : Int) : cl wf (n + 1) "_law_draw" [.lst [.lst ds, .int at_], .int many] = (match decide (at_ < (ds.length : Int)) with
  | true => atK ds at_ fun d => dInt d fun r => dMod r (.int many) fun z => .ret z [some (.lst [.lst ds, .int (at_ + 1)]), none]
  | false => ckK (mulOk at_ 7) (ckK (decide (many ≠ 0)) (.ret (.int ((at_ * 7).fmod many)) [some (.lst [.lst ds, .int (at_ + 1)]), none]))) := by kernel_rfl

def onRet (r : Res) (k : D → TI.Env → Res) (x : Str → List (Str × D) → Res) : Res := match r with
  | .ret d fin => k d fin
  | .exc c fs => x c fs
  | .stuck => .stuck
def xst : Str → List (Str × D) → Res := fun _ _ => .stuck
def noE : Expr := .Constant .none 0 ⟨0, 0, 0, 0⟩
def rE : Stmt → Expr
  | .Return (some e) _ => e
  | _ => noE
def bL : Expr → Expr
  | .BinOp a _ _ _ => a
  | _ => noE
def bR : Expr → Expr
  | .BinOp _ _ b _ => b
  | _ => noE
def cA : Expr → Expr
  | .Call _ (a :: _) _ _ => a
  | _ => noE
def stS (d : Df) (i : Nat) : Stmt := d.body.getD i (.Pass ⟨0, 0, 0, 0⟩)
def ifT : Stmt → List Stmt
  | .If _ a _ _ => a
  | _ => []
def ifF : Stmt → List Stmt
  | .If _ _ b _ => b
  | _ => []
def forB : Stmt → List Stmt
  | .For _ _ b _ _ => b
  | _ => []
def tgOf : Stmt → Expr
  | .Assign (t :: _) _ _ => t
  | _ => noE
def cdd (wf n : Nat) (d : Df) : Cd := cdOf T.glo (T.call wf 60 n) wf d
def lcs (wf n : Nat) (d : Df) (k : Nat) (e : Expr) : D → TI.Env → (Option D → TI.Env → Res) → Res := match lcOf e with
  | some (elt, tg, _, ifs, scope) => lcStep (ev k) (cdd wf n d) d.sc elt tg ifs scope
  | none => fun _ _ _ => .stuck
def fst (wf n : Nat) (d : Df) (k : Nat) (st : Stmt) : D → TI.Env → Nx → Res := match st with
  | .For tg _ body _ _ => fun x ρ2 E2 => (ev k).G (cdd wf n d) d.sc tg x ρ2 fun ρ3 => (ev k).S (cdd wf n d) d.sc body ρ3 E2
  | _ => fun _ _ _ => .stuck
/-- the rest of a body -/
def rs (wf n : Nat) (d : Df) (i : Nat) (ρ : TI.Env) : Res := (ev (60 - i)).S (cdd wf n d) d.sc (d.body.drop i) ρ (nx0 d.np)

/-! ### the law's own text of a value, and the program's -/
theorem p_non (wf n : Nat) : cl wf (n + 1) "_law_plain" [.non] = .ret (.str "N") [none] := by kernel_rfl
theorem p_true (wf n : Nat) : cl wf (n + 1) "_law_plain" [.bl true] = .ret (.str "T") [none] := by kernel_rfl
theorem p_false (wf n : Nat) : cl wf (n + 1) "_law_plain" [.bl false] = .ret (.str "F") [none] := by kernel_rfl
theorem p_int (wf n : Nat) (i : Int) : cl wf (n + 1) "_law_plain" [.int i] = ckK (decide (i.natAbs.log2 < 1920)) (.ret (.str (Str.ofString (toString i))) [none]) := by kernel_rfl
theorem p_str (wf n : Nat) (x : Str) : cl wf (n + 1) "_law_plain" [.str x] = quoK x fun y => .ret (.str y) [none] := by kernel_rfl
def lcP : Expr := cA (bR (bL (rE ((ifT (stS df_law_plain_ 4)).getD 0 (.Pass ⟨0, 0, 0, 0⟩)))))
theorem p_tup (wf n : Nat) (ds : List D) : cl wf (n + 1) "_law_plain" [.tup ds] = lcC (lcs wf n df_law_plain_ 48 lcP) ds [] [some (.tup ds), none] fun acc ρ6 =>
    dJoin " " (.lst acc) fun z => dAdd (.str "(") z fun z2 => dAdd z2 (.str ")") fun z3 => .ret z3 (finOf 1 (wipeB ρ6 [some (.tup ds), none] [1])) := by kernel_rfl
theorem s_non (wf n : Nat) : cl wf (n + 1) "show_plain" [.non] = .ret (.str "N") [none] := by kernel_rfl
theorem s_true (wf n : Nat) : cl wf (n + 1) "show_plain" [.bl true] = .ret (.str "T") [none] := by kernel_rfl
theorem s_false (wf n : Nat) : cl wf (n + 1) "show_plain" [.bl false] = .ret (.str "F") [none] := by kernel_rfl
theorem s_int (wf n : Nat) (i : Int) : cl wf (n + 1) "show_plain" [.int i] = ckK (decide (i.natAbs.log2 < 1920)) (.ret (.str (Str.ofString (toString i))) [none]) := by kernel_rfl
theorem s_str (wf n : Nat) (x : Str) : cl wf (n + 2) "show_plain" [.str x] = onRet (quoK x fun y => .ret (.str y) [none]) (fun d _ => .ret d [none]) (fun c fs => .exc c fs) := by kernel_rfl
def lcS : Expr := cA (bR (bL (rE (stS df_show_plain 5))))
theorem s_tup (wf n : Nat) (ds : List D) : cl wf (n + 1) "show_plain" [.tup ds] = lcC (lcs wf n df_show_plain 48 lcS) ds [] [some (.tup ds), none] fun acc ρ6 =>
    dJoin " " (.lst acc) fun z => dAdd (.str "(") z fun z2 => dAdd z2 (.str ")") fun z3 => .ret z3 (finOf 1 (wipeB ρ6 [some (.tup ds), none] [1])) := by kernel_rfl
theorem p_step (wf n : Nat) (ds : List D) (d : D) (o : Option D) (k2 : Option D → TI.Env → Res) : lcs wf n df_law_plain_ 48 lcP d [some (.tup ds), o] k2 =
    onRet (cl wf n "_law_plain" [d]) (fun y fin => k2 (some y) [some (.tup ds), unlend d fin[0]?]) xst := by kernel_rfl
theorem s_step (wf n : Nat) (ds : List D) (d : D) (o : Option D) (k2 : Option D → TI.Env → Res) : lcs wf n df_show_plain 48 lcS d [some (.tup ds), o] k2 =
    onRet (cl wf n "show_plain" [d]) (fun y fin => k2 (some y) [some (.tup ds), unlend d fin[0]?]) xst := by kernel_rfl
/-! ### the law's comparison -/
theorem q_non (wf n : Nat) : cl wf (n + 1) "_law_same" [.non, .non] = .ret (.bl true) [none, none] := by kernel_rfl
theorem q_true (wf n : Nat) : cl wf (n + 1) "_law_same" [.bl true, .bl true] = .ret (.bl true) [none, none] := by kernel_rfl
theorem q_false (wf n : Nat) : cl wf (n + 1) "_law_same" [.bl false, .bl false] = .ret (.bl true) [none, none] := by kernel_rfl
theorem q_int (wf n : Nat) (i j : Int) : cl wf (n + 1) "_law_same" [.int i, .int j] = .ret (.bl (decide (i = j))) [none, none] := by kernel_rfl
theorem q_str (wf n : Nat) (x y : Str) : cl wf (n + 1) "_law_same" [.str x, .str y] = .ret (.bl (decide (x = y))) [none, none] := by kernel_rfl
def foQ : Stmt := (ifT (stS df_law_same_ 0)).getD 1 (.Pass ⟨0, 0, 0, 0⟩)
def nxQ (wf n : Nat) : Nx := { nx0 2 with nx := fun ρ1 => (ev 57).S (cdd wf n df_law_same_) df_law_same_.sc ((ifT (stS df_law_same_ 0)).drop 2) ρ1 { nx0 2 with nx := fun ρ2 => rs wf n df_law_same_ 1 ρ2 } }
theorem q_tup (wf n : Nat) (ds es : List D) : cl wf (n + 1) "_law_same" [.tup ds, .tup es] = (match !decide ((ds.length : Int) = (es.length : Int)) with
    | true => .ret (.bl false) [none, none]
    | false => ckK (smallI es.length) (forC (fst wf n df_law_same_ 57 foQ) (rngL 0 (es.length : Int).toNat) [some (.tup ds), some (.tup es), none] (nxQ wf n))) := by kernel_rfl
theorem q_end (wf n : Nat) (ds es : List D) (o : Option D) : (nxQ wf n).nx [some (.tup ds), some (.tup es), o] = .ret (.bl true) [none, none] := by kernel_rfl
theorem q_step (wf n : Nat) (ds es : List D) (k : Int) (o : Option D) (E : Nx) : fst wf n df_law_same_ 57 foQ (.int k) [some (.tup ds), some (.tup es), o] E =
    atK ds k fun d => puK d (atK es k fun e => puK e (onRet (cl wf n "_law_same" [d, e]) (fun r _ => dTru r fun b => match !b with
      | true => E.rt (.bl false) [some (.tup ds), some (.tup es), some (.int k)]
      | false => E.nx [some (.tup ds), some (.tup es), some (.int k)]) fun c fs => .exc c fs)) := by kernel_rfl
end K28
set_option Elab.async false
set_option linter.all false
set_option maxRecDepth 3000
set_option maxHeartbeats 400000
/-! the defs of the text, as the evaluator runs them: digits -/
namespace K28
open PySem PySem.Spec PyProof.Rows L2 TI
/-! BODY -/
/-! ### the digits of a script -/
def at1 (l : List Stmt) (i : Nat) : Stmt := l.getD i (.Pass ⟨0, 0, 0, 0⟩)
def foG : Stmt := stS df_law_digits_ 1
def nxG (wf n : Nat) : Nx := { nx0 3 with nx := fun ρ1 => rs wf n df_law_digits_ 2 ρ1 }
/-- a statement that runs on its own -/
def st1 (wf n : Nat) (d : Df) (k : Nat) (st : Stmt) (ρ : TI.Env) (E : Nx) : Res := stepS1 (ev k) (cdd wf n d) d.sc st ρ E
def stL (wf n : Nat) (d : Df) (k : Nat) (l : List Stmt) (ρ : TI.Env) (E : Nx) : Res := (ev k).S (cdd wf n d) d.sc l ρ E
theorem stL_cons (wf n : Nat) (d : Df) (k : Nat) (st : Stmt) (r : List Stmt) (ρ : TI.Env) (E : Nx) : stL wf n d (k + 1) (st :: r) ρ E = st1 wf n d k st ρ { E with nx := fun ρ1 => stL wf n d k r ρ1 E } := rfl
theorem stL_nil (wf n : Nat) (d : Df) (k : Nat) (ρ : TI.Env) (E : Nx) : stL wf n d (k + 1) [] ρ E = E.nx ρ := rfl
theorem cl_run (wf n : Nat) (f : Str) (d : Df) (ds : List D) (h : T.fns.lookup f = some d) : cl wf (n + 1) f ds = stL wf n d 60 d.body (env0 d ds) (nx0 d.np) := by
  show (match T.fns.lookup f with | some d => runD T.glo (T.call wf 60 n) wf 60 d ds | none => _) = _
  rw [h]; rfl
def bG : List Stmt := df_law_digits_.body
theorem bG_eq : bG = [at1 bG 0, at1 bG 1, at1 bG 2] := by kernel_rfl
theorem fG_eq : forB (at1 bG 1) = [at1 (forB (at1 bG 1)) 0, at1 (forB (at1 bG 1)) 1, at1 (forB (at1 bG 1)) 2, at1 (forB (at1 bG 1)) 3] := by kernel_rfl
def gS (i : Nat) : Stmt := at1 (forB (at1 bG 1)) i
theorem g_0 (wf n : Nat) (s : D) (o0 o1 o2 o3 o4 : Option D) (E : Nx) : st1 wf n df_law_digits_ 59 (at1 bG 0) [some s, some (.int 0), some (.int 63), o0, o1, o2, o3, o4] E = E.nx [some s, some (.int 0), some (.int 63), some (.lst []), o1, o2, o3, o4] := by kernel_rfl
theorem g_1 (wf n : Nat) (s : D) (xs : List D) (o1 o2 o3 o4 : Option D) (E : Nx) : st1 wf n df_law_digits_ 58 (at1 bG 1) [some s, some (.int 0), some (.int 63), some (.lst xs), o1, o2, o3, o4] E = forC (fst wf n df_law_digits_ 58 (at1 bG 1)) (rngL 0 63) [some s, some (.int 0), some (.int 63), some (.lst xs), o1, o2, o3, o4] E := by kernel_rfl
theorem g_2 (wf n : Nat) (s : D) (xs : List D) (o1 o2 o3 o4 : Option D) (E : Nx) : st1 wf n df_law_digits_ 57 (at1 bG 2) [some s, some (.int 0), some (.int 63), some (.lst xs), o1, o2, o3, o4] E = E.rt (.lst xs) [some s, some (.int 0), some (.int 63), none, o1, o2, o3, o4] := by kernel_rfl
theorem g_f (wf n : Nat) (s : D) (xs : List D) (k : Int) (o1 o2 o3 o4 : Option D) (E : Nx) : fst wf n df_law_digits_ 58 (at1 bG 1) (.int k) [some s, some (.int 0), some (.int 63), some (.lst xs), o1, o2, o3, o4] E = stL wf n df_law_digits_ 58 (forB (at1 bG 1)) [some s, some (.int 0), some (.int 63), some (.lst xs), some (.int k), o2, o3, o4] E := by kernel_rfl
theorem g_f0 (wf n : Nat) (s : D) (xs : List D) (k : Int) (o2 o3 o4 : Option D) (E : Nx) : st1 wf n df_law_digits_ 57 (gS 0) [some s, some (.int 0), some (.int 63), some (.lst xs), some (.int k), o2, o3, o4] E = (match decide ((1500 : Int) < (xs.length : Int)) with
    | true => E.bk [some s, some (.int 0), some (.int 63), some (.lst xs), some (.int k), o2, o3, o4]
    | false => E.nx [some s, some (.int 0), some (.int 63), some (.lst xs), some (.int k), o2, o3, o4]) := by kernel_rfl
theorem g_f1 (wf n : Nat) (ds xs : List D) (k : Int) (o2 o3 o4 : Option D) (E : Nx) : st1 wf n df_law_digits_ 56 (gS 1) [some (.rol ds), some (.int 0), some (.int 63), some (.lst xs), some (.int k), o2, o3, o4] E =
    onRet (cl wf n "_law_cell" [.rol ds, .int k]) (fun d fin => E.nx [some (.rol ds), some (.int 0), some (.int 63), some (.lst xs), some (.int k), some d, o3, o4]) (fun c fs => .exc c fs) := by kernel_rfl
theorem g_f2 (wf n : Nat) (s : D) (xs : List D) (k c : Int) (o3 o4 : Option D) (E : Nx) : st1 wf n df_law_digits_ 55 (gS 2) [some s, some (.int 0), some (.int 63), some (.lst xs), some (.int k), some (.int c), o3, o4] E =
    (match decide (c < 0) with
    | true => ckK (mulOk 2 c) (E.nx [some s, some (.int 0), some (.int 63), some (.lst xs), some (.int k), some (.int (1 - 2 * c)), o3, o4])
    | false => E.nx [some s, some (.int 0), some (.int 63), some (.lst xs), some (.int k), some (.int c), o3, o4]) := by kernel_rfl
def big : Int := 1000000000000000000
theorem g_f3 (wf n : Nat) (s : D) (xs : List D) (k c : Int) (o3 o4 : Option D) (E : Nx) : st1 wf n df_law_digits_ 54 (gS 3) [some s, some (.int 0), some (.int 63), some (.lst xs), some (.int k), some (.int c), o3, o4] E =
    (match decide (big ≤ c) with
    | true => stL wf n df_law_digits_ 54 (ifT (gS 3)) [some s, some (.int 0), some (.int 63), some (.lst xs), some (.int k), some (.int c), o3, o4] E
    | false => stL wf n df_law_digits_ 54 (ifF (gS 3)) [some s, some (.int 0), some (.int 63), some (.lst xs), some (.int k), some (.int c), o3, o4] E) := by kernel_rfl
theorem gT_eq : ifT (gS 3) = [at1 (ifT (gS 3)) 0] := by kernel_rfl
theorem gF_eq : ifF (gS 3) = [at1 (ifF (gS 3)) 0, at1 (ifF (gS 3)) 1] := by kernel_rfl
theorem g_b1 (wf n : Nat) (s : D) (xs : List D) (k c : Int) (o3 o4 : Option D) (E : Nx) : st1 wf n df_law_digits_ 53 (at1 (ifT (gS 3)) 0) [some s, some (.int 0), some (.int 63), some (.lst xs), some (.int k), some (.int c), o3, o4] E =
    forC (fst wf n df_law_digits_ 53 (at1 (ifT (gS 3)) 0)) (rngL 0 60) [some s, some (.int 0), some (.int 63), some (.lst xs), some (.int k), some (.int c), o3, o4] E := by kernel_rfl
theorem g_s0 (wf n : Nat) (s : D) (xs : List D) (k c : Int) (o3 o4 : Option D) (E : Nx) : st1 wf n df_law_digits_ 53 (at1 (ifF (gS 3)) 0) [some s, some (.int 0), some (.int 63), some (.lst xs), some (.int k), some (.int c), o3, o4] E =
    ckK (mulOk c 48271) (ckK (mulOk k 69621) (E.nx [some s, some (.int 0), some (.int 63), some (.lst xs), some (.int k), some (.int c), o3, some (.int ((c * 48271 + k * 69621 + 11).fmod 2147483647))])) := by kernel_rfl
theorem g_s1 (wf n : Nat) (s : D) (xs : List D) (k c : Int) (o3 o4 : Option D) (E : Nx) : st1 wf n df_law_digits_ 52 (at1 (ifF (gS 3)) 1) [some s, some (.int 0), some (.int 63), some (.lst xs), some (.int k), some (.int c), o3, o4] E =
    forC (fst wf n df_law_digits_ 52 (at1 (ifF (gS 3)) 1)) (rngL 0 12) [some s, some (.int 0), some (.int 63), some (.lst xs), some (.int k), some (.int c), o3, o4] E := by kernel_rfl
theorem g_t1 (wf n : Nat) (s : D) (xs : List D) (k c t : Int) (o3 o4 : Option D) (E : Nx) : fst wf n df_law_digits_ 53 (at1 (ifT (gS 3)) 0) (.int t) [some s, some (.int 0), some (.int 63), some (.lst xs), some (.int k), some (.int c), o3, o4] E =
    (match decide (0 < c) with
    | true => ckK (decide (xs.length < szLine)) (E.nx [some s, some (.int 0), some (.int 63), some (.lst (xs ++ [.int (c.fmod 1000)])), some (.int k), some (.int (c.fdiv 1000)), some (.int t), o4])
    | false => E.nx [some s, some (.int 0), some (.int 63), some (.lst xs), some (.int k), some (.int c), some (.int t), o4]) := by kernel_rfl
theorem g_t2 (wf n : Nat) (s : D) (xs : List D) (k c t sd : Int) (o3 : Option D) (E : Nx) : fst wf n df_law_digits_ 52 (at1 (ifF (gS 3)) 1) (.int t) [some s, some (.int 0), some (.int 63), some (.lst xs), some (.int k), some (.int c), o3, some (.int sd)] E =
    ckK (mulOk sd 16807) (ckK (mulOk 7 t) (ckK (decide (xs.length < szLine)) (E.nx [some s, some (.int 0), some (.int 63), some (.lst (xs ++ [.int ((((sd * 16807 + 7 * t + 1).fmod 2147483647).fdiv 997).fmod 1000)])), some (.int k), some (.int c), some (.int t), some (.int ((sd * 16807 + 7 * t + 1).fmod 2147483647))]))) := by kernel_rfl
/-! ### a drawn value -/
abbrev dV := df_law_value_
def bV : List Stmt := dV.body
theorem bV_eq : bV = [at1 bV 0, at1 bV 1, at1 bV 2, at1 bV 3, at1 bV 4, at1 bV 5, at1 bV 6] := by kernel_rfl
def drw (wf n : Nat) (b : D) (k : Int) (f : D → Option D → Res) : Res := onRet (cl wf n "_law_draw" [b, .int k]) (fun d fin => f d (match fin[0]? with | some o => o | none => none)) (fun c fs => .exc c fs)
theorem v_0 (wf n : Nat) (bs : List D) (dp : D) (o2 o3 o4 o5 : Option D) (E : Nx) : st1 wf n dV 59 (at1 bV 0) [some (.lst bs), some dp, o2, o3, o4, o5] E = drw wf n (.lst bs) 9 fun d b => E.nx [b, some dp, some d, o3, o4, o5] := by kernel_rfl
theorem v_1 (wf n : Nat) (b : Option D) (dp kd : Int) (o3 o4 o5 : Option D) (E : Nx) : st1 wf n dV 58 (at1 bV 1) [b, some (.int dp), some (.int kd), o3, o4, o5] E = (match decide (kd < 3) with
    | true => (match decide (0 < dp) with
      | true => stL wf n dV 58 (ifT (at1 bV 1)) [b, some (.int dp), some (.int kd), o3, o4, o5] E
      | false => E.nx [b, some (.int dp), some (.int kd), o3, o4, o5])
    | false => E.nx [b, some (.int dp), some (.int kd), o3, o4, o5]) := by kernel_rfl
def v1S : Stmt := at1 (ifT (at1 bV 1)) 0
theorem v1_eq : ifT (at1 bV 1) = [v1S] := by kernel_rfl
def lcV : Expr := cA (rE v1S)
theorem v_1t (wf n : Nat) (bs : List D) (dp kd : Int) (o3 o4 : Option D) (E : Nx) : st1 wf n dV 57 v1S [some (.lst bs), some (.int dp), some (.int kd), o3, o4, none] E = drw wf n (.lst bs) 4 fun d b => (match d with
    | .int hi => ckK (smallI hi) (lcC (lcs wf n dV 54 lcV) (rngL 0 hi.toNat) [] [b, some (.int dp), some (.int kd), o3, o4, none] fun acc ρ6 => dTup (.lst acc) fun r => E.rt r (wipeB ρ6 [b, some (.int dp), some (.int kd), o3, o4, none] [5]))
    | _ => .stuck) := by kernel_rfl
theorem v_1s (wf n : Nat) (bs : List D) (dp kd k : Int) (o3 o4 o5 : Option D) (k2 : Option D → TI.Env → Res) : lcs wf n dV 54 lcV (.int k) [some (.lst bs), some (.int dp), some (.int kd), o3, o4, o5] k2 =
    onRet (cl wf n "_law_value" [.lst bs, .int (dp - 1)]) (fun d fin => k2 (some d) [(match fin[0]? with | some o => o | none => none), some (.int dp), some (.int kd), o3, o4, some (.int k)]) xst := by kernel_rfl
theorem v_2 (wf n : Nat) (bs : List D) (dp : D) (kd : Int) (o3 o4 o5 : Option D) (E : Nx) : st1 wf n dV 57 (at1 bV 2) [some (.lst bs), some dp, some (.int kd), o3, o4, o5] E = (match decide (kd = 3) with
    | true => drw wf n (.lst bs) 3 fun d b => dIx (.lst [.non, .bl true, .bl false]) d fun z => puK z (E.rt z [b, some dp, some (.int kd), o3, o4, o5])
    | false => E.nx [some (.lst bs), some dp, some (.int kd), o3, o4, o5]) := by kernel_rfl
theorem v_3 (wf n : Nat) (b : Option D) (dp : D) (kd : Int) (o3 o4 o5 : Option D) (E : Nx) : st1 wf n dV 56 (at1 bV 3) [b, some dp, some (.int kd), o3, o4, o5] E = (match decide (kd = 4) with
    | true => stL wf n dV 56 (ifT (at1 bV 3)) [b, some dp, some (.int kd), o3, o4, o5] E
    | false => E.nx [b, some dp, some (.int kd), o3, o4, o5]) := by kernel_rfl
def v3S (i : Nat) : Stmt := at1 (ifT (at1 bV 3)) i
theorem v3_eq : ifT (at1 bV 3) = [v3S 0, v3S 1] := by kernel_rfl
theorem v_30 (wf n : Nat) (bs : List D) (dp kd : D) (o3 o4 o5 : Option D) (E : Nx) : st1 wf n dV 55 (v3S 0) [some (.lst bs), some dp, some kd, o3, o4, o5] E =
    drw wf n (.lst bs) 900 fun d1 b1 => dMul d1 (.int 10000000000000000) fun m => getK [b1, some dp, some kd, o3, o4, o5] 0 fun _ => getK [b1, some dp, some kd, o3, o4, o5] 0 fun b1' => onRet (cl wf n "_law_draw" [b1', .int 900]) (fun d2 fin => dAdd m d2 fun s => dSub s (.int 450) fun z => E.nx [unlend b1' fin[0]?, some dp, some kd, some z, o4, o5]) (fun c fs => .exc c fs) := by kernel_rfl
theorem v_31 (wf n : Nat) (bs : List D) (dp kd : D) (nb : Int) (o4 o5 : Option D) (E : Nx) : st1 wf n dV 54 (v3S 1) [some (.lst bs), some dp, some kd, some (.int nb), o4, o5] E =
    drw wf n (.lst bs) 4 fun d b => dIx (.lst [.int nb, .int (0 - nb), .int (10000000000000000000 + nb), .int 0]) d fun z => puK z (E.rt z [b, some dp, some kd, some (.int nb), o4, o5]) := by kernel_rfl
theorem v_4 (wf n : Nat) (bs : List D) (dp : D) (kd : Int) (o3 o4 o5 : Option D) (E : Nx) : st1 wf n dV 55 (at1 bV 4) [some (.lst bs), some dp, some (.int kd), o3, o4, o5] E = (match decide (kd = 5) with
    | true => drw wf n (.lst bs) 30 fun d b => dSub d (.int 15) fun z => E.rt z [b, some dp, some (.int kd), o3, o4, o5]
    | false => E.nx [some (.lst bs), some dp, some (.int kd), o3, o4, o5]) := by kernel_rfl
def sgn : Str := " !\"#$&'()*+,-./0189:;<=>?@AZ[\\]^_`az{|}~\nnTFN"
theorem v_5 (wf n : Nat) (b : Option D) (dp kd : D) (o3 o4 o5 : Option D) (E : Nx) : st1 wf n dV 54 (at1 bV 5) [b, some dp, some kd, o3, o4, o5] E = E.nx [b, some dp, some kd, o3, some (.str sgn), o5] := by kernel_rfl
def lcV6 : Expr := cA (rE (at1 bV 6))
theorem v_6 (wf n : Nat) (bs : List D) (dp kd : D) (o3 : Option D) (E : Nx) : st1 wf n dV 53 (at1 bV 6) [some (.lst bs), some dp, some kd, o3, some (.str sgn), none] E = drw wf n (.lst bs) 9 fun d b => (match d with
    | .int hi => ckK (smallI hi) (lcC (lcs wf n dV 50 lcV6) (rngL 0 hi.toNat) [] [b, some dp, some kd, o3, some (.str sgn), none] fun acc ρ6 => dJoin "" (.lst acc) fun r => E.rt r (wipeB ρ6 [b, some dp, some kd, o3, some (.str sgn), none] [5]))
    | _ => .stuck) := by kernel_rfl
theorem v_6s (wf n : Nat) (bs : List D) (dp kd : D) (k : Int) (o3 o5 : Option D) (k2 : Option D → TI.Env → Res) : lcs wf n dV 50 lcV6 (.int k) [some (.lst bs), some dp, some kd, o3, some (.str sgn), o5] k2 =
    onRet (cl wf n "_law_draw" [.lst bs, .int 900]) (fun d fin => dInt d fun i => dMod i (.int (sgn.length : Int)) fun j => dIx (.str sgn) j fun z => puK z (k2 (some z) [(match fin[0]? with | some o => o | none => none), some dp, some kd, o3, some (.str sgn), some (.int k)])) xst := by kernel_rfl
end K28
set_option Elab.async false
set_option linter.all false
set_option maxRecDepth 3000
set_option maxHeartbeats 400000
/-! the defs of the text, as the evaluator runs them: the reader, the law -/
namespace K28
open PySem PySem.Spec PyProof.Rows L2 TI
/-! BODY -/
def whC (wf n : Nat) (d : Df) (k : Nat) (st : Stmt) : Nat → TI.Env → Nx → Res := match st with
  | .While c body _ _ => whileC (fun ρ1 k' => (ev k).T (cdd wf n d) d.sc c ρ1 k') (fun ρ1 E2 => (ev k).S (cdd wf n d) d.sc body ρ1 E2)
  | _ => fun _ _ _ => .stuck
def whB : Stmt → List Stmt
  | .While _ b _ _ => b
  | _ => []
def gG (wf n : Nat) (d : Df) (k : Nat) (st : Stmt) (v : D) (ρ : TI.Env) (kk : TI.Env → Res) : Res := (ev k).G (cdd wf n d) d.sc (tgOf st) v ρ kk
def exX : Str → List (Str × D) → Res := fun c fs => .exc c fs
def cs1 (x : Str) (p : Int) : Str := cutS x (some p) (some (p + 1))
def szO (x : Str) : Bool := decide (x.length ≤ szLine)
/-! ### read_plain -/
abbrev dR := df_read_plain
def bRd : List Stmt := dR.body
theorem bRd_eq : bRd = [at1 bRd 0, at1 bRd 1, at1 bRd 2] := by kernel_rfl
theorem r_0 (wf n : Nat) (x : Str) (o1 o2 : Option D) (E : Nx) : st1 wf n dR 59 (at1 bRd 0) [some (.str x), o1, o2] E = onRet (cl wf n "_value" [.str x, .int 0, .int 0]) (fun d _ => gG wf n dR 59 (at1 bRd 0) d [some (.str x), o1, o2] E.nx) exX := by kernel_rfl
theorem r_0g (wf n : Nat) (x : Str) (o1 o2 : Option D) (v : D) (p : Int) (kk : TI.Env → Res) : gG wf n dR 59 (at1 bRd 0) (.tup [v, .int p]) [some (.str x), o1, o2] kk = kk [some (.str x), some v, some (.int p)] := by kernel_rfl
theorem r_1 (wf n : Nat) (x : Str) (v : D) (p : Int) (E : Nx) : st1 wf n dR 58 (at1 bRd 1) [some (.str x), some v, some (.int p)] E = ckK (szO x) (match !decide (p = (x.length : Int)) with
  | true => .stuck
  | false => E.nx [some (.str x), some v, some (.int p)]) := by kernel_rfl
theorem r_2 (wf n : Nat) (x v p : D) (E : Nx) : st1 wf n dR 57 (at1 bRd 2) [some x, some v, some p] E = (match v.pu with
  | true => E.rt v [some x, some v, some p]
  | false => E.rt v [some x, none, some p]) := by kernel_rfl
/-! ### _value -/
abbrev dW := df_value_
def bW : List Stmt := dW.body
theorem bW_eq : bW = [at1 bW 0, at1 bW 1, at1 bW 2, at1 bW 3, at1 bW 4] := by kernel_rfl
theorem w_0 (wf n : Nat) (x : Str) (p : Int) (dp : D) (o : Option D) (E : Nx) : st1 wf n dW 59 (at1 bW 0) [some (.str x), some (.int p), some dp, o] E = ckK (szO x) (E.nx [some (.str x), some (.int p), some dp, some (.str (cs1 x p))]) := by kernel_rfl
theorem w_T (wf n : Nat) (x : D) (p : Int) (dp : D) (E : Nx) : stL wf n dW 59 (bW.drop 1) [some x, some (.int p), some dp, some (.str "T")] E = E.rt (.tup [.bl true, .int (p + 1)]) [some x, some (.int p), some dp, some (.str "T")] := by kernel_rfl
theorem w_F (wf n : Nat) (x : D) (p : Int) (dp : D) (E : Nx) : stL wf n dW 59 (bW.drop 1) [some x, some (.int p), some dp, some (.str "F")] E = E.rt (.tup [.bl false, .int (p + 1)]) [some x, some (.int p), some dp, some (.str "F")] := by kernel_rfl
theorem w_N (wf n : Nat) (x : D) (p : Int) (dp : D) (E : Nx) : stL wf n dW 59 (bW.drop 1) [some x, some (.int p), some dp, some (.str "N")] E = E.rt (.tup [.non, .int (p + 1)]) [some x, some (.int p), some dp, some (.str "N")] := by kernel_rfl
theorem w_q (wf n : Nat) (x : Str) (p : Int) (dp : D) (E : Nx) : stL wf n dW 59 (bW.drop 1) [some (.str x), some (.int p), some dp, some (.str "\"")] E = onRet (cl wf n "_unquoted" [.str x, .int (p + 1)]) (fun d _ => E.rt d [some (.str x), some (.int p), some dp, some (.str "\"")]) exX := by kernel_rfl
theorem w_p (wf n : Nat) (x : Str) (p dp : Int) (E : Nx) : stL wf n dW 59 (bW.drop 1) [some (.str x), some (.int p), some (.int dp), some (.str "(")] E = (match decide (dp < 40) with
  | true => onRet (cl wf n "_members" [.str x, .int (p + 1), .int (dp + 1)]) (fun d _ => E.rt d [some (.str x), some (.int p), some (.int dp), some (.str "(")]) exX
  | false => onRet (cl wf n "_integer" [.str x, .int p]) (fun d _ => E.rt d [some (.str x), some (.int p), some (.int dp), some (.str "(")]) exX) := by kernel_rfl
theorem w_d0 (wf n : Nat) (x : Str) (p : Int) (dp : D) (E : Nx) : stL wf n dW 59 (bW.drop 1) [some (.str x), some (.int p), some dp, some (.str "-")] E = onRet (cl wf n "_integer" [.str x, .int p]) (fun d _ => E.rt d [some (.str x), some (.int p), some dp, some (.str "-")]) exX := by kernel_rfl
theorem w_d1 (wf n : Nat) (x : Str) (p : Int) (dp : D) (E : Nx) : stL wf n dW 59 (bW.drop 1) [some (.str x), some (.int p), some dp, some (.str "0")] E = onRet (cl wf n "_integer" [.str x, .int p]) (fun d _ => E.rt d [some (.str x), some (.int p), some dp, some (.str "0")]) exX := by kernel_rfl
theorem w_d2 (wf n : Nat) (x : Str) (p : Int) (dp : D) (E : Nx) : stL wf n dW 59 (bW.drop 1) [some (.str x), some (.int p), some dp, some (.str "1")] E = onRet (cl wf n "_integer" [.str x, .int p]) (fun d _ => E.rt d [some (.str x), some (.int p), some dp, some (.str "1")]) exX := by kernel_rfl
theorem w_d3 (wf n : Nat) (x : Str) (p : Int) (dp : D) (E : Nx) : stL wf n dW 59 (bW.drop 1) [some (.str x), some (.int p), some dp, some (.str "2")] E = onRet (cl wf n "_integer" [.str x, .int p]) (fun d _ => E.rt d [some (.str x), some (.int p), some dp, some (.str "2")]) exX := by kernel_rfl
theorem w_d4 (wf n : Nat) (x : Str) (p : Int) (dp : D) (E : Nx) : stL wf n dW 59 (bW.drop 1) [some (.str x), some (.int p), some dp, some (.str "3")] E = onRet (cl wf n "_integer" [.str x, .int p]) (fun d _ => E.rt d [some (.str x), some (.int p), some dp, some (.str "3")]) exX := by kernel_rfl
theorem w_d5 (wf n : Nat) (x : Str) (p : Int) (dp : D) (E : Nx) : stL wf n dW 59 (bW.drop 1) [some (.str x), some (.int p), some dp, some (.str "4")] E = onRet (cl wf n "_integer" [.str x, .int p]) (fun d _ => E.rt d [some (.str x), some (.int p), some dp, some (.str "4")]) exX := by kernel_rfl
theorem w_d6 (wf n : Nat) (x : Str) (p : Int) (dp : D) (E : Nx) : stL wf n dW 59 (bW.drop 1) [some (.str x), some (.int p), some dp, some (.str "5")] E = onRet (cl wf n "_integer" [.str x, .int p]) (fun d _ => E.rt d [some (.str x), some (.int p), some dp, some (.str "5")]) exX := by kernel_rfl
theorem w_d7 (wf n : Nat) (x : Str) (p : Int) (dp : D) (E : Nx) : stL wf n dW 59 (bW.drop 1) [some (.str x), some (.int p), some dp, some (.str "6")] E = onRet (cl wf n "_integer" [.str x, .int p]) (fun d _ => E.rt d [some (.str x), some (.int p), some dp, some (.str "6")]) exX := by kernel_rfl
theorem w_d8 (wf n : Nat) (x : Str) (p : Int) (dp : D) (E : Nx) : stL wf n dW 59 (bW.drop 1) [some (.str x), some (.int p), some dp, some (.str "7")] E = onRet (cl wf n "_integer" [.str x, .int p]) (fun d _ => E.rt d [some (.str x), some (.int p), some dp, some (.str "7")]) exX := by kernel_rfl
theorem w_d9 (wf n : Nat) (x : Str) (p : Int) (dp : D) (E : Nx) : stL wf n dW 59 (bW.drop 1) [some (.str x), some (.int p), some dp, some (.str "8")] E = onRet (cl wf n "_integer" [.str x, .int p]) (fun d _ => E.rt d [some (.str x), some (.int p), some dp, some (.str "8")]) exX := by kernel_rfl
theorem w_d10 (wf n : Nat) (x : Str) (p : Int) (dp : D) (E : Nx) : stL wf n dW 59 (bW.drop 1) [some (.str x), some (.int p), some dp, some (.str "9")] E = onRet (cl wf n "_integer" [.str x, .int p]) (fun d _ => E.rt d [some (.str x), some (.int p), some dp, some (.str "9")]) exX := by kernel_rfl
/-! ### _members -/
abbrev dM := df_members_
def bM : List Stmt := dM.body
theorem bM_eq : bM = [at1 bM 0, at1 bM 1, at1 bM 2] := by kernel_rfl
theorem m_0 (wf n : Nat) (x : Str) (p : Int) (dp : D) (o3 o4 o5 : Option D) (E : Nx) : st1 wf n dM 59 (at1 bM 0) [some (.str x), some (.int p), some dp, o3, o4, o5] E = ckK (szO x) (match decide (cs1 x p = ")") with
  | true => E.rt (.tup [.tup [], .int (p + 1)]) [some (.str x), some (.int p), some dp, o3, o4, o5]
  | false => E.nx [some (.str x), some (.int p), some dp, o3, o4, o5]) := by kernel_rfl
theorem m_1 (wf n : Nat) (x p dp : Option D) (o3 o4 o5 : Option D) (E : Nx) : st1 wf n dM 58 (at1 bM 1) [x, p, dp, o3, o4, o5] E = E.nx [x, p, dp, some (.lst []), o4, o5] := by kernel_rfl
theorem m_2 (wf n : Nat) (ρ : TI.Env) (E : Nx) : st1 wf n dM 57 (at1 bM 2) ρ E = whC wf n dM 57 (at1 bM 2) wf ρ E := by kernel_rfl
theorem m_w (wf n w : Nat) (ρ : TI.Env) (E : Nx) : whC wf n dM 57 (at1 bM 2) (w + 1) ρ E = stL wf n dM 57 (whB (at1 bM 2)) ρ { nx := fun ρ2 => whC wf n dM 57 (at1 bM 2) w ρ2 E, bk := E.nx, ct := fun ρ2 => whC wf n dM 57 (at1 bM 2) w ρ2 E, rt := E.rt } := by kernel_rfl
def mS (i : Nat) : Stmt := at1 (whB (at1 bM 2)) i
theorem mS_eq : whB (at1 bM 2) = [mS 0, mS 1, mS 2, mS 3, mS 4, mS 5] := by kernel_rfl
theorem m_b0 (wf n : Nat) (x : Str) (p dp : Int) (o3 o4 o5 : Option D) (E : Nx) : st1 wf n dM 56 (mS 0) [some (.str x), some (.int p), some (.int dp), o3, o4, o5] E = onRet (cl wf n "_value" [.str x, .int p, .int dp]) (fun d _ => gG wf n dM 56 (mS 0) d [some (.str x), some (.int p), some (.int dp), o3, o4, o5] E.nx) exX := by kernel_rfl
theorem m_b0g (wf n : Nat) (x : D) (p dp : Int) (o3 o4 o5 : Option D) (v : D) (p' : Int) (kk : TI.Env → Res) : gG wf n dM 56 (mS 0) (.tup [v, .int p']) [some x, some (.int p), some (.int dp), o3, o4, o5] kk = kk [some x, some (.int p'), some (.int dp), o3, some v, o5] := by kernel_rfl
theorem m_b1 (wf n : Nat) (x p dp v : D) (ms : List D) (o5 : Option D) (E : Nx) : st1 wf n dM 55 (mS 1) [some x, some p, some dp, some (.lst ms), some v, o5] E = puK v (ckK (decide (ms.length < szLine)) (E.nx [some x, some p, some dp, some (.lst (ms ++ [v])), some v, o5])) := by kernel_rfl
theorem m_b2 (wf n : Nat) (x : Str) (p : Int) (dp : D) (o3 o4 o5 : Option D) (E : Nx) : st1 wf n dM 54 (mS 2) [some (.str x), some (.int p), some dp, o3, o4, o5] E = ckK (szO x) (E.nx [some (.str x), some (.int p), some dp, o3, o4, some (.str (cs1 x p))]) := by kernel_rfl
theorem m_b3 (wf n : Nat) (x : D) (p : Int) (dp : D) (ms : List D) (o4 : Option D) (s : Str) (E : Nx) : st1 wf n dM 53 (mS 3) [some x, some (.int p), some dp, some (.lst ms), o4, some (.str s)] E = (match decide (s = ")") with
  | true => pusK ms (E.rt (.tup [.tup ms, .int (p + 1)]) [some x, some (.int p), some dp, some (.lst ms), o4, some (.str s)])
  | false => E.nx [some x, some (.int p), some dp, some (.lst ms), o4, some (.str s)]) := by kernel_rfl
theorem m_b4 (wf n : Nat) (x p dp : D) (o3 o4 : Option D) (s : Str) (E : Nx) : st1 wf n dM 52 (mS 4) [some x, some p, some dp, o3, o4, some (.str s)] E = (match !decide (s = " ") with
  | true => .stuck
  | false => E.nx [some x, some p, some dp, o3, o4, some (.str s)]) := by kernel_rfl
theorem m_b5 (wf n : Nat) (x : D) (p : Int) (dp o3 o4 o5 : Option D) (E : Nx) : st1 wf n dM 51 (mS 5) [some x, some (.int p), dp, o3, o4, o5] E = E.nx [some x, some (.int (p + 1)), dp, o3, o4, o5] := by kernel_rfl
/-! ### _integer -/
abbrev dI := df_integer_
def bI : List Stmt := dI.body
theorem bI_eq : bI = [at1 bI 0, at1 bI 1, at1 bI 2, at1 bI 3, at1 bI 4, at1 bI 5, at1 bI 6, at1 bI 7, at1 bI 8] := by kernel_rfl
theorem i_0 (wf n : Nat) (x : Str) (p : Int) (o2 o3 o4 o5 o6 : Option D) (E : Nx) : st1 wf n dI 59 (at1 bI 0) [some (.str x), some (.int p), o2, o3, o4, o5, o6] E = ckK (szO x) (E.nx [some (.str x), some (.int p), some (.bl (decide (cs1 x p = "-"))), o3, o4, o5, o6]) := by kernel_rfl
theorem i_1t (wf n : Nat) (x : D) (p : Int) (o3 o4 o5 o6 : Option D) (E : Nx) : st1 wf n dI 58 (at1 bI 1) [some x, some (.int p), some (.bl true), o3, o4, o5, o6] E = E.nx [some x, some (.int p), some (.bl true), some (.int (p + 1)), o4, o5, o6] := by kernel_rfl
theorem i_1f (wf n : Nat) (x : D) (p : Int) (o3 o4 o5 o6 : Option D) (E : Nx) : st1 wf n dI 58 (at1 bI 1) [some x, some (.int p), some (.bl false), o3, o4, o5, o6] E = E.nx [some x, some (.int p), some (.bl false), some (.int p), o4, o5, o6] := by kernel_rfl
theorem i_2 (wf n : Nat) (x : Str) (p b : D) (st : Int) (o4 o5 o6 : Option D) (E : Nx) : st1 wf n dI 57 (at1 bI 2) [some (.str x), some p, some b, some (.int st), o4, o5, o6] E = ckK (szO x) (E.nx [some (.str x), some p, some b, some (.int st), some (.str (cutS x (some st) (some (st + 2000 + 1)))), o5, o6]) := by kernel_rfl
def lsD (x : Str) : Str := Txt.lstripChars x "0123456789"
theorem i_3 (wf n : Nat) (x p b st : D) (tl : Str) (o5 o6 : Option D) (E : Nx) : st1 wf n dI 56 (at1 bI 3) [some x, some p, some b, some st, some (.str tl), o5, o6] E = ckK (szO tl) (ckK (szO tl) (ckK (szO (lsD tl)) (ckK (szO tl) (E.nx [some x, some p, some b, some st, some (.str tl), some (.str (cutS tl none (some ((tl.length : Int) - ((lsD tl).length : Int))))), o6])))) := by kernel_rfl
theorem i_4f (wf n : Nat) (x p st tl : D) (dg : Str) (o6 : Option D) (E : Nx) : st1 wf n dI 55 (at1 bI 4) [some x, some p, some (.bl false), some st, some tl, some (.str dg), o6] E = (match decide (dg = "") with
  | true => .stuck
  | false => E.nx [some x, some p, some (.bl false), some st, some tl, some (.str dg), o6]) := by kernel_rfl
theorem i_4t (wf n : Nat) (x p st tl : D) (dg : Str) (o6 : Option D) (E : Nx) : st1 wf n dI 55 (at1 bI 4) [some x, some p, some (.bl true), some st, some tl, some (.str dg), o6] E = (match decide (dg = "") with
  | true => .stuck
  | false => dIx (.str dg) (.int 0) fun c => dEq c (.str "0") fun e => match e with
    | true => .stuck
    | false => E.nx [some x, some p, some (.bl true), some st, some tl, some (.str dg), o6]) := by kernel_rfl
theorem i_5 (wf n : Nat) (x p b st tl : D) (dg : Str) (o6 : Option D) (E : Nx) : st1 wf n dI 54 (at1 bI 5) [some x, some p, some b, some st, some tl, some (.str dg), o6] E = (dIx (.str dg) (.int 0) fun c => dEq c (.str "0") fun e => match e with
    | true => ckK (szO dg) (match decide ((1 : Int) < (dg.length : Int)) with
      | true => .stuck
      | false => E.nx [some x, some p, some b, some st, some tl, some (.str dg), o6])
    | false => E.nx [some x, some p, some b, some st, some tl, some (.str dg), o6]) := by kernel_rfl
theorem i_6 (wf n : Nat) (x p b st tl : D) (dg : Str) (o6 : Option D) (E : Nx) : st1 wf n dI 53 (at1 bI 6) [some x, some p, some b, some st, some tl, some (.str dg), o6] E = ckK (szO dg) (match decide ((2000 : Int) < (dg.length : Int)) with
    | true => .stuck
    | false => E.nx [some x, some p, some b, some st, some tl, some (.str dg), o6]) := by kernel_rfl
theorem i_7t (wf n : Nat) (x p st tl : D) (dg : Str) (o6 : Option D) (E : Nx) : st1 wf n dI 52 (at1 bI 7) [some x, some p, some (.bl true), some st, some tl, some (.str dg), o6] E = dInt (.str dg) fun r => dNeg r fun z => puK z (puK z (E.nx [some x, some p, some (.bl true), some st, some tl, some (.str dg), some z])) := by kernel_rfl
theorem i_7f (wf n : Nat) (x p st tl : D) (dg : Str) (o6 : Option D) (E : Nx) : st1 wf n dI 52 (at1 bI 7) [some x, some p, some (.bl false), some st, some tl, some (.str dg), o6] E = dInt (.str dg) fun z => puK z (puK z (E.nx [some x, some p, some (.bl false), some st, some tl, some (.str dg), some z])) := by kernel_rfl
theorem i_8 (wf n : Nat) (x p b tl : D) (st nm : Int) (dg : Str) (E : Nx) : st1 wf n dI 51 (at1 bI 8) [some x, some p, some b, some (.int st), some tl, some (.str dg), some (.int nm)] E = ckK (szO dg) (E.rt (.tup [.int nm, .int (st + (dg.length : Int))]) [some x, some p, some b, some (.int st), some tl, some (.str dg), some (.int nm)]) := by kernel_rfl
/-! ### _first_of -/
abbrev dO := df_first_of_
def bO : List Stmt := dO.body
theorem bO_eq : bO = [at1 bO 0, at1 bO 1, at1 bO 2] := by kernel_rfl
theorem o_0 (wf n : Nat) (x : Str) (p : D) (o2 o3 o4 : Option D) (E : Nx) : st1 wf n dO 59 (at1 bO 0) [some (.str x), some p, o2, o3, o4] E = ckK (szO x) (E.nx [some (.str x), some p, some (.int (x.length : Int)), o3, o4]) := by kernel_rfl
theorem o_1 (wf n : Nat) (ρ : TI.Env) (E : Nx) : st1 wf n dO 58 (at1 bO 1) ρ E = forC (fst wf n dO 58 (at1 bO 1)) [.str "\"", .str "\\", .str "\n"] ρ E := by kernel_rfl
theorem o_s (wf n : Nat) (x c : Str) (p s : Int) (o3 o4 : Option D) (E : Nx) : fst wf n dO 58 (at1 bO 1) (.str c) [some (.str x), some (.int p), some (.int s), o3, o4] E = (match decide (0 ≤ Txt.findIn x c p s) with
  | true => E.nx [some (.str x), some (.int p), some (.int (Txt.findIn x c p s)), some (.str c), some (.int (Txt.findIn x c p s))]
  | false => E.nx [some (.str x), some (.int p), some (.int s), some (.str c), some (.int (Txt.findIn x c p s))]) := by kernel_rfl
theorem o_2 (wf n : Nat) (x p : D) (s : Int) (o3 o4 : Option D) (E : Nx) : st1 wf n dO 57 (at1 bO 2) [some x, some p, some (.int s), o3, o4] E = E.rt (.int s) [some x, some p, some (.int s), o3, o4] := by kernel_rfl
/-! ### _unquoted -/
abbrev dU := df_unquoted_
def bU : List Stmt := dU.body
theorem bU_eq : bU = [at1 bU 0, at1 bU 1] := by kernel_rfl
theorem u_0 (wf n : Nat) (x p o2 o3 o4 o5 : Option D) (E : Nx) : st1 wf n dU 59 (at1 bU 0) [x, p, o2, o3, o4, o5] E = E.nx [x, p, some (.lst []), o3, o4, o5] := by kernel_rfl
theorem u_1 (wf n : Nat) (ρ : TI.Env) (E : Nx) : st1 wf n dU 58 (at1 bU 1) ρ E = whC wf n dU 58 (at1 bU 1) wf ρ E := by kernel_rfl
theorem u_w (wf n w : Nat) (ρ : TI.Env) (E : Nx) : whC wf n dU 58 (at1 bU 1) (w + 1) ρ E = stL wf n dU 58 (whB (at1 bU 1)) ρ { nx := fun ρ2 => whC wf n dU 58 (at1 bU 1) w ρ2 E, bk := E.nx, ct := fun ρ2 => whC wf n dU 58 (at1 bU 1) w ρ2 E, rt := E.rt } := by kernel_rfl
def uS (i : Nat) : Stmt := at1 (whB (at1 bU 1)) i
theorem uS_eq : whB (at1 bU 1) = [uS 0, uS 1, uS 2, uS 3, uS 4, uS 5, uS 6, uS 7, uS 8] := by kernel_rfl
theorem u_b0 (wf n : Nat) (x : Str) (p : Int) (o2 o3 o4 o5 : Option D) (E : Nx) : st1 wf n dU 57 (uS 0) [some (.str x), some (.int p), o2, o3, o4, o5] E = onRet (cl wf n "_first_of" [.str x, .int p]) (fun d _ => E.nx [some (.str x), some (.int p), o2, some d, o4, o5]) exX := by kernel_rfl
theorem u_b1 (wf n : Nat) (x : Str) (p s : Int) (ms : List D) (o4 o5 : Option D) (E : Nx) : st1 wf n dU 56 (uS 1) [some (.str x), some (.int p), some (.lst ms), some (.int s), o4, o5] E = ckK (szO x) (ckK (decide (ms.length < szLine)) (E.nx [some (.str x), some (.int p), some (.lst (ms ++ [.str (cutS x (some p) (some s))])), some (.int s), o4, o5])) := by kernel_rfl
theorem u_b2 (wf n : Nat) (x : Str) (p : D) (s : Int) (o2 o4 o5 : Option D) (E : Nx) : st1 wf n dU 55 (uS 2) [some (.str x), some p, o2, some (.int s), o4, o5] E = ckK (szO x) (E.nx [some (.str x), some p, o2, some (.int s), some (.str (cs1 x s)), o5]) := by kernel_rfl
theorem u_b3 (wf n : Nat) (x p : D) (s : Int) (ms : List D) (sg : Str) (o5 : Option D) (E : Nx) : st1 wf n dU 54 (uS 3) [some x, some p, some (.lst ms), some (.int s), some (.str sg), o5] E = (match decide (sg = "\"") with
  | true => dJoin "" (.lst ms) fun t => pusK [t, .int (s + 1)] (E.rt (.tup [t, .int (s + 1)]) [some x, some p, some (.lst ms), some (.int s), some (.str sg), o5])
  | false => E.nx [some x, some p, some (.lst ms), some (.int s), some (.str sg), o5]) := by kernel_rfl
theorem u_b4 (wf n : Nat) (x p s : D) (o2 o5 : Option D) (sg : Str) (E : Nx) : st1 wf n dU 53 (uS 4) [some x, some p, o2, some s, some (.str sg), o5] E = (match !decide (sg = "\\") with
  | true => .stuck
  | false => E.nx [some x, some p, o2, some s, some (.str sg), o5]) := by kernel_rfl
theorem u_b5 (wf n : Nat) (x : Str) (p : D) (s : Int) (o2 o4 o5 : Option D) (E : Nx) : st1 wf n dU 52 (uS 5) [some (.str x), some p, o2, some (.int s), o4, o5] E = ckK (szO x) (E.nx [some (.str x), some p, o2, some (.int s), o4, some (.str (cutS x (some (s + 1)) (some (s + 2))))]) := by kernel_rfl
theorem u_b8 (wf n : Nat) (x : D) (p s : Int) (o2 o4 o5 : Option D) (E : Nx) : st1 wf n dU 49 (uS 8) [some x, some (.int p), o2, some (.int s), o4, o5] E = E.nx [some x, some (.int (s + 2)), o2, some (.int s), o4, o5] := by kernel_rfl
theorem u_e0 (wf n : Nat) (x p s : D) (ms : List D) (o4 : Option D) (E : Nx) : st1 wf n dU 51 (uS 6) [some x, some p, some (.lst ms), some s, o4, some (.str "\"")] E = E.nx [some x, some p, some (.lst ms), some s, o4, some (.str "\"")] := by kernel_rfl
theorem u_f0 (wf n : Nat) (x p s : D) (ms : List D) (o4 : Option D) (E : Nx) : st1 wf n dU 50 (uS 7) [some x, some p, some (.lst ms), some s, o4, some (.str "\"")] E = ckK (decide (ms.length < szLine)) (E.nx [some x, some p, some (.lst (ms ++ [.str "\""])), some s, o4, some (.str "\"")]) := by kernel_rfl
theorem u_e1 (wf n : Nat) (x p s : D) (ms : List D) (o4 : Option D) (E : Nx) : st1 wf n dU 51 (uS 6) [some x, some p, some (.lst ms), some s, o4, some (.str "\\")] E = E.nx [some x, some p, some (.lst ms), some s, o4, some (.str "\\")] := by kernel_rfl
theorem u_f1 (wf n : Nat) (x p s : D) (ms : List D) (o4 : Option D) (E : Nx) : st1 wf n dU 50 (uS 7) [some x, some p, some (.lst ms), some s, o4, some (.str "\\")] E = ckK (decide (ms.length < szLine)) (E.nx [some x, some p, some (.lst (ms ++ [.str "\\"])), some s, o4, some (.str "\\")]) := by kernel_rfl
theorem u_e2 (wf n : Nat) (x p s : D) (ms : List D) (o4 : Option D) (E : Nx) : st1 wf n dU 51 (uS 6) [some x, some p, some (.lst ms), some s, o4, some (.str "n")] E = E.nx [some x, some p, some (.lst ms), some s, o4, some (.str "n")] := by kernel_rfl
theorem u_f2 (wf n : Nat) (x p s : D) (ms : List D) (o4 : Option D) (E : Nx) : st1 wf n dU 50 (uS 7) [some x, some p, some (.lst ms), some s, o4, some (.str "n")] E = ckK (decide (ms.length < szLine)) (E.nx [some x, some p, some (.lst (ms ++ [.str "\n"])), some s, o4, some (.str "n")]) := by kernel_rfl
/-! ### the law -/
abbrev dL := df_law
def bLw : List Stmt := dL.body
theorem bLw_eq : bLw = [at1 bLw 0, at1 bLw 1, at1 bLw 2] := by kernel_rfl
theorem l_0 (wf n : Nat) (ds : List D) (o1 o2 o3 o4 o5 : Option D) (E : Nx) : st1 wf n dL 59 (at1 bLw 0) [some (.rol ds), o1, o2, o3, o4, o5] E = onRet (cl wf n "_law_digits" [.rol ds, .int 0, .int 63]) (fun d _ => E.nx [some (.rol ds), some (.lst [d, .int 0]), o2, o3, o4, o5]) exX := by kernel_rfl
theorem l_1 (wf n : Nat) (ρ : TI.Env) (E : Nx) : st1 wf n dL 58 (at1 bLw 1) ρ E = forC (fst wf n dL 58 (at1 bLw 1)) (rngL 0 6) ρ E := by kernel_rfl
theorem l_2 (wf n : Nat) (ρ : TI.Env) (E : Nx) : st1 wf n dL 57 (at1 bLw 2) ρ E = E.rt (.bl true) ρ := by kernel_rfl
def lS (i : Nat) : Stmt := at1 (forB (at1 bLw 1)) i
theorem lS_eq : forB (at1 bLw 1) = [lS 0, lS 1, lS 2, lS 3] := by kernel_rfl
theorem l_f (wf n : Nat) (t : Int) (s b o2 o3 o4 o5 : Option D) (E : Nx) : fst wf n dL 58 (at1 bLw 1) (.int t) [s, b, o2, o3, o4, o5] E = stL wf n dL 58 (forB (at1 bLw 1)) [s, b, some (.int t), o3, o4, o5] E := by kernel_rfl
theorem l_f0 (wf n : Nat) (s : Option D) (bs : List D) (o2 o3 o4 o5 : Option D) (E : Nx) : st1 wf n dL 57 (lS 0) [s, some (.lst bs), o2, o3, o4, o5] E = onRet (cl wf n "_law_value" [.lst bs, .int 4]) (fun d fin => E.nx [s, (match fin[0]? with | some o => o | none => none), o2, some d, o4, o5]) exX := by kernel_rfl
theorem l_f1 (wf n : Nat) (s : Option D) (bs : List D) (o2 o3 o4 o5 : Option D) (E : Nx) : st1 wf n dL 56 (lS 1) [s, some (.lst bs), o2, o3, o4, o5] E = drw wf n (.lst bs) 4 fun d b => dIx (.lst [.int 0, .int 0, .int 0, .int 36]) d fun z => (match z with
  | .int hi => ckK (smallI hi) (forC (fst wf n dL 56 (lS 1)) (rngL 0 hi.toNat) [s, b, o2, o3, o4, o5] E)
  | _ => .stuck) := by kernel_rfl
theorem l_k (wf n : Nat) (k : Int) (v : D) (s b o2 o4 o5 : Option D) (E : Nx) : fst wf n dL 56 (lS 1) (.int k) [s, b, o2, some v, o4, o5] E = puK v (pusK [v] (E.nx [s, b, o2, some (.tup [v]), some (.int k), o5])) := by kernel_rfl
theorem l_f2 (wf n : Nat) (v : D) (s b o2 o4 o5 : Option D) (E : Nx) : st1 wf n dL 55 (lS 2) [s, b, o2, some v, o4, o5] E = onRet (cl wf n "_law_plain" [v]) (fun d fin => E.nx [s, b, o2, unlend v fin[0]?, o4, some d]) exX := by kernel_rfl
theorem l_f3 (wf n : Nat) (v : D) (tx : Str) (s b o2 o4 : Option D) (E : Nx) : st1 wf n dL 54 (lS 3) [s, b, o2, some v, o4, some (.str tx)] E =
  onRet (cl wf n "show_plain" [v]) (fun sh fin => onRet (cl wf n "_law_same" [sh, .str tx]) (fun r _ => dTru r fun c => match !c with
    | true => E.rt (.bl false) [s, b, o2, unlend v fin[0]?, o4, some (.str tx)]
    | false => onRet (cl wf n "read_plain" [.str tx]) (fun rv _ => getK [s, b, o2, unlend v fin[0]?, o4, some (.str tx)] 3 fun _ => getK [s, b, o2, unlend v fin[0]?, o4, some (.str tx)] 3 fun v' => onRet (cl wf n "_law_same" [rv, v']) (fun r2 fin2 => dTru r2 fun c2 => match !c2 with
      | true => E.rt (.bl false) [s, b, o2, unlend v' fin2[1]?, o4, some (.str tx)]
      | false => E.nx [s, b, o2, unlend v' fin2[1]?, o4, some (.str tx)]) exX) exX) exX) exX := by kernel_rfl
end K28
set_option Elab.async false
set_option linter.all false
set_option maxRecDepth 3000
set_option maxHeartbeats 4000000
/-! the reader reads texts back: texts -/
namespace K28
open PySem PySem.Spec PyProof.Rows L2 TI
/-! BODY -/
theorem c34 : (("\"" : Str)) = one 34 := by decide +kernel
theorem c92 : (("\\" : Str)) = one 92 := by decide +kernel
theorem c10 : (("\n" : Str)) = one 10 := by decide +kernel
theorem c110 : (("n" : Str)) = one 110 := by decide +kernel
theorem c41 : ((")" : Str)) = one 41 := by decide +kernel
theorem c40 : (("(" : Str)) = one 40 := by decide +kernel
theorem c32 : ((" " : Str)) = one 32 := by decide +kernel
theorem one_inj {a b : Nat} : (one a = one b) ↔ a = b := by
  constructor
  · intro h
    have := congrArg (fun s : Str => s.cps[0]?) h
    simpa [one] using this
  · rintro rfl; rfl
theorem ck_t {b : Bool} {r : Res} (h : b = true) : ckK b r = r := by rw [h]; rfl
theorem szO_t {x : Str} (h : x.length ≤ szLine) : szO x = true := decide_eq_true h
theorem forC_cons (step : D → TI.Env → Nx → Res) (d : D) (ds : List D) (ρ : TI.Env) (E : Nx) : forC step (d :: ds) ρ E = step d ρ { nx := fun ρ1 => forC step ds ρ1 E, bk := E.nx, ct := fun ρ1 => forC step ds ρ1 E, rt := E.rt } := rfl
theorem forC_nil (step : D → TI.Env → Nx → Res) (ρ : TI.Env) (E : Nx) : forC step [] ρ E = E.nx ρ := rfl
/-! ### the first of three signs -/
def fstep (x : Str) (c : Nat) (p s : Nat) : Nat := if 0 ≤ Txt.findIn x (one c) p s then (Txt.findIn x (one c) p s).toNat else s
theorem o_s2 (wf n : Nat) (x : Str) (c : Str) (cc : Nat) (hc : c = one cc) (p s : Nat) (o3 o4 : Option D) (E : Nx) : ∃ o3' o4', fst wf n dO 58 (at1 bO 1) (.str c) [some (.str x), some (.int p), some (.int s), o3, o4] E = E.nx [some (.str x), some (.int p), some (.int (fstep x cc p s : Nat)), o3', o4'] := by
  rw [o_s, hc]
  unfold fstep
  by_cases h : 0 ≤ Txt.findIn x (one cc) p s
  · rw [if_pos h, decide_eq_true h, Int.toNat_of_nonneg h]
    exact ⟨_, _, rfl⟩
  · rw [if_neg h, decide_eq_false h]
    exact ⟨_, _, rfl⟩
theorem fstep_at {x : Str} {c p s k : Nat} (hpk : p ≤ k) (hks : k < s) (hs : s ≤ x.length) (hc : (Ls x)[k]? = some c) (hno : ∀ i, p ≤ i → i < k → (Ls x)[i]? ≠ some c) : fstep x c p s = k := by
  unfold fstep
  rw [find_at hpk hks hs hc hno, if_pos (by omega)]
  simp
theorem fstep_no {x : Str} {c p s : Nat} (hp : p ≤ s) (hs : s ≤ x.length) (hno : ∀ i, p ≤ i → i < s → (Ls x)[i]? ≠ some c) : fstep x c p s = s := by
  unfold fstep
  rw [find_no hp hs hno, if_neg (by omega)]
theorem fstep_le {x : Str} {c p s : Nat} (hp : p ≤ s) (hs : s ≤ x.length) (k : Nat) (hk : k ≤ s) (hpk : p ≤ k) (hno : ∀ i, p ≤ i → i < k → (Ls x)[i]? ≠ some c) : k ≤ fstep x c p s ∧ fstep x c p s ≤ s := by
  by_cases h : ∃ i, p ≤ i ∧ i < s ∧ (Ls x)[i]? = some c
  · -- the least
    have : ∃ m, p ≤ m ∧ m < s ∧ (Ls x)[m]? = some c ∧ ∀ i, p ≤ i → i < m → (Ls x)[i]? ≠ some c := by
      obtain ⟨i, h1, h2, h3⟩ := h
      induction i using Nat.strongRecOn with
      | _ i ih =>
        by_cases hl : ∃ j, p ≤ j ∧ j < i ∧ (Ls x)[j]? = some c
        · obtain ⟨j, a, b, cc⟩ := hl
          exact ih j b a (by omega) cc
        · exact ⟨i, h1, h2, h3, fun j a b cc => hl ⟨j, a, b, cc⟩⟩
    obtain ⟨m, m1, m2, m3, m4⟩ := this
    rw [fstep_at m1 m2 hs m3 m4]
    refine ⟨?_, by omega⟩
    rcases Nat.lt_or_ge m k with q | q
    · exact absurd m3 (hno m m1 q)
    · exact q
  · rw [fstep_no hp hs fun i a b cc => h ⟨i, a, b, cc⟩]
    exact ⟨hk, Nat.le_refl _⟩
theorem first_run (wf n : Nat) (x : Str) (p : Nat) (hz : x.length ≤ szLine) : cl wf (n + 1) "_first_of" [.str x, .int p] = .ret (.int (fstep x 10 p (fstep x 92 p (fstep x 34 p x.length)) : Nat)) [none, none] := by
  rw [cl_run wf n "_first_of" dO _ (by kernel_rfl), show dO.body = bO from rfl, bO_eq, stL_cons, show env0 dO [.str x, .int p] = [some (.str x), some (.int p), none, none, none] from rfl, o_0, ck_t (szO_t hz)]
  dsimp only
  rw [stL_cons, o_1, forC_cons]
  obtain ⟨a1, b1, e1⟩ := o_s2 wf n x "\"" 34 c34 p x.length none none _
  rw [e1]
  dsimp only
  rw [forC_cons]
  obtain ⟨a2, b2, e2⟩ := o_s2 wf n x "\\" 92 c92 p (fstep x 34 p x.length) a1 b1 _
  rw [e2]
  dsimp only
  rw [forC_cons]
  obtain ⟨a3, b3, e3⟩ := o_s2 wf n x "\n" 10 c10 p (fstep x 92 p (fstep x 34 p x.length)) a2 b2 _
  rw [e3]
  dsimp only
  rw [forC_nil]
  dsimp only
  rw [stL_cons, o_2]
  rfl
/-- up to a quote or a backslash, no line feed in between -/
theorem first_at (wf n : Nat) {x : Str} {pre mid post : List Nat} {a : Nat} (hx : Ls x = pre ++ mid ++ a :: post) (ha : a = 34 ∨ a = 92) (hm : ∀ c ∈ mid, c ≠ 34 ∧ c ≠ 92 ∧ c ≠ 10) (hz : x.length ≤ szLine) :
    cl wf (n + 1) "_first_of" [.str x, .int (pre.length : Nat)] = .ret (.int ((pre.length + mid.length : Nat) : Int)) [none, none] := by
  rw [first_run wf n x pre.length hz]
  have hlen : x.length = pre.length + mid.length + (post.length + 1) := by rw [← Ls_len, hx]; simp; omega
  have hk : (Ls x)[pre.length + mid.length]? = some a := by
    rw [hx, List.getElem?_append_right (by simp)]
    simp
  have hno : ∀ c, c = 34 ∨ c = 92 ∨ c = 10 → ∀ i, pre.length ≤ i → i < pre.length + mid.length → (Ls x)[i]? ≠ some c := fun c hc i h1 h2 h3 => by
    rw [hx, List.append_assoc, List.getElem?_append_right h1, List.getElem?_append_left (by omega)] at h3
    have := hm c (List.mem_of_getElem? h3)
    rcases hc with q | q | q <;> subst q <;> simp at this
  have h34 := fstep_le (c := 34) (p := pre.length) (s := x.length) (x := x) (by omega) (Nat.le_refl _) (pre.length + mid.length) (by omega) (by omega) (hno 34 (.inl rfl))
  have key : fstep x 92 pre.length (fstep x 34 pre.length x.length) = pre.length + mid.length := by
    rcases ha with ha | ha
    · have e : fstep x 34 pre.length x.length = pre.length + mid.length := fstep_at (by omega) (by omega) (Nat.le_refl _) (by rw [hk, ha]) (hno 34 (.inl rfl))
      rw [e]
      exact fstep_no (by omega) (by omega) (hno 92 (.inr (.inl rfl)))
    · have hne : pre.length + mid.length < fstep x 34 pre.length x.length := by
        rcases Nat.lt_or_ge (pre.length + mid.length) (fstep x 34 pre.length x.length) with q | q
        · exact q
        · exfalso
          have e := Nat.le_antisymm q h34.1
          have h2 := fstep_le (c := 34) (p := pre.length) (s := x.length) (x := x) (by omega) (Nat.le_refl _) (pre.length + mid.length + 1) (by omega) (by omega) (fun i h1 h2 h3 => by
            rcases Nat.lt_or_ge i (pre.length + mid.length) with r | r
            · exact hno 34 (.inl rfl) i h1 r h3
            · have : i = pre.length + mid.length := by omega
              subst this
              rw [hk, ha] at h3; cases h3)
          omega
      exact fstep_at (by omega) hne h34.2 (by rw [hk, ha]) (hno 92 (.inr (.inl rfl)))
  rw [key, fstep_no (by omega) (by omega) (hno 10 (.inr (.inr rfl)))]
/-! ### a quoted text -/
def es (a : Nat) : List Nat := if a = 92 then [92, 92] else if a = 34 then [92, 34] else if a = 10 then [92, 110] else [a]
theorem Ls_one (a : Nat) : Ls (one a) = [a] := rfl
theorem esc_list (x : Str) : Ls (r3 (r2 (r1 x))) = (Ls x).flatMap es := by
  have h1 : Ls (r1 x) = (Ls x).flatMap fun a => if a = 92 then [92, 92] else [a] := by
    unfold r1
    rw [c92]
    exact replace_one x ("\\\\" : Str) 92
  have h2 : Ls (r2 (r1 x)) = (Ls (r1 x)).flatMap fun a => if a = 34 then [92, 34] else [a] := by
    unfold r2
    rw [c34]
    exact replace_one (r1 x) ("\\\"" : Str) 34
  have h3 : Ls (r3 (r2 (r1 x))) = (Ls (r2 (r1 x))).flatMap fun a => if a = 10 then [92, 110] else [a] := by
    unfold r3
    rw [c10]
    exact replace_one (r2 (r1 x)) ("\\n" : Str) 10
  rw [h3, h2, h1, List.flatMap_assoc, List.flatMap_assoc]
  congr 1
  funext a
  unfold es
  by_cases e1 : a = 92
  · subst e1; rfl
  · by_cases e2 : a = 34
    · subst e2; rfl
    · by_cases e3 : a = 10
      · subst e3; rfl
      · simp [e1, e2, e3]
theorem join_list (ys : List Str) : Ls (Txt.join "" ys) = ys.flatMap Ls := by
  show (Builtin.Str.glued "" ys).cps.toList = _
  rw [glued_gl]
  have e : (("" : Str)).cps.toList = [] := by decide +kernel
  rw [e]
  cases ys with
  | nil => rfl
  | cons y ys => simp [gl, List.flatMap_map]
theorem strsD_snoc : ∀ (ms : List D) (ys : List Str) (y : Str), strsD ms = some ys → strsD (ms ++ [.str y]) = some (ys ++ [y])
  | [], ys, y, h => by cases h; rfl
  | .str z :: ms, ys, y, h => by
    have : (strsD ms).map (z :: ·) = some ys := h
    cases q : strsD ms with
    | none => rw [q] at this; cases this
    | some zs =>
      rw [q] at this
      cases this
      show (strsD (ms ++ [.str y])).map (z :: ·) = _
      rw [strsD_snoc ms zs y q]
      rfl
  | .non :: ms, ys, y, h => by cases h
  | .bl _ :: ms, ys, y, h => by cases h
  | .int _ :: ms, ys, y, h => by cases h
  | .ty _ :: ms, ys, y, h => by cases h
  | .tup _ :: ms, ys, y, h => by cases h
  | .rol _ :: ms, ys, y, h => by cases h
  | .lst _ :: ms, ys, y, h => by cases h
  | .lck _ :: ms, ys, y, h => by cases h
def plainC (a : Nat) : Bool := !(a == 92) && !(a == 34) && !(a == 10)
theorem es_plain {a : Nat} (h : plainC a = true) : es a = [a] ∧ a ≠ 34 ∧ a ≠ 92 ∧ a ≠ 10 := by
  unfold plainC at h
  simp at h
  unfold es
  simp [h]
theorem es_mid : ∀ (mid : List Nat), (∀ a ∈ mid, plainC a = true) → mid.flatMap es = mid
  | [], _ => rfl
  | a :: mid, h => by
    rw [List.flatMap_cons, (es_plain (h a List.mem_cons_self)).1, es_mid mid fun b hb => h b (List.mem_cons_of_mem _ hb)]
    rfl
theorem split_plain : ∀ (cs : List Nat), ∃ mid rest, cs = mid ++ rest ∧ (∀ a ∈ mid, plainC a = true) ∧ (rest = [] ∨ ∃ s r, rest = s :: r ∧ plainC s = false)
  | [] => ⟨[], [], rfl, by simp, .inl rfl⟩
  | a :: cs => by
    cases h : plainC a with
    | false => exact ⟨[], a :: cs, rfl, by simp, .inr ⟨a, cs, rfl, h⟩⟩
    | true =>
      obtain ⟨mid, rest, e, hm, hr⟩ := split_plain cs
      exact ⟨a :: mid, rest, by rw [e]; rfl, fun b hb => by
        rcases List.mem_cons.mp hb with rfl | hb
        · exact h
        · exact hm b hb, hr⟩
def sumL (ys : List Str) : Nat := (ys.map (·.length)).sum
theorem sumL_snoc (ys : List Str) (y : Str) : sumL (ys ++ [y]) = sumL ys + y.length := by simp [sumL]
end K28
set_option Elab.async false
set_option linter.all false
set_option maxRecDepth 3000
set_option maxHeartbeats 4000000
/-! the reader reads texts back: texts -/
namespace K28
open PySem PySem.Spec PyProof.Rows L2 TI
theorem onRet_ret (d : D) (fin : TI.Env) (k : D → TI.Env → Res) (x : Str → List (Str × D) → Res) : onRet (.ret d fin) k x = k d fin := rfl
theorem unq_loop (wf n : Nat) (x : Str) (hz : x.length ≤ szLine) (post : List Nat) : ∀ (N : Nat) (cs : List Nat), cs.length ≤ N → ∀ (pre : List Nat) (ms : List D) (ys : List Str) (o3 o4 o5 : Option D) (E : Nx), Ls x = pre ++ (cs.flatMap es ++ 34 :: post) → strsD ms = some ys → ms.length ≤ pre.length → sumL ys ≤ pre.length →
    ∃ (p' : Int) (o2' o3' o4' o5' : Option D), whC wf (n + 1) dU 58 (at1 bU 1) (N + 1) [some (.str x), some (.int (pre.length : Nat)), some (.lst ms), o3, o4, o5] E =
      E.rt (.tup [.str ⟨(ys.flatMap Ls ++ cs).toArray⟩, .int ((pre.length + (cs.flatMap es).length + 1 : Nat) : Int)]) [some (.str x), some (.int p'), o2', o3', o4', o5'] := by
  intro N
  induction N using Nat.strongRecOn with
  | _ N ih =>
    intro cs hN pre ms ys o3 o4 o5 E hx hys hms hsum
    obtain ⟨mid, rest, e, hm, hr⟩ := split_plain cs
    subst e
    have hmid : (mid ++ rest).flatMap es = mid ++ rest.flatMap es := by rw [List.flatMap_append, es_mid mid hm]
    have hmm : ∀ c ∈ mid, c ≠ 34 ∧ c ≠ 92 ∧ c ≠ 10 := fun c hc => (es_plain (hm c hc)).2
    have hlx := Ls_len x
    -- the sign at which the stretch ends
    obtain ⟨a, tl, hrest, ha⟩ : ∃ a tl, rest.flatMap es ++ 34 :: post = a :: tl ∧ (a = 34 ∨ a = 92) := by
      rcases hr with rfl | ⟨s, r, rfl, hs⟩
      · exact ⟨34, post, rfl, .inl rfl⟩
      · have : ∃ b, es s = [92, b] := by
          unfold plainC at hs
          unfold es
          by_cases e1 : s = 92
          · exact ⟨92, by simp [e1]⟩
          · by_cases e2 : s = 34
            · exact ⟨34, by simp [e2]⟩
            · by_cases e3 : s = 10
              · exact ⟨110, by simp [e3]⟩
              · simp [e1, e2, e3] at hs
        obtain ⟨b, hb⟩ := this
        exact ⟨92, b :: (r.flatMap es ++ 34 :: post), by rw [List.flatMap_cons, hb]; rfl, .inr rfl⟩
    have hx2 : Ls x = pre ++ mid ++ a :: tl := by rw [hx, hmid, List.append_assoc, hrest, List.append_assoc]
    have hxl : x.length = pre.length + mid.length + (tl.length + 1) := by rw [← hlx, hx2]; simp; omega
    have hf := first_at wf n hx2 ha hmm hz
    rw [u_w, uS_eq, stL_cons, u_b0, hf, onRet_ret]
    dsimp only
    have hcut : cutS x (some (pre.length : Int)) (some ((pre.length + mid.length : Nat) : Int)) = ⟨mid.toArray⟩ := by
      apply Str_ext
      rw [cut_nat x _ _ (by omega), hx2, List.append_assoc, List.drop_left]
      simp
    rw [stL_cons, u_b1, ck_t (szO_t hz), ck_t (decide_eq_true (by omega)), hcut]
    dsimp only
    have hsg : cs1 x ((pre.length + mid.length : Nat) : Int) = one a := by
      have := cut_one (x := x) (pre := pre ++ mid) (post := tl) (a := a) hx2
      rw [List.length_append] at this
      exact this
    rw [stL_cons, u_b2, ck_t (szO_t hz), hsg]
    dsimp only
    rw [stL_cons, u_b3, c34]
    have hys2 := strsD_snoc ms ys ⟨mid.toArray⟩ hys
    have hml : ((⟨mid.toArray⟩ : Str)).length = mid.length := by show mid.toArray.size = _; simp
    have hsum2 : sumL (ys ++ [⟨mid.toArray⟩]) ≤ pre.length + mid.length := by rw [sumL_snoc, hml]; omega
    rcases hr with rfl | ⟨s, r, rfl, hs⟩
    · have ea : a = 34 := by simpa using congrArg (fun l => l.headD 0) hrest.symm
      subst ea
      rw [decide_eq_true rfl]
      dsimp only [dJoin]
      rw [hys2]
      dsimp only
      rw [ck_t (decide_eq_true (by
        show sumL _ + _ * (("" : Str)).length ≤ szLine
        rw [show (("" : Str)).length = 0 from by decide +kernel]
        omega))]
      refine ⟨(pre.length : Nat), some (.lst (ms ++ [.str ⟨mid.toArray⟩])), some (.int ((pre.length + mid.length : Nat) : Int)), some (.str (one 34)), o5, ?_⟩
      rw [show ∀ r, pusK [D.str (Txt.join "" (ys ++ [⟨mid.toArray⟩])), .int ((pre.length + mid.length : Nat) + 1)] r = r from fun r => rfl]
      have ej : Txt.join "" (ys ++ [⟨mid.toArray⟩]) = ⟨(ys.flatMap Ls ++ (mid ++ [])).toArray⟩ := by
        apply Str_ext
        rw [join_list]
        simp
      rw [ej, hmid]
      congr 3
      simp
    · have ea : a = 92 := by
        rcases ha with ha | ha
        · exfalso
          have h0 : (es s).headD 0 = a := by
            have := congrArg (fun l => l.headD 0) hrest
            rw [List.flatMap_cons] at this
            unfold plainC at hs
            unfold es at this ⊢
            by_cases e1 : s = 92
            · simpa [e1] using this
            · by_cases e2 : s = 34
              · simpa [e2] using this
              · by_cases e3 : s = 10
                · simpa [e3] using this
                · simp [e1, e2, e3] at hs
          unfold plainC at hs
          unfold es at h0
          by_cases e1 : s = 92
          · simp [e1] at h0; omega
          · by_cases e2 : s = 34
            · simp [e2] at h0; omega
            · by_cases e3 : s = 10
              · simp [e3] at h0; omega
              · simp [e1, e2, e3] at hs
        · exact ha
      subst ea
      obtain ⟨M, rfl⟩ : ∃ M, N = M + 1 := ⟨N - 1, by simp at hN; omega⟩
      rw [decide_eq_false (fun h => by have := one_inj.mp h; omega)]
      dsimp only
      rw [stL_cons, u_b4, c92, decide_eq_true rfl]
      dsimp only [Bool.not]
      rw [stL_cons, u_b5, ck_t (szO_t hz)]
      dsimp only
      have fin : ∀ (b : Nat) (v : Str), es s = [92, b] → Ls v = [s] →
          (∀ E2 : Nx, stL wf (n + 1) dU 52 [uS 6, uS 7, uS 8] [some (.str x), some (.int (pre.length : Nat)), some (.lst (ms ++ [.str ⟨mid.toArray⟩])), some (.int ((pre.length + mid.length : Nat) : Int)), some (.str (one 92)), some (.str (one b))] E2 =
            E2.nx [some (.str x), some (.int (((pre.length + mid.length : Nat) : Int) + 2)), some (.lst (ms ++ [.str ⟨mid.toArray⟩] ++ [.str v])), some (.int ((pre.length + mid.length : Nat) : Int)), some (.str (one 92)), some (.str (one b))]) →
          ∃ (p' : Int) (o2' o3' o4' o5' : Option D), stL wf (n + 1) dU 52 [uS 6, uS 7, uS 8] [some (.str x), some (.int (pre.length : Nat)), some (.lst (ms ++ [.str ⟨mid.toArray⟩])), some (.int ((pre.length + mid.length : Nat) : Int)), some (.str (one 92)), some (.str (cutS x (some (((pre.length + mid.length : Nat) : Int) + 1)) (some (((pre.length + mid.length : Nat) : Int) + 2))))] { nx := fun ρ2 => whC wf (n + 1) dU 58 (at1 bU 1) (M + 1) ρ2 E, bk := E.nx, ct := fun ρ2 => whC wf (n + 1) dU 58 (at1 bU 1) (M + 1) ρ2 E, rt := E.rt } =
            E.rt (.tup [.str ⟨(ys.flatMap Ls ++ (mid ++ s :: r)).toArray⟩, .int ((pre.length + ((mid ++ s :: r).flatMap es).length + 1 : Nat) : Int)]) [some (.str x), some (.int p'), o2', o3', o4', o5'] := fun b v hb hv hrun => by
        have hx3 : Ls x = (pre ++ mid ++ [92]) ++ b :: (r.flatMap es ++ 34 :: post) := by
          rw [hx, hmid, List.flatMap_cons, hb]; simp
        have hcut2 : cutS x (some (((pre.length + mid.length : Nat) : Int) + 1)) (some (((pre.length + mid.length : Nat) : Int) + 2)) = one b := by
          have := cut_one (x := x) hx3
          have e1 : (((pre ++ mid ++ [92]).length : Nat) : Int) = ((pre.length + mid.length : Nat) : Int) + 1 := by rw [List.length_append, List.length_append]; rfl
          rw [e1] at this
          rw [show ((pre.length + mid.length : Nat) : Int) + 2 = ((pre.length + mid.length : Nat) : Int) + 1 + 1 from by omega]
          exact this
        rw [hcut2, hrun]
        dsimp only
        have hx4 : Ls x = (pre ++ mid ++ [92, b]) ++ (r.flatMap es ++ 34 :: post) := by rw [hx3]; simp
        have hlv : v.length = 1 := by rw [← Ls_len, hv]; rfl
        have hl4 : (pre ++ mid ++ [92, b]).length = pre.length + mid.length + 2 := by simp; omega
        have e2 : ((pre.length + mid.length : Nat) : Int) + 2 = (((pre ++ mid ++ [92, b]).length : Nat) : Int) := by rw [hl4]; omega
        rw [e2]
        obtain ⟨p', o2', o3', o4', o5', hq⟩ := ih M (by omega) r (by simp at hN; omega) (pre ++ mid ++ [92, b]) (ms ++ [.str ⟨mid.toArray⟩] ++ [.str v]) (ys ++ [⟨mid.toArray⟩] ++ [v]) (some (.int ((pre.length + mid.length : Nat) : Int))) (some (.str (one 92))) (some (.str (one b))) E hx4
          (strsD_snoc _ _ v hys2) (by rw [hl4]; simp; omega) (by rw [sumL_snoc, hl4, hlv]; omega)
        rw [hq]
        refine ⟨p', o2', o3', o4', o5', ?_⟩
        have ev : (ys ++ [(⟨mid.toArray⟩ : Str)] ++ [v]).flatMap Ls ++ r = ys.flatMap Ls ++ (mid ++ s :: r) := by simp [hv]
        have ep : (pre ++ mid ++ [92, b]).length + (r.flatMap es).length + 1 = pre.length + ((mid ++ s :: r).flatMap es).length + 1 := by
          rw [hl4, hmid, List.flatMap_cons, hb]; simp; omega
        rw [ev, ep]
      have hes : 1 ≤ (es s).length := by
        unfold es
        split
        · simp
        · split
          · simp
          · split <;> simp
      have htl : 1 ≤ tl.length := by
        have := congrArg List.length hrest
        rw [List.flatMap_cons] at this
        simp at this
        omega
      have hml2 : (ms ++ [D.str ⟨mid.toArray⟩]).length < szLine := by simp; omega
      by_cases e1 : s = 92
      · subst e1
        refine fin 92 "\\" rfl (by decide +kernel) fun E2 => ?_
        rw [stL_cons, show some (D.str (one 92)) = some (D.str "\\") from by rw [c92], u_e1]
        dsimp only
        rw [stL_cons, u_f1, ck_t (decide_eq_true hml2)]
        dsimp only
        rw [stL_cons, u_b8]
        rfl
      · by_cases e2 : s = 34
        · subst e2
          refine fin 34 "\"" rfl (by decide +kernel) fun E2 => ?_
          rw [stL_cons, show some (D.str (one 34)) = some (D.str "\"") from by rw [c34], u_e0]
          dsimp only
          rw [stL_cons, u_f0, ck_t (decide_eq_true hml2)]
          dsimp only
          rw [stL_cons, u_b8]
          rfl
        · by_cases e3 : s = 10
          · subst e3
            refine fin 110 "\n" rfl (by decide +kernel) fun E2 => ?_
            rw [stL_cons, show some (D.str (one 110)) = some (D.str "n") from by rw [c110], u_e2]
            dsimp only
            rw [stL_cons, u_f2, ck_t (decide_eq_true hml2)]
            dsimp only
            rw [stL_cons, u_b8]
            rfl
          · exfalso
            unfold plainC at hs
            simp [e1, e2, e3] at hs
end K28
set_option Elab.async false
set_option linter.all false
set_option maxRecDepth 3000
set_option maxHeartbeats 4000000
/-! the reader reads texts back: quoted texts, integers -/
namespace K28
open PySem PySem.Spec PyProof.Rows L2 TI PySem.NumText PySem.W.KIN
/-! BODY -/
theorem unq_run (wf n : Nat) (x : Str) (hz : x.length ≤ szLine) (pre cs post : List Nat) (hw : cs.length + 1 ≤ wf) (hx : Ls x = pre ++ (cs.flatMap es ++ 34 :: post)) :
    cl wf (n + 2) "_unquoted" [.str x, .int (pre.length : Nat)] = .ret (.tup [.str ⟨cs.toArray⟩, .int ((pre.length + (cs.flatMap es).length + 1 : Nat) : Int)]) [none, none] := by
  obtain ⟨N, rfl⟩ : ∃ N, wf = N + 1 := ⟨wf - 1, by omega⟩
  rw [cl_run (N + 1) (n + 1) "_unquoted" dU _ (by kernel_rfl), show dU.body = bU from rfl, bU_eq, stL_cons, show env0 dU [.str x, .int (pre.length : Nat)] = [some (.str x), some (.int (pre.length : Nat)), none, none, none, none] from rfl, u_0]
  dsimp only
  rw [stL_cons, u_1]
  obtain ⟨p', o2', o3', o4', o5', hq⟩ := unq_loop (N + 1) n x hz post N cs (by omega) pre [] [] none none none { (nx0 dU.np) with nx := fun ρ1 => stL (N + 1) (n + 1) dU 58 [] ρ1 (nx0 dU.np) } hx rfl (by simp) (by simp [sumL])
  rw [hq]
  rfl
theorem cut_to (x : Str) (s : Nat) (h : s ≤ x.length) : Ls (cutS x none (some (s : Int))) = (Ls x).take s := by
  unfold cutS
  rw [HT.sIx_none, HT.sIx_nat]
  show ((x.cps.toList.drop 0).take _).toArray.toList = _
  rw [List.toList_toArray, List.drop_zero, Nat.min_eq_left h]
  rfl
theorem dig_c {c : Nat} (h : 48 ≤ c ∧ c ≤ 57) : (("0123456789" : Str)).cps.contains c = true := by
  have : ∀ d : Nat, d < 58 → 48 ≤ d → (("0123456789" : Str)).cps.contains d = true := by decide +kernel
  exact this c (by omega) h.1
theorem dropW_all : ∀ (ds r : List Nat), AllDigits ds → (r = [] ∨ ∃ c l, r = c :: l ∧ (("0123456789" : Str)).cps.contains c = false) → (ds ++ r).dropWhile (("0123456789" : Str)).cps.contains = r
  | [], r, _, hr => by
    rcases hr with rfl | ⟨c, l, rfl, h⟩
    · rfl
    · rw [List.nil_append, List.dropWhile_cons, h]; rfl
  | d :: ds, r, h, hr => by
    rw [List.cons_append, List.dropWhile_cons, dig_c h.head]
    exact dropW_all ds r h.tail hr
theorem ix_0 {dg : Str} {c : Nat} {l : List Nat} (h : Ls dg = c :: l) (hz : dg.length ≤ szLine) (k : D → Res) : dIx (.str dg) (.int 0) k = k (.str (one c)) := by
  show ckK (decide (dg.length ≤ szLine)) (match atI dg.cps.toList 0 with | some c => k (.str ⟨#[c]⟩) | none => .stuck) = _
  have e : atI (c :: l) 0 = some c := by
    unfold atI ixN
    rw [if_pos (by omega), if_pos (by simp)]
    rfl
  rw [ck_t (decide_eq_true hz), show dg.cps.toList = c :: l from h, e]
  rfl
theorem c48 : (("0" : Str)) = one 48 := by decide +kernel
theorem c45 : (("-" : Str)) = one 45 := by decide +kernel
theorem int_tail (wf n : Nat) (x : Str) (hz : x.length ≤ szLine) (p : Int) (b : Bool) (pre post : List Nat) (m : Nat) (hm : m < 10 ^ 21) (hb : b = true → 0 < m) (hx : Ls x = pre ++ (ndg m ++ post)) (hpost : post = [] ∨ ∃ c l, post = c :: l ∧ (("0123456789" : Str)).cps.contains c = false) (E : Nx) :
    ∃ ρ', stL wf n dI 58 [at1 bI 2, at1 bI 3, at1 bI 4, at1 bI 5, at1 bI 6, at1 bI 7, at1 bI 8] [some (.str x), some (.int p), some (.bl b), some (.int (pre.length : Nat)), none, none, none] E =
      E.rt (.tup [.int (if b then -(m : Int) else (m : Int)), .int ((pre.length + (ndg m).length : Nat) : Int)]) (some (.str x) :: some (.int p) :: ρ') := by
  have hlen := toDigits_len 20 m hm
  have hdl : (ndg m).length ≤ 21 := by unfold ndg; rw [List.length_map]; exact hlen
  have hsz : (21 : Nat) ≤ szLine ∧ (2100 : Nat) ≤ szLine := by unfold szLine; omega
  -- the tail
  have htl : Ls (cutS x (some ((pre.length : Nat) : Int)) (some (((pre.length : Nat) : Int) + 2000 + 1))) = ndg m ++ post.take (2001 - (ndg m).length) := by
    have := cut_nat x pre.length (pre.length + 2001) (by omega)
    rw [show ((pre.length + 2001 : Nat) : Int) = ((pre.length : Nat) : Int) + 2000 + 1 from by omega] at this
    rw [this, hx, List.drop_left, show pre.length + 2001 - pre.length = 2001 from by omega, List.take_append, List.take_of_length_le (by omega)]
  rw [stL_cons, i_2, ck_t (szO_t hz)]
  dsimp only
  generalize cutS x (some ((pre.length : Nat) : Int)) (some (((pre.length : Nat) : Int) + 2000 + 1)) = tl at htl ⊢
  have htll : tl.length ≤ 2001 := by
    rw [← Ls_len, htl, List.length_append, List.length_take]; omega
  have hls : Ls (lsD tl) = post.take (2001 - (ndg m).length) := by
    unfold lsD
    rw [lstrip_eq, htl]
    refine dropW_all _ _ (ndg_all m) ?_
    rcases hpost with rfl | ⟨c, l, rfl, h⟩
    · left; simp
    · right
      refine ⟨c, l.take (2000 - (ndg m).length), ?_, h⟩
      rw [show 2001 - (ndg m).length = (2000 - (ndg m).length) + 1 from by omega, List.take_succ_cons]
  have hlsl : (lsD tl).length ≤ 2001 := by
    rw [← Ls_len, hls, List.length_take]; omega
  have htz : tl.length ≤ szLine := by omega
  have hdg : (tl.length : Int) - ((lsD tl).length : Int) = (((ndg m).length : Nat) : Int) := by
    have h1 : tl.length = (ndg m).length + (post.take (2001 - (ndg m).length)).length := by rw [← Ls_len, htl, List.length_append]
    have h2 : (lsD tl).length = (post.take (2001 - (ndg m).length)).length := by rw [← Ls_len, hls]
    omega
  rw [stL_cons, i_3, ck_t (szO_t htz), ck_t (szO_t htz), ck_t (szO_t (by omega)), ck_t (szO_t htz), hdg]
  dsimp only
  have hd : Ls (cutS tl none (some (((ndg m).length : Nat) : Int))) = ndg m := by
    rw [cut_to tl _ (by rw [← Ls_len, htl, List.length_append]; omega), htl, List.take_left]
  generalize cutS tl none (some (((ndg m).length : Nat) : Int)) = dg at hd ⊢
  have hdgl : dg.length = (ndg m).length := by rw [← Ls_len, hd]
  have hdz : dg.length ≤ szLine := by omega
  obtain ⟨c, l, hcl⟩ : ∃ c l, ndg m = c :: l := by
    cases h : ndg m with
    | nil => exact absurd h (ndg_ne m)
    | cons c l => exact ⟨c, l, rfl⟩
  have hne : dg ≠ "" := by
    intro h
    have := congrArg Ls h
    rw [hd, hcl] at this
    have e : Ls (("" : Str)) = [] := by decide +kernel
    rw [e] at this
    cases this
  have hc0 : 0 < m → c ≠ 48 := fun h => toDigits_head m h c l hcl
  have rd : intText? dg = some (m : Int) := by
    have hall : AllDigits dg.cps.toList := by show AllDigits (Ls dg); rw [hd]; exact ndg_all m
    have h1 : dg.cps.toList ≠ [] := by show Ls dg ≠ []; rw [hd]; exact ndg_ne m
    have := intText_digits hall h1 (by omega)
    rw [this]
    have hv : digitsVal (Ls dg) = m := by rw [hd]; exact val_back m
    show some ((digitsVal (Ls dg) : Nat) : Int) = _
    rw [hv]
  have h4 : ∀ E2 : Nx, st1 wf n dI 55 (at1 bI 4) [some (.str x), some (.int p), some (.bl b), some (.int (pre.length : Nat)), some (.str tl), some (.str dg), none] E2 = E2.nx [some (.str x), some (.int p), some (.bl b), some (.int (pre.length : Nat)), some (.str tl), some (.str dg), none] := fun E2 => by
    cases b with
    | false => rw [i_4f, decide_eq_false hne]
    | true =>
      rw [i_4t, decide_eq_false hne]
      dsimp only
      rw [ix_0 (hd.trans hcl) hdz]
      show (match decide (one c = ("0" : Str)) with | true => _ | false => _) = _
      rw [c48, decide_eq_false fun h => hc0 (hb rfl) (one_inj.mp h)]
  rw [stL_cons, h4]
  dsimp only
  have h5 : ∀ E2 : Nx, st1 wf n dI 54 (at1 bI 5) [some (.str x), some (.int p), some (.bl b), some (.int (pre.length : Nat)), some (.str tl), some (.str dg), none] E2 = E2.nx [some (.str x), some (.int p), some (.bl b), some (.int (pre.length : Nat)), some (.str tl), some (.str dg), none] := fun E2 => by
    rw [i_5, ix_0 (hd.trans hcl) hdz]
    show (match decide (one c = ("0" : Str)) with | true => _ | false => _) = _
    rw [c48]
    by_cases hc : c = 48
    · have hm0 : m = 0 := by
        rcases Nat.eq_zero_or_pos m with h | h
        · exact h
        · exact absurd hc (hc0 h)
      have hl1 : dg.length = 1 := by rw [hdgl, hm0]; decide +kernel
      rw [decide_eq_true (by rw [hc]), ck_t (szO_t hdz), hl1]
      rfl
    · rw [decide_eq_false fun h => hc (one_inj.mp h)]
  rw [stL_cons, h5]
  dsimp only
  rw [stL_cons, i_6, ck_t (szO_t hdz), decide_eq_false (by omega)]
  dsimp only
  have h7 : ∀ E2 : Nx, st1 wf n dI 52 (at1 bI 7) [some (.str x), some (.int p), some (.bl b), some (.int (pre.length : Nat)), some (.str tl), some (.str dg), none] E2 = E2.nx [some (.str x), some (.int p), some (.bl b), some (.int (pre.length : Nat)), some (.str tl), some (.str dg), some (.int (if b then -(m : Int) else (m : Int)))] := fun E2 => by
    have di : ∀ k : D → Res, dInt (.str dg) k = k (.int m) := fun k => by
      show ckK (decide (dg.length ≤ 640)) (match intText? dg with | some n => k (.int n) | none => .stuck) = _
      rw [ck_t (decide_eq_true (by omega)), rd]
    cases b with
    | false => rw [i_7f, di]; rfl
    | true => rw [i_7t, di]; rfl
  rw [stL_cons, h7]
  dsimp only
  rw [stL_cons, i_8, ck_t (szO_t hdz), hdgl]
  exact ⟨_, rfl⟩
/-- an integer's text is read back -/
theorem int_run (wf n : Nat) (x : Str) (hz : x.length ≤ szLine) (i : Int) (hi : i.natAbs < 10 ^ 21) (pre post : List Nat) (hx : Ls x = pre ++ (Ls (Str.ofString (toString i)) ++ post)) (hpost : post = [] ∨ ∃ c l, post = c :: l ∧ (("0123456789" : Str)).cps.contains c = false) :
    cl wf (n + 1) "_integer" [.str x, .int (pre.length : Nat)] = .ret (.tup [.int i, .int ((pre.length + (Str.ofString (toString i)).length : Nat) : Int)]) [none, none] := by
  rw [cl_run wf n "_integer" dI _ (by kernel_rfl), show dI.body = bI from rfl, bI_eq, stL_cons, show env0 dI [.str x, .int (pre.length : Nat)] = [some (.str x), some (.int (pre.length : Nat)), none, none, none, none, none] from rfl, i_0, ck_t (szO_t hz)]
  dsimp only
  rw [c45]
  rcases Int.lt_or_le i 0 with hneg | hpos
  · obtain ⟨m, rfl⟩ : ∃ m : Nat, i = -((m + 1 : Nat) : Int) := ⟨i.natAbs - 1, by omega⟩
    have hs : Ls (Str.ofString (toString (-((m + 1 : Nat) : Int)))) = 45 :: ndg (m + 1) := int_negs m
    rw [hs] at hx
    have hsg : cs1 x ((pre.length : Nat) : Int) = one 45 := cut_one (x := x) (pre := pre) (post := ndg (m + 1) ++ post) (a := 45) (by rw [hx]; rfl)
    rw [hsg, decide_eq_true rfl]
    rw [stL_cons, i_1t]
    dsimp only
    have hx2 : Ls x = (pre ++ [45]) ++ (ndg (m + 1) ++ post) := by rw [hx]; simp
    have el : (((pre ++ [45]).length : Nat) : Int) = ((pre.length : Nat) : Int) + 1 := by rw [List.length_append]; rfl
    obtain ⟨ρ', hq⟩ := int_tail wf n x hz ((pre.length : Nat) : Int) true (pre ++ [45]) post (m + 1) (by omega) (fun _ => by omega) hx2 hpost (nx0 dI.np)
    rw [el] at hq
    rw [hq]
    have hl : (Str.ofString (toString (-((m + 1 : Nat) : Int)))).length = (ndg (m + 1)).length + 1 := by rw [← Ls_len, hs]; rfl
    rw [hl, if_pos rfl]
    have e3 : (pre ++ [45]).length + (ndg (m + 1)).length = pre.length + ((ndg (m + 1)).length + 1) := by rw [List.length_append]; show pre.length + 1 + _ = _; omega
    rw [e3]
    rfl
  · obtain ⟨m, rfl⟩ := Int.eq_ofNat_of_zero_le hpos
    have hs : Ls (Str.ofString (toString ((m : Nat) : Int))) = ndg m := int_nat m
    rw [hs] at hx
    obtain ⟨c, l, hcl⟩ : ∃ c l, ndg m = c :: l := by
      cases h : ndg m with
      | nil => exact absurd h (ndg_ne m)
      | cons c l => exact ⟨c, l, rfl⟩
    have hc := (ndg_all m) c (by rw [hcl]; exact List.mem_cons_self)
    have hsg : cs1 x ((pre.length : Nat) : Int) = one c := cut_one (x := x) (pre := pre) (post := l ++ post) (a := c) (by rw [hx, hcl]; rfl)
    rw [hsg, decide_eq_false fun h => by have := one_inj.mp h; omega]
    rw [stL_cons, i_1f]
    dsimp only
    obtain ⟨ρ', hq⟩ := int_tail wf n x hz ((pre.length : Nat) : Int) false pre post m (by omega) (fun z => by cases z) hx hpost (nx0 dI.np)
    rw [hq]
    have hl : (Str.ofString (toString ((m : Nat) : Int))).length = (ndg m).length := by rw [← Ls_len, hs]
    rw [hl, if_neg (by decide)]
    rfl
end K28
set_option Elab.async false
set_option linter.all false
set_option maxRecDepth 3000
set_option maxHeartbeats 4000000
/-! the reader reads texts back: all plain values -/
namespace K28
open PySem PySem.Spec PyProof.Rows L2 TI PySem.NumText PySem.W.KIN
/-! BODY -/
def quo (x : Str) : Str := (("\"" : Str) ++ r3 (r2 (r1 x))) ++ ("\"" : Str)
def tx : Nat → D → Str
  | _, .non => "N"
  | _, .bl true => "T"
  | _, .bl false => "F"
  | _, .int i => Str.ofString (toString i)
  | _, .str x => quo x
  | k + 1, .tup ds => (("(" : Str) ++ Txt.join " " (ds.map (tx k))) ++ (")" : Str)
  | _, _ => ""
inductive Pl : Nat → D → Prop
  | non (k) : Pl k .non
  | bl (k b) : Pl k (.bl b)
  | int (k i) (h : i.natAbs < 10 ^ 21) : Pl k (.int i)
  | str (k x) : Pl k (.str x)
  | tup (k ds) (h : ∀ d ∈ ds, Pl k d) : Pl (k + 1) (.tup ds)
theorem Pl.pu {k : Nat} {d : D} (h : Pl k d) : d.pu = true := by cases h <;> rfl
theorem quo_list (x : Str) : Ls (quo x) = 34 :: ((Ls x).flatMap es ++ [34]) := by
  unfold quo
  rw [Ls_append, Ls_append, esc_list, c34]
  rfl
theorem tup_list (k : Nat) (ds : List D) : Ls (tx (k + 1) (.tup ds)) = 40 :: (gl [32] (ds.map fun d => Ls (tx k d)) ++ [41]) := by
  show Ls ((("(" : Str) ++ Txt.join " " (ds.map (tx k))) ++ (")" : Str)) = _
  rw [Ls_append, Ls_append, c40, c41]
  have : Ls (Txt.join " " (ds.map (tx k))) = gl [32] (ds.map fun d => Ls (tx k d)) := by
    show (Builtin.Str.glued " " _).cps.toList = _
    rw [glued_gl, c32, List.map_map]
    rfl
  rw [this]
  rfl
/-- how a text begins -/
theorem tx_head {k : Nat} {d : D} (h : Pl k d) : ∃ c l, Ls (tx k d) = c :: l ∧ c ≠ 41 := by
  cases h with
  | non => exact ⟨78, [], by unfold tx; decide +kernel, by decide⟩
  | bl k b => cases b
              · exact ⟨70, [], by unfold tx; decide +kernel, by decide⟩
              · exact ⟨84, [], by unfold tx; decide +kernel, by decide⟩
  | int k i hi =>
    have e : tx k (.int i) = Str.ofString (toString i) := by unfold tx; rfl
    rw [e]
    rcases Int.lt_or_le i 0 with hneg | hpos
    · obtain ⟨m, rfl⟩ : ∃ m : Nat, i = -((m + 1 : Nat) : Int) := ⟨i.natAbs - 1, by omega⟩
      exact ⟨45, _, int_negs m, by decide⟩
    · obtain ⟨m, rfl⟩ := Int.eq_ofNat_of_zero_le hpos
      cases h : ndg m with
      | nil => exact absurd h (ndg_ne m)
      | cons c l =>
        refine ⟨c, l, (int_nat m).trans h, ?_⟩
        have := (ndg_all m) c (by rw [h]; exact List.mem_cons_self)
        omega
  | str k x =>
    have e : tx k (.str x) = quo x := by unfold tx; rfl
    rw [e]
    exact ⟨34, _, quo_list x, by decide⟩
  | tup k ds h => exact ⟨40, _, tup_list k ds, by decide⟩
theorem bW_drop : bW.drop 1 = [at1 bW 1, at1 bW 2, at1 bW 3, at1 bW 4] := by kernel_rfl
theorem val_start (wf n : Nat) (x : Str) (hz : x.length ≤ szLine) (p dp : Int) : cl wf (n + 1) "_value" [.str x, .int p, .int dp] = stL wf n dW 59 (bW.drop 1) [some (.str x), some (.int p), some (.int dp), some (.str (cs1 x p))] (nx0 3) := by
  rw [cl_run wf n "_value" dW _ (by kernel_rfl), show dW.body = bW from rfl, bW_eq, stL_cons, show env0 dW [.str x, .int p, .int dp] = [some (.str x), some (.int p), some (.int dp), none] from rfl, w_0, ck_t (szO_t hz)]
  rfl
def PostOk (post : List Nat) : Prop := post = [] ∨ ∃ c l, post = c :: l ∧ (c = 32 ∨ c = 41)
theorem PostOk.dig {post : List Nat} (h : PostOk post) : post = [] ∨ ∃ c l, post = c :: l ∧ (("0123456789" : Str)).cps.contains c = false := by
  rcases h with h | ⟨c, l, e, hc⟩
  · exact .inl h
  · refine .inr ⟨c, l, e, ?_⟩
    rcases hc with rfl | rfl <;> decide +kernel
def Reads (wf : Nat) (x : Str) (k n : Nat) (d : D) : Prop := ∀ (pre post : List Nat) (dp : Int), Ls x = pre ++ (Ls (tx k d) ++ post) → PostOk post → dp + k ≤ 40 →
    cl wf n "_value" [.str x, .int (pre.length : Nat), .int dp] = .ret (.tup [d, .int ((pre.length + (tx k d).length : Nat) : Int)]) [none, none, none]
theorem puK_t {d : D} {r : Res} (h : d.pu = true) : puK d r = r := by unfold puK; rw [h]
theorem pusK_t {ds : List D} {r : Res} (h : D.pus ds = true) : pusK ds r = r := by unfold pusK; rw [h]
def loopE (wf n W : Nat) (E : Nx) : Nx := { nx := fun ρ2 => whC wf n dM 57 (at1 bM 2) W ρ2 E, bk := E.nx, ct := fun ρ2 => whC wf n dM 57 (at1 bM 2) W ρ2 E, rt := E.rt }
theorem loopE_nx (wf n W : Nat) (E : Nx) (ρ : TI.Env) : (loopE wf n W E).nx ρ = whC wf n dM 57 (at1 bM 2) W ρ E := rfl
theorem mem_turn (wf n : Nat) (x : Str) (hz : x.length ≤ szLine) (k : Nat) (dp : Int) (hdp : dp + k ≤ 40) (post : List Nat) (a : Nat) (ha : a = 32 ∨ a = 41) (d : D) (hd : Pl k d) (rd : Reads wf x k n d) (W : Nat) (pre : List Nat) (ms : List D) (o4 o5 : Option D) (E : Nx)
    (hx : Ls x = pre ++ (Ls (tx k d) ++ a :: post)) (hms : ms.length ≤ pre.length) :
    whC wf n dM 57 (at1 bM 2) (W + 1) [some (.str x), some (.int (pre.length : Nat)), some (.int dp), some (.lst ms), o4, o5] E =
      stL wf n dM 54 [mS 3, mS 4, mS 5] [some (.str x), some (.int ((pre.length + (tx k d).length : Nat) : Int)), some (.int dp), some (.lst (ms ++ [d])), some d, some (.str (one a))] (loopE wf n W E) := by
  have hv := rd pre (a :: post) dp hx (.inr ⟨a, post, rfl, ha⟩) hdp
  have hlx := Ls_len x
  have hlt := Ls_len (tx k d)
  have hxl : x.length = pre.length + ((tx k d).length + (post.length + 1)) := by rw [← hlx, hx]; simp [hlt]
  have hsg : cs1 x ((pre.length + (tx k d).length : Nat) : Int) = one a := by
    have := cut_one (x := x) (pre := pre ++ Ls (tx k d)) (post := post) (a := a) (by rw [hx]; simp)
    rw [List.length_append, hlt] at this
    exact this
  rw [m_w, mS_eq, stL_cons, m_b0, hv, onRet_ret, m_b0g]
  dsimp only
  rw [stL_cons, m_b1, puK_t hd.pu, ck_t (decide_eq_true (by omega))]
  dsimp only
  rw [stL_cons, m_b2, ck_t (szO_t hz), hsg]
  rfl
theorem mem_loop (wf n : Nat) (x : Str) (hz : x.length ≤ szLine) (k : Nat) (dp : Int) (hdp : dp + k ≤ 40) (post : List Nat) : ∀ (ds : List D) (d : D), Pl k d → (∀ e ∈ ds, Pl k e) → Reads wf x k n d → (∀ e ∈ ds, Reads wf x k n e) → ∀ (W : Nat) (pre : List Nat) (ms : List D) (o4 o5 : Option D) (E : Nx), ds.length ≤ W →
    Ls x = pre ++ (gl [32] ((d :: ds).map fun d => Ls (tx k d)) ++ 41 :: post) → ms.length ≤ pre.length → D.pus ms = true →
    ∃ (p' : Int) (ρ' : TI.Env), whC wf n dM 57 (at1 bM 2) (W + 1) [some (.str x), some (.int (pre.length : Nat)), some (.int dp), some (.lst ms), o4, o5] E =
      E.rt (.tup [.tup (ms ++ d :: ds), .int ((pre.length + (gl [32] ((d :: ds).map fun d => Ls (tx k d))).length + 1 : Nat) : Int)]) (some (.str x) :: some (.int p') :: some (.int dp) :: ρ') := by
  intro ds
  induction ds with
  | nil =>
    intro d hd _ rd _ W pre ms o4 o5 E hW hx hms hpu
    have hg : gl [32] ([d].map fun d => Ls (tx k d)) = Ls (tx k d) := by simp [gl]
    rw [hg] at hx
    rw [mem_turn wf n x hz k dp hdp post 41 (.inr rfl) d hd rd W pre ms o4 o5 E hx hms, stL_cons, m_b3, c41, decide_eq_true rfl]
    dsimp only
    have hp : D.pus (ms ++ [d]) = true := pus_append hpu (by show (d.pu && true) = true; rw [hd.pu]; rfl)
    rw [pusK_t hp, hg, Ls_len]
    exact ⟨((pre.length + (tx k d).length : Nat) : Int), [some (.lst (ms ++ [d])), some d, some (.str (one 41))], rfl⟩
  | cons e ds ih =>
    intro d hd hds rd rds W pre ms o4 o5 E hW hx hms hpu
    obtain ⟨W', rfl⟩ : ∃ W', W = W' + 1 := ⟨W - 1, by simp at hW; omega⟩
    have hg : gl [32] ((d :: e :: ds).map fun d => Ls (tx k d)) = Ls (tx k d) ++ 32 :: gl [32] ((e :: ds).map fun d => Ls (tx k d)) := by simp [gl]
    have hx1 : Ls x = pre ++ (Ls (tx k d) ++ 32 :: (gl [32] ((e :: ds).map fun d => Ls (tx k d)) ++ 41 :: post)) := by rw [hx, hg]; simp
    have hlt := Ls_len (tx k d)
    rw [mem_turn wf n x hz k dp hdp _ 32 (.inl rfl) d hd rd (W' + 1) pre ms o4 o5 E hx1 hms, stL_cons, m_b3, c41, decide_eq_false (fun h => by have := one_inj.mp h; omega)]
    dsimp only
    rw [stL_cons, m_b4, c32, decide_eq_true rfl]
    dsimp only [Bool.not]
    rw [stL_cons, m_b5]
    have hp : D.pus (ms ++ [d]) = true := pus_append hpu (by show (d.pu && true) = true; rw [hd.pu]; rfl)
    have hx2 : Ls x = (pre ++ Ls (tx k d) ++ [32]) ++ (gl [32] ((e :: ds).map fun d => Ls (tx k d)) ++ 41 :: post) := by rw [hx1]; simp
    have hl : (pre ++ Ls (tx k d) ++ [32]).length = pre.length + (tx k d).length + 1 := by simp [hlt]; omega
    obtain ⟨p', ρ', hq⟩ := ih e (hds e List.mem_cons_self) (fun f hf => hds f (List.mem_cons_of_mem _ hf)) (rds e List.mem_cons_self) (fun f hf => rds f (List.mem_cons_of_mem _ hf)) W' (pre ++ Ls (tx k d) ++ [32]) (ms ++ [d]) (some d) (some (.str (one 32))) E (by simp at hW; omega) hx2 (by rw [hl]; simp; omega) hp
    refine ⟨p', ρ', ?_⟩
    have e1 : ((pre.length + (tx k d).length : Nat) : Int) + 1 = (((pre ++ Ls (tx k d) ++ [32]).length : Nat) : Int) := by rw [hl]; omega
    rw [e1]
    dsimp only
    rw [stL_nil, loopE_nx, hq, hg]
    have e2 : (pre ++ Ls (tx k d) ++ [32]).length + (gl [32] ((e :: ds).map fun d => Ls (tx k d))).length + 1 = pre.length + (Ls (tx k d) ++ 32 :: gl [32] ((e :: ds).map fun d => Ls (tx k d))).length + 1 := by
      rw [hl, List.length_append, hlt, List.length_cons]; omega
    rw [e2]
    have e3 : ms ++ [d] ++ e :: ds = ms ++ d :: e :: ds := by simp
    rw [e3]
theorem mem_run (wf n : Nat) (x : Str) (hz : x.length ≤ szLine) (hw : x.length + 2 ≤ wf) (k : Nat) (dp : Int) (hdp : dp + k ≤ 40) (post pre : List Nat) (ds : List D) (hds : ∀ e ∈ ds, Pl k e) (rds : ∀ e ∈ ds, Reads wf x k n e) (hx : Ls x = pre ++ (gl [32] (ds.map fun d => Ls (tx k d)) ++ 41 :: post)) :
    cl wf (n + 1) "_members" [.str x, .int (pre.length : Nat), .int dp] = .ret (.tup [.tup ds, .int ((pre.length + (gl [32] (ds.map fun d => Ls (tx k d))).length + 1 : Nat) : Int)]) [none, none, none] := by
  rw [cl_run wf n "_members" dM _ (by kernel_rfl), show dM.body = bM from rfl, bM_eq, stL_cons, show env0 dM [.str x, .int (pre.length : Nat), .int dp] = [some (.str x), some (.int (pre.length : Nat)), some (.int dp), none, none, none] from rfl, m_0, ck_t (szO_t hz), c41]
  cases ds with
  | nil =>
    have hsg : cs1 x ((pre.length : Nat) : Int) = one 41 := cut_one (x := x) (pre := pre) (post := post) (a := 41) hx
    rw [hsg, decide_eq_true rfl]
    rfl
  | cons d ds =>
    obtain ⟨c, l, hc, hne⟩ := tx_head (hds d List.mem_cons_self)
    obtain ⟨l2, hl2⟩ : ∃ l2, gl [32] ((d :: ds).map fun d => Ls (tx k d)) = c :: l2 := by
      rw [List.map_cons, hc]; exact ⟨_, rfl⟩
    have hsg : cs1 x ((pre.length : Nat) : Int) = one c := cut_one (x := x) (pre := pre) (post := l2 ++ 41 :: post) (a := c) (by rw [hx, hl2]; rfl)
    rw [hsg, decide_eq_false (fun h => hne (one_inj.mp h))]
    dsimp only
    rw [stL_cons, m_1]
    dsimp only
    rw [stL_cons, m_2]
    have hlx := Ls_len x
    have hdl : ds.length ≤ x.length := by
      have : ∀ (q : List (List Nat)) (p : List Nat), q.length ≤ (gl [32] (p :: q)).length := fun q => by
        induction q with
        | nil => intro p; simp
        | cons a q ih => intro p; have := ih a; simp [gl] at this ⊢; omega
      have h1 := this (ds.map fun d => Ls (tx k d)) (Ls (tx k d))
      rw [List.length_map] at h1
      have h2 := congrArg List.length hx
      rw [List.length_append, List.length_append, List.map_cons, hlx] at h2
      omega
    obtain ⟨W, rfl⟩ : ∃ W, wf = W + 1 := ⟨wf - 1, by omega⟩
    obtain ⟨p', ρ', hq⟩ := mem_loop (W + 1) n x hz k dp hdp post ds d (hds d List.mem_cons_self) (fun e he => hds e (List.mem_cons_of_mem _ he)) (rds d List.mem_cons_self) (fun e he => rds e (List.mem_cons_of_mem _ he)) W pre [] none none { (nx0 dM.np) with nx := fun ρ1 => stL (W + 1) n dM 57 [] ρ1 (nx0 dM.np) } (by omega) hx (by simp) rfl
    rw [hq]
    rfl
theorem w_dig (wf n : Nat) (x : Str) (p : Int) (dp : D) (E : Nx) (c : Nat) (hc : c = 45 ∨ (48 ≤ c ∧ c ≤ 57)) : stL wf n dW 59 (bW.drop 1) [some (.str x), some (.int p), some dp, some (.str (one c))] E = onRet (cl wf n "_integer" [.str x, .int p]) (fun d _ => E.rt d [some (.str x), some (.int p), some dp, some (.str (one c))]) exX := by
  have h : c = 45 ∨ c = 48 ∨ c = 49 ∨ c = 50 ∨ c = 51 ∨ c = 52 ∨ c = 53 ∨ c = 54 ∨ c = 55 ∨ c = 56 ∨ c = 57 := by omega
  rcases h with rfl | rfl | rfl | rfl | rfl | rfl | rfl | rfl | rfl | rfl | rfl
  · rw [show (one 45) = ("-" : Str) from by decide +kernel]; exact w_d0 wf n x p dp E
  · rw [show (one 48) = ("0" : Str) from by decide +kernel]; exact w_d1 wf n x p dp E
  · rw [show (one 49) = ("1" : Str) from by decide +kernel]; exact w_d2 wf n x p dp E
  · rw [show (one 50) = ("2" : Str) from by decide +kernel]; exact w_d3 wf n x p dp E
  · rw [show (one 51) = ("3" : Str) from by decide +kernel]; exact w_d4 wf n x p dp E
  · rw [show (one 52) = ("4" : Str) from by decide +kernel]; exact w_d5 wf n x p dp E
  · rw [show (one 53) = ("5" : Str) from by decide +kernel]; exact w_d6 wf n x p dp E
  · rw [show (one 54) = ("6" : Str) from by decide +kernel]; exact w_d7 wf n x p dp E
  · rw [show (one 55) = ("7" : Str) from by decide +kernel]; exact w_d8 wf n x p dp E
  · rw [show (one 56) = ("8" : Str) from by decide +kernel]; exact w_d9 wf n x p dp E
  · rw [show (one 57) = ("9" : Str) from by decide +kernel]; exact w_d10 wf n x p dp E
theorem tx_len (k : Nat) (d : D) : (Ls (tx k d)).length = (tx k d).length := Ls_len _
theorem reads_all (wf : Nat) (x : Str) (hz : x.length ≤ szLine) (hw : x.length + 2 ≤ wf) : ∀ (k : Nat) (d : D), Pl k d → ∀ n, 2 * k + 3 ≤ n → Reads wf x k n d := by
  intro k
  induction k using Nat.strongRecOn with
  | _ k ih =>
    intro d hd n hn pre post dp hx hpost hdp
    obtain ⟨n, rfl⟩ : ∃ n', n = n' + 3 := ⟨n - 3, by omega⟩
    rw [val_start wf (n + 2) x hz]
    cases hd with
    | non =>
      have e : tx k .non = ("N" : Str) := by unfold tx; rfl
      rw [e] at hx ⊢
      have hsg : cs1 x ((pre.length : Nat) : Int) = one 78 := cut_one (x := x) (pre := pre) (post := post) (a := 78) (by rw [hx, show Ls (("N" : Str)) = [78] from by decide +kernel]; rfl)
      rw [hsg, show one 78 = ("N" : Str) from by decide +kernel, w_N]
      rfl
    | bl k b =>
      cases b with
      | false =>
        have e : tx k (.bl false) = ("F" : Str) := by unfold tx; rfl
        rw [e] at hx ⊢
        have hsg : cs1 x ((pre.length : Nat) : Int) = one 70 := cut_one (x := x) (pre := pre) (post := post) (a := 70) (by rw [hx, show Ls (("F" : Str)) = [70] from by decide +kernel]; rfl)
        rw [hsg, show one 70 = ("F" : Str) from by decide +kernel, w_F]
        rfl
      | true =>
        have e : tx k (.bl true) = ("T" : Str) := by unfold tx; rfl
        rw [e] at hx ⊢
        have hsg : cs1 x ((pre.length : Nat) : Int) = one 84 := cut_one (x := x) (pre := pre) (post := post) (a := 84) (by rw [hx, show Ls (("T" : Str)) = [84] from by decide +kernel]; rfl)
        rw [hsg, show one 84 = ("T" : Str) from by decide +kernel, w_T]
        rfl
    | int k i hi =>
      have e : tx k (.int i) = Str.ofString (toString i) := by unfold tx; rfl
      obtain ⟨c, l, hc, hd⟩ : ∃ c l, Ls (Str.ofString (toString i)) = c :: l ∧ (c = 45 ∨ (48 ≤ c ∧ c ≤ 57)) := by
        rcases Int.lt_or_le i 0 with hneg | hpos
        · obtain ⟨m, rfl⟩ : ∃ m : Nat, i = -((m + 1 : Nat) : Int) := ⟨i.natAbs - 1, by omega⟩
          exact ⟨45, _, int_negs m, .inl rfl⟩
        · obtain ⟨m, rfl⟩ := Int.eq_ofNat_of_zero_le hpos
          cases h : ndg m with
          | nil => exact absurd h (ndg_ne m)
          | cons c l => exact ⟨c, l, (int_nat m).trans h, .inr ((ndg_all m) c (by rw [h]; exact List.mem_cons_self))⟩
      rw [e] at hx ⊢
      have hsg : cs1 x ((pre.length : Nat) : Int) = one c := cut_one (x := x) (pre := pre) (post := l ++ post) (a := c) (by rw [hx, hc]; rfl)
      rw [hsg, w_dig wf (n + 2) x _ _ _ c hd, int_run wf (n + 1) x hz i hi pre post hx hpost.dig]
      rfl
    | str k y =>
      have e : tx k (.str y) = quo y := by unfold tx; rfl
      rw [e] at hx ⊢
      rw [quo_list] at hx
      have hsg : cs1 x ((pre.length : Nat) : Int) = one 34 := cut_one (x := x) (pre := pre) (post := (Ls y).flatMap es ++ [34] ++ post) (a := 34) (by rw [hx]; rfl)
      have hx2 : Ls x = (pre ++ [34]) ++ ((Ls y).flatMap es ++ 34 :: post) := by rw [hx]; simp
      have hlx := Ls_len x
      have hle : ∀ l : List Nat, l.length ≤ (l.flatMap es).length := fun l => by
        induction l with
        | nil => simp
        | cons a l ih =>
          rw [List.flatMap_cons, List.length_append, List.length_cons]
          have : 1 ≤ (es a).length := by
            unfold es
            split
            · simp
            · split
              · simp
              · split <;> simp
          omega
      have hl1 : (pre ++ [34]).length = pre.length + 1 := by simp
      have hlq : (quo y).length = ((Ls y).flatMap es).length + 2 := by rw [← Ls_len, quo_list]; simp
      have hyl : (Ls y).length + 1 ≤ wf := by
        have h1 := hle (Ls y)
        have h2 := congrArg List.length hx2
        rw [hlx, List.length_append, List.length_append, List.length_append] at h2
        simp only [List.length_cons, List.length_nil] at h2
        omega
      have hu := unq_run wf n x hz (pre ++ [34]) (Ls y) post hyl hx2
      have e1 : ((pre.length : Nat) : Int) + 1 = (((pre ++ [34]).length : Nat) : Int) := by rw [hl1]; omega
      rw [hsg, show one 34 = ("\"" : Str) from c34.symm, w_q, e1, hu]
      have e2 : (pre ++ [34]).length + ((Ls y).flatMap es).length + 1 = pre.length + (quo y).length := by rw [hl1, hlq]; omega
      have e3 : (⟨(Ls y).toArray⟩ : Str) = y := Str_ext (by show (Ls y).toArray.toList = _; simp)
      rw [e2, e3]
      rfl
    | tup k ds h =>
      rw [tup_list] at hx
      have hsg : cs1 x ((pre.length : Nat) : Int) = one 40 := cut_one (x := x) (pre := pre) (post := gl [32] (ds.map fun d => Ls (tx k d)) ++ [41] ++ post) (a := 40) (by rw [hx]; rfl)
      have hx2 : Ls x = (pre ++ [40]) ++ (gl [32] (ds.map fun d => Ls (tx k d)) ++ 41 :: post) := by rw [hx]; simp
      have hl1 : (pre ++ [40]).length = pre.length + 1 := by simp
      have hlq : (tx (k + 1) (.tup ds)).length = (gl [32] (ds.map fun d => Ls (tx k d))).length + 2 := by rw [← Ls_len, tup_list]; simp
      have hm := mem_run wf (n + 1) x hz hw k (dp + 1) (by omega) post (pre ++ [40]) ds h (fun f hf => ih k (by omega) f (h f hf) (n + 1) (by omega)) hx2
      have e1 : ((pre.length : Nat) : Int) + 1 = (((pre ++ [40]).length : Nat) : Int) := by rw [hl1]; omega
      rw [hsg, show one 40 = ("(" : Str) from c40.symm, w_p, decide_eq_true (by omega), e1, hm]
      have e2 : (pre ++ [40]).length + (gl [32] (ds.map fun d => Ls (tx k d))).length + 1 = pre.length + (tx (k + 1) (.tup ds)).length := by rw [hl1, hlq]; omega
      rw [e2]
      rfl
/-- the text of a plain value is read back -/
theorem read_back (wf n k : Nat) (d : D) (hd : Pl k d) (hk : k ≤ 40) (hn : 2 * k + 3 ≤ n) (hz : (tx k d).length ≤ szLine) (hw : (tx k d).length + 2 ≤ wf) : cl wf (n + 1) "read_plain" [.str (tx k d)] = .ret d [none] := by
  have hr := reads_all wf (tx k d) hz hw k d hd n hn [] [] 0 (by simp) (.inl rfl) (by omega)
  rw [cl_run wf n "read_plain" dR _ (by kernel_rfl), show dR.body = bRd from rfl, bRd_eq, stL_cons, show env0 dR [.str (tx k d)] = [some (.str (tx k d)), none, none] from rfl, r_0]
  rw [show cl wf n "_value" [.str (tx k d), .int 0, .int 0] = _ from hr, onRet_ret, r_0g]
  dsimp only
  rw [stL_cons, r_1, ck_t (szO_t hz)]
  rw [decide_eq_true (by simp)]
  dsimp only [Bool.not]
  rw [stL_cons, r_2, hd.pu]
  rfl
end K28
set_option Elab.async false
set_option linter.all false
set_option maxRecDepth 3000
set_option maxHeartbeats 4000000
/-! the two texts of a value; a value is the same as itself -/
namespace K28
open PySem PySem.Spec PyProof.Rows L2 TI PySem.NumText PySem.W.KIN
/-! BODY -/
inductive Sm : Nat → D → Prop
  | non (k) : Sm k .non
  | bl (k b) : Sm k (.bl b)
  | int (k i) (h : i.natAbs < 10 ^ 21) : Sm k (.int i)
  | str (k x) (h : x.length ≤ 20) : Sm k (.str x)
  | tup (k ds) (h : ∀ d ∈ ds, Sm k d) (hl : ds.length ≤ 100) (hs : (ds.map fun d => (tx k d).length).sum + ds.length ≤ 100000) : Sm (k + 1) (.tup ds)
theorem Sm.pl {k : Nat} : ∀ {d : D}, Sm k d → Pl k d := by
  induction k with
  | zero =>
    intro d h
    cases h with
    | non => exact .non _
    | bl _ b => exact .bl _ b
    | int _ i h => exact .int _ i h
    | str _ x h => exact .str _ x
  | succ k ih =>
    intro d h
    cases h with
    | non => exact .non _
    | bl _ b => exact .bl _ b
    | int _ i h => exact .int _ i h
    | str _ x h => exact .str _ x
    | tup _ ds h hl hs => exact .tup _ ds fun d hd => ih (h d hd)
theorem flat_len (f : Nat → List Nat) (hf : ∀ a, (f a).length ≤ 2) : ∀ l : List Nat, (l.flatMap f).length ≤ 2 * l.length
  | [] => by simp
  | a :: l => by
    rw [List.flatMap_cons, List.length_append, List.length_cons]
    have := flat_len f hf l
    have := hf a
    omega
theorem quo_ok (x : Str) (h : x.length ≤ 20) (k : Str → Res) : quoK x k = k (quo x) := by
  have hz : (100000 : Nat) ≤ szLine := by unfold szLine; omega
  have rl : ∀ (y : Str) (c : Nat) (z : Str), z.length = 2 → (Txt.replace y (one c) z).length ≤ 2 * y.length := fun y c z hz2 => by
    rw [← Ls_len, ← Ls_len y]
    show ((Txt.replace y (one c) z).cps.toList).length ≤ _
    rw [replace_one]
    refine flat_len _ (fun a => ?_) _
    split
    · show (Ls z).length ≤ 2; rw [Ls_len]; omega
    · simp
  have h1 : (r1 x).length ≤ 40 := by
    have := rl x 92 "\\\\" (by decide +kernel)
    unfold r1; rw [c92]; omega
  have h2 : (r2 (r1 x)).length ≤ 80 := by
    have := rl (r1 x) 34 "\\\"" (by decide +kernel)
    unfold r2; rw [c34]; omega
  have h3 : (r3 (r2 (r1 x))).length ≤ 160 := by
    have := rl (r2 (r1 x)) 10 "\\n" (by decide +kernel)
    unfold r3; rw [c10]; omega
  have hq : (("\"" : Str)).length = 1 := by decide +kernel
  have la : ∀ a b : Str, (a ++ b).length = a.length + b.length := fun a b => by rw [← Ls_len, Ls_append, List.length_append, Ls_len, Ls_len]
  unfold quoK escK lnOk
  rw [ck_t (decide_eq_true (by omega)), ck_t (decide_eq_true (by omega)), ck_t (decide_eq_true (by omega))]
  dsimp only
  rw [ck_t (decide_eq_true (by omega)), ck_t (decide_eq_true (by rw [la]; omega))]
  rfl
theorem dig_log (i : Int) (h : i.natAbs < 10 ^ 21) : i.natAbs.log2 < 1920 := by
  by_cases h0 : i.natAbs = 0
  · rw [h0]; decide
  · have := (Nat.log2_lt h0 (k := 1920)).mpr (Nat.lt_of_lt_of_le h (by decide +kernel))
    exact this
theorem lc_str (step : D → TI.Env → (Option D → TI.Env → Res) → Res) (ρ0 : Option D) (f : D → Str) (K : List D → TI.Env → Res) : ∀ (ds acc : List D) (o : Option D), (∀ d ∈ ds, ∀ o k2, ∃ o', step d [ρ0, o] k2 = k2 (some (.str (f d))) [ρ0, o']) → acc.length + ds.length < szLine →
    ∃ o', lcC step ds acc [ρ0, o] K = K (acc ++ ds.map fun d => .str (f d)) [ρ0, o']
  | [], acc, o, _, _ => ⟨o, by show K acc [ρ0, o] = _; simp⟩
  | d :: ds, acc, o, hs, hl => by
    obtain ⟨o1, e1⟩ := hs d List.mem_cons_self o (fun o ρ1 => match o with
      | some y => ckK (decide (acc.length < szLine)) (lcC step ds (acc ++ [y]) ρ1 K)
      | none => lcC step ds acc ρ1 K)
    have e0 : lcC step (d :: ds) acc [ρ0, o] K = step d [ρ0, o] (fun o ρ1 => match o with
      | some y => ckK (decide (acc.length < szLine)) (lcC step ds (acc ++ [y]) ρ1 K)
      | none => lcC step ds acc ρ1 K) := rfl
    rw [List.length_cons] at hl
    rw [e0, e1]
    dsimp only
    rw [ck_t (decide_eq_true (by omega))]
    obtain ⟨o2, e2⟩ := lc_str step ρ0 f K ds (acc ++ [.str (f d)]) o1 (fun e he => hs e (List.mem_cons_of_mem _ he)) (by rw [List.length_append, List.length_cons, List.length_nil]; omega)
    refine ⟨o2, ?_⟩
    rw [e2]
    simp
theorem strsD_map (f : D → Str) : ∀ ds : List D, strsD (ds.map fun d => D.str (f d)) = some (ds.map f)
  | [] => rfl
  | d :: ds => by
    show (strsD (ds.map fun d => D.str (f d))).map (f d :: ·) = _
    rw [strsD_map f ds]
    rfl
theorem gl_len (z : List Nat) : ∀ (ps : List (List Nat)), (gl z ps).length ≤ (ps.map List.length).sum + ps.length * z.length
  | [] => by simp [gl]
  | p :: ps => by
    have : ∀ q : List (List Nat), (q.flatMap fun q => z ++ q).length = (q.map List.length).sum + q.length * z.length := fun q => by
      induction q with
      | nil => simp
      | cons a q ih => rw [List.flatMap_cons, List.length_append, ih, List.length_append, List.map_cons, List.sum_cons, List.length_cons, Nat.add_mul]; omega
    show (p ++ _).length ≤ _
    rw [List.length_append, this, List.map_cons, List.sum_cons, List.length_cons, Nat.add_mul]
    omega
/-- the end of a tuple's text -/
theorem tup_end (k : Nat) (ds : List D) (hs : (ds.map fun d => (tx k d).length).sum + ds.length ≤ 100000) (K : D → Res) :
    (dJoin " " (.lst (ds.map fun d => D.str (tx k d))) fun z => dAdd (.str "(") z fun z2 => dAdd z2 (.str ")") fun z3 => K z3) = K (.str (tx (k + 1) (.tup ds))) := by
  have hz : (1000000 : Nat) ≤ szLine := by unfold szLine; omega
  dsimp only [dJoin]
  rw [strsD_map]
  dsimp only
  have h1 : (((ds.map (tx k)).map (·.length)).sum + (ds.map (tx k)).length * ((" " : Str)).length) ≤ 100000 := by
    rw [List.map_map, List.length_map, show ((" " : Str)).length = 1 from by decide +kernel]
    have : ((ds.map ((fun x => Str.length x) ∘ tx k)).sum) = (ds.map fun d => (tx k d).length).sum := rfl
    omega
  rw [ck_t (decide_eq_true (Nat.le_trans h1 (by omega)))]
  have hj : (Txt.join " " (ds.map (tx k))).length ≤ 100000 := by
    rw [← Ls_len]
    show ((Builtin.Str.glued " " _).cps.toList).length ≤ _
    rw [glued_gl]
    refine Nat.le_trans (gl_len _ _) ?_
    rw [List.map_map, List.length_map, c32]
    refine Nat.le_trans (Nat.le_of_eq ?_) h1
    rw [List.map_map, List.length_map, c32]
    congr 1
    · refine congrArg List.sum ?_
      rw [List.map_map]
      exact List.map_congr_left fun d _ => Ls_len _
  have la : ∀ a b : Str, (a ++ b).length = a.length + b.length := fun a b => by rw [← Ls_len, Ls_append, List.length_append, Ls_len, Ls_len]
  have l1 : (("(" : Str)).length = 1 := by decide +kernel
  have l2 : ((")" : Str)).length = 1 := by decide +kernel
  show ckK (decide (("(" : Str).length + (Txt.join " " (ds.map (tx k))).length ≤ szLine)) (ckK (decide ((("(" : Str) ++ Txt.join " " (ds.map (tx k))).length + (")" : Str).length ≤ szLine)) (K (.str ((("(" : Str) ++ Txt.join " " (ds.map (tx k))) ++ (")" : Str))))) = _
  rw [ck_t (decide_eq_true (by omega)), ck_t (decide_eq_true (by rw [la]; omega))]
  rfl
theorem plain_ok (wf : Nat) : ∀ (k : Nat) (d : D), Sm k d → ∀ n, k + 1 ≤ n → cl wf n "_law_plain" [d] = .ret (.str (tx k d)) [none] := by
  intro k
  induction k using Nat.strongRecOn with
  | _ k ih =>
    intro d hd n hn
    obtain ⟨n, rfl⟩ : ∃ n', n = n' + 1 := ⟨n - 1, by omega⟩
    cases hd with
    | non => rw [p_non]; unfold tx; rfl
    | bl _ b => cases b
                · rw [p_false]; unfold tx; rfl
                · rw [p_true]; unfold tx; rfl
    | int _ i h => rw [p_int, ck_t (decide_eq_true (dig_log i h))]; unfold tx; rfl
    | str _ x h => rw [p_str, quo_ok x h]; unfold tx; rfl
    | tup k ds h hl hs =>
      rw [p_tup]
      obtain ⟨o', e⟩ := lc_str (lcs wf n df_law_plain_ 48 lcP) (some (.tup ds)) (tx k) (fun acc ρ6 =>
        dJoin " " (.lst acc) fun z => dAdd (.str "(") z fun z2 => dAdd z2 (.str ")") fun z3 => .ret z3 (finOf 1 (wipeB ρ6 [some (.tup ds), none] [1]))) ds [] none (fun d hd o k2 => by
          rw [p_step, ih k (by omega) d (h d hd) n (by omega), onRet_ret]
          exact ⟨_, rfl⟩) (by have : (1000 : Nat) ≤ szLine := by unfold szLine; omega
                              simp; omega)
      rw [e, List.nil_append, tup_end k ds hs fun z3 => .ret z3 (finOf 1 (wipeB [some (.tup ds), o'] [some (.tup ds), none] [1]))]
      rfl
theorem show_ok (wf : Nat) : ∀ (k : Nat) (d : D), Sm k d → ∀ n, k + 2 ≤ n → cl wf n "show_plain" [d] = .ret (.str (tx k d)) [none] := by
  intro k
  induction k using Nat.strongRecOn with
  | _ k ih =>
    intro d hd n hn
    obtain ⟨n, rfl⟩ : ∃ n', n = n' + 2 := ⟨n - 2, by omega⟩
    cases hd with
    | non => rw [s_non]; unfold tx; rfl
    | bl _ b => cases b
                · rw [s_false]; unfold tx; rfl
                · rw [s_true]; unfold tx; rfl
    | int _ i h => rw [s_int, ck_t (decide_eq_true (dig_log i h))]; unfold tx; rfl
    | str _ x h => rw [s_str, quo_ok x h]; unfold tx; rfl
    | tup k ds h hl hs =>
      rw [s_tup]
      obtain ⟨o', e⟩ := lc_str (lcs wf (n + 1) df_show_plain 48 lcS) (some (.tup ds)) (tx k) (fun acc ρ6 =>
        dJoin " " (.lst acc) fun z => dAdd (.str "(") z fun z2 => dAdd z2 (.str ")") fun z3 => .ret z3 (finOf 1 (wipeB ρ6 [some (.tup ds), none] [1]))) ds [] none (fun d hd o k2 => by
          rw [s_step, ih k (by omega) d (h d hd) (n + 1) (by omega), onRet_ret]
          exact ⟨_, rfl⟩) (by have : (1000 : Nat) ≤ szLine := by unfold szLine; omega
                              simp; omega)
      rw [e, List.nil_append, tup_end k ds hs fun z3 => .ret z3 (finOf 1 (wipeB [some (.tup ds), o'] [some (.tup ds), none] [1]))]
      rfl
end K28
set_option Elab.async false
set_option linter.all false
set_option maxRecDepth 3000
set_option maxHeartbeats 4000000
/-! a value is the same as itself; a draw -/
namespace K28
open PySem PySem.Spec PyProof.Rows L2 TI PySem.NumText PySem.W.KIN
/-! BODY -/
theorem atI_nat {α : Type} (l : List α) (i : Nat) (h : i < l.length) : atI l (i : Int) = some l[i] := by
  unfold atI ixN
  rw [if_pos (by omega), if_pos (by omega)]
  show l[((i : Int)).toNat]? = _
  rw [Int.toNat_natCast, List.getElem?_eq_getElem h]
theorem same_loop (wf n : Nat) (ds : List D) (hp : ∀ d ∈ ds, d.pu = true) (hs : ∀ d ∈ ds, cl wf n "_law_same" [d, d] = .ret (.bl true) [none, none]) (E : Nx) : ∀ (j i : Nat), i + j = ds.length → ∀ o, ∃ o', forC (fst wf n df_law_same_ 57 foQ) ((List.range' i j).map fun (i : Nat) => D.int (i : Int)) [some (.tup ds), some (.tup ds), o] E = E.nx [some (.tup ds), some (.tup ds), o'] := by
  intro j
  induction j with
  | zero => intro i _ o; exact ⟨o, rfl⟩
  | succ j ih =>
    intro i hi o
    have hlt : i < ds.length := by omega
    have hm := List.getElem_mem hlt
    rw [List.range'_succ, List.map_cons, forC_cons, q_step]
    unfold atK
    rw [atI_nat ds i hlt]
    dsimp only
    rw [puK_t (hp _ hm), puK_t (hp _ hm), hs _ hm, onRet_ret]
    dsimp only [dTru, Bool.not]
    exact ih (i + 1) (by omega) _
theorem rngL_nat (n : Nat) : rngL 0 n = (List.range' 0 n).map fun (i : Nat) => D.int (i : Int) := by
  unfold rngL
  rw [List.range_eq_range']
  refine List.map_congr_left fun i _ => ?_
  rw [Int.zero_add]
theorem same_ok (wf : Nat) : ∀ (k : Nat) (d : D), Sm k d → ∀ n, k + 1 ≤ n → cl wf n "_law_same" [d, d] = .ret (.bl true) [none, none] := by
  intro k
  induction k using Nat.strongRecOn with
  | _ k ih =>
    intro d hd n hn
    obtain ⟨n, rfl⟩ : ∃ n', n = n' + 1 := ⟨n - 1, by omega⟩
    cases hd with
    | non => exact q_non wf n
    | bl _ b => cases b
                · exact q_false wf n
                · exact q_true wf n
    | int _ i h => rw [q_int, decide_eq_true rfl]
    | str _ x h => rw [q_str, decide_eq_true rfl]
    | tup k ds h hl hs =>
      rw [q_tup, decide_eq_true rfl]
      dsimp only [Bool.not]
      rw [ck_t (show smallI (ds.length : Int) = true from decide_eq_true (by rw [Int.natAbs_natCast]; omega)), Int.toNat_natCast, rngL_nat]
      obtain ⟨o', e⟩ := same_loop wf n ds (fun d hd => (h d hd).pl.pu) (fun d hd => ih k (by omega) d (h d hd) n (by omega)) (nxQ wf n) ds.length 0 (by omega) none
      rw [e, q_end]
/-- a draw -/
theorem draw_ok (wf n : Nat) (xs : List Int) (a : Nat) (many : Int) (hm : 0 < many) : ∃ v : Int, 0 ≤ v ∧ v < many ∧ cl wf (n + 1) "_law_draw" [.lst [.lst (xs.map D.int), .int (a : Int)], .int many] = .ret (.int v) [some (.lst [.lst (xs.map D.int), .int ((a + 1 : Nat) : Int)]), none] := by
  rw [m_draw]
  have hne : decide (many ≠ 0) = true := decide_eq_true (by omega)
  have e1 : ((a : Int) + 1) = ((a + 1 : Nat) : Int) := by omega
  have hl : (xs.map D.int).length = xs.length := List.length_map ..
  by_cases h : (a : Int) < ((xs.map D.int).length : Int)
  · rw [decide_eq_true h]
    dsimp only
    unfold atK
    have hlt : a < (xs.map D.int).length := by omega
    rw [atI_nat _ a hlt, List.getElem_map]
    dsimp only [dInt, dMod]
    rw [ck_t hne, e1]
    exact ⟨_, Int.fmod_nonneg_of_pos _ hm, Int.fmod_lt_of_pos _ hm, rfl⟩
  · rw [decide_eq_false h]
    dsimp only
    rw [ck_t (show mulOk (a : Int) 7 = true from by
      unfold mulOk
      rw [show decide ((7 : Int).natAbs < 18446744073709551616) = true from by decide]
      simp), ck_t hne, e1]
    exact ⟨_, Int.fmod_nonneg_of_pos _ hm, Int.fmod_lt_of_pos _ hm, rfl⟩
end K28
set_option Elab.async false
set_option linter.all false
set_option maxRecDepth 3000
set_option maxHeartbeats 4000000
/-! a drawn value -/
namespace K28
open PySem PySem.Spec PyProof.Rows L2 TI PySem.NumText PySem.W.KIN
/-! BODY -/
abbrev box (xs : List Int) (a : Nat) : D := .lst [.lst (xs.map D.int), .int (a : Int)]
theorem drw_ok (wf n : Nat) (xs : List Int) (a : Nat) (many : Int) (hm : 0 < many) (f : D → Option D → Res) : ∃ v : Int, 0 ≤ v ∧ v < many ∧ drw wf (n + 1) (box xs a) many f = f (.int v) (some (box xs (a + 1))) := by
  obtain ⟨v, h1, h2, e⟩ := draw_ok wf n xs a many hm
  refine ⟨v, h1, h2, ?_⟩
  unfold drw
  rw [e, onRet_ret]
  rfl
def Leaf (d : D) : Prop := (∀ k, Sm k d) ∧ ∀ k, (tx k d).length ≤ 60
theorem leaf_int (i : Int) (h : i.natAbs < 10 ^ 21) : Leaf (.int i) := by
  refine ⟨fun k => .int k i h, fun k => ?_⟩
  have e : tx k (.int i) = Str.ofString (toString i) := by unfold tx; rfl
  rw [e]
  have hd : ∀ m, m < 10 ^ 21 → (ndg m).length ≤ 21 := fun m hm => by unfold ndg; rw [List.length_map]; exact toDigits_len 20 m hm
  rcases Int.lt_or_le i 0 with hneg | hpos
  · obtain ⟨m, rfl⟩ : ∃ m : Nat, i = -((m + 1 : Nat) : Int) := ⟨i.natAbs - 1, by omega⟩
    rw [← Ls_len, int_negs m, List.length_cons]
    have := hd (m + 1) (by omega)
    omega
  · obtain ⟨m, rfl⟩ := Int.eq_ofNat_of_zero_le hpos
    rw [← Ls_len, int_nat m]
    have := hd m (by omega)
    omega
theorem leaf_str (x : Str) (h : x.length ≤ 20) : Leaf (.str x) := by
  refine ⟨fun k => .str k x h, fun k => ?_⟩
  have e : tx k (.str x) = quo x := by unfold tx; rfl
  rw [e, ← Ls_len, quo_list]
  have := flat_len es (fun a => by unfold es; split; · simp
                                   · split; · simp
                                     · split <;> simp) (Ls x)
  rw [Ls_len] at this
  rw [List.length_cons, List.length_append]
  simp only [List.length_cons, List.length_nil]
  omega
theorem leaf_non : Leaf .non := ⟨fun k => .non k, fun k => by
  have e : tx k .non = ("N" : Str) := by unfold tx; rfl
  rw [e]; decide +kernel⟩
theorem leaf_bl (b : Bool) : Leaf (.bl b) := ⟨fun k => .bl k b, fun k => by
  cases b with
  | true =>
    have e : tx k (.bl true) = ("T" : Str) := by unfold tx; rfl
    rw [e]; decide +kernel
  | false =>
    have e : tx k (.bl false) = ("F" : Str) := by unfold tx; rfl
    rw [e]; decide +kernel⟩
theorem sgn_len : 0 < sgn.length ∧ sgn.length ≤ szLine := by decide +kernel
theorem str_loop (wf n : Nat) (xs : List Int) (dp kd : D) (o3 : Option D) (K : List D → TI.Env → Res) : ∀ (j i : Nat) (acc : List D) (a : Nat) (o5 : Option D), acc.length + j < szLine → ∃ (cs : List Nat) (a' : Nat) (o5' : Option D), cs.length = j ∧
    lcC (lcs wf (n + 1) dV 50 lcV6) ((List.range' i j).map fun (i : Nat) => D.int (i : Int)) acc [some (box xs a), some dp, some kd, o3, some (.str sgn), o5] K = K (acc ++ cs.map fun c => .str (one c)) [some (box xs a'), some dp, some kd, o3, some (.str sgn), o5'] := by
  intro j
  induction j with
  | zero => intro i acc a o5 _; exact ⟨[], a, o5, rfl, by simp [lcC]⟩
  | succ j ih =>
    intro i acc a o5 hl
    rw [List.range'_succ, List.map_cons]
    unfold lcC
    rw [v_6s]
    obtain ⟨v, h1, h2, e⟩ := draw_ok wf n xs a 900 (by omega)
    rw [e, onRet_ret]
    have hs := sgn_len
    obtain ⟨q, hq⟩ : ∃ q : Nat, v.fmod (sgn.length : Int) = (q : Int) := Int.eq_ofNat_of_zero_le (Int.fmod_nonneg_of_pos _ (by omega))
    have hql : q < sgn.length := by
      have := Int.fmod_lt_of_pos v (b := (sgn.length : Int)) (by omega)
      omega
    have hd : ∀ k : D → Res, (dInt (.int v) fun i => dMod i (.int (sgn.length : Int)) fun j => dIx (.str sgn) j k) = k (.str (one ((Ls sgn)[q]'(by rw [Ls_len]; exact hql)))) := fun k => by
      show ckK (decide ((sgn.length : Int) ≠ 0)) (ckK (decide (sgn.length ≤ szLine)) (match atI sgn.cps.toList (v.fmod (sgn.length : Int)) with | some c => k (.str ⟨#[c]⟩) | none => .stuck)) = _
      rw [ck_t (decide_eq_true (by omega)), ck_t (decide_eq_true hs.2), hq]
      have := atI_nat (Ls sgn) q (by rw [Ls_len]; exact hql)
      rw [show atI sgn.cps.toList (q : Int) = _ from this]
      rfl
    rw [hd]
    dsimp only
    rw [puK_t rfl, ck_t (decide_eq_true (by omega))]
    obtain ⟨cs, a', o5', hc, e2⟩ := ih (i + 1) (acc ++ [.str (one ((Ls sgn)[q]'(by rw [Ls_len]; exact hql)))]) (a + 1) (some (.int (i : Int))) (by rw [List.length_append, List.length_cons, List.length_nil]; omega)
    refine ⟨(Ls sgn)[q]'(by rw [Ls_len]; exact hql) :: cs, a', o5', by rw [List.length_cons, hc], ?_⟩
    show lcC _ _ _ [some (box xs (a + 1)), some dp, some kd, o3, some (.str sgn), some (.int (i : Int))] K = _
    rw [e2]
    simp
theorem strsD_map' : ∀ cs : List Nat, strsD (cs.map fun c => D.str (one c)) = some (cs.map one)
  | [] => rfl
  | c :: cs => by
    show (strsD (cs.map fun c => D.str (one c))).map (one c :: ·) = _
    rw [strsD_map' cs]
    rfl
theorem v_30b (wf n : Nat) (xs : List Int) (a : Nat) (dp kd : D) (o3 o4 o5 : Option D) (E : Nx) (v u : Int) (hv : v.natAbs < 900) (e : cl wf n "_law_draw" [box xs a, .int 900] = .ret (.int v) [some (box xs (a + 1)), none]) (e2 : cl wf n "_law_draw" [box xs (a + 1), .int 900] = .ret (.int u) [some (box xs (a + 2)), none]) :
    st1 wf n dV 55 (v3S 0) [some (box xs a), some dp, some kd, o3, o4, o5] E = E.nx [some (box xs (a + 2)), some dp, some kd, some (.int (v * 10000000000000000 + u - 450)), o4, o5] := by
  rw [v_30]
  unfold drw
  rw [e, onRet_ret]
  show ckK (mulOk v 10000000000000000) (onRet (cl wf n "_law_draw" [box xs (a + 1), .int 900]) (fun d2 fin => dAdd (.int (v * 10000000000000000)) d2 fun s => dSub s (.int 450) fun z => E.nx [unlend (box xs (a + 1)) fin[0]?, some dp, some kd, some z, o4, o5]) (fun c fs => .exc c fs)) = _
  rw [ck_t (by unfold mulOk; rw [decide_eq_true (by omega)]; rfl), e2, onRet_ret]
  rfl
theorem v_31b (wf n : Nat) (xs : List Int) (a : Nat) (dp kd : D) (nb : Int) (o4 o5 : Option D) (E : Nx) (v : Int) (e : cl wf n "_law_draw" [box xs a, .int 4] = .ret (.int v) [some (box xs (a + 1)), none]) :
    st1 wf n dV 54 (v3S 1) [some (box xs a), some dp, some kd, some (.int nb), o4, o5] E = dIx (.lst [.int nb, .int (0 - nb), .int (10000000000000000000 + nb), .int 0]) (.int v) fun z => puK z (E.rt z [some (box xs (a + 1)), some dp, some kd, some (.int nb), o4, o5]) := by
  rw [v_31]
  unfold drw
  rw [e, onRet_ret]
  rfl
theorem v_6b (wf n : Nat) (xs : List Int) (a : Nat) (dp kd : D) (o3 : Option D) (E : Nx) (v : Int) (e : cl wf n "_law_draw" [box xs a, .int 9] = .ret (.int v) [some (box xs (a + 1)), none]) :
    st1 wf n dV 53 (at1 bV 6) [some (box xs a), some dp, some kd, o3, some (.str sgn), none] E = ckK (smallI v) (lcC (lcs wf n dV 50 lcV6) (rngL 0 v.toNat) [] [some (box xs (a + 1)), some dp, some kd, o3, some (.str sgn), none] fun acc ρ6 => dJoin "" (.lst acc) fun r => E.rt r (wipeB ρ6 [some (box xs (a + 1)), some dp, some kd, o3, some (.str sgn), none] [5])) := by
  rw [v_6]
  unfold drw
  rw [e, onRet_ret]
  rfl
theorem v_1tb (wf n : Nat) (xs : List Int) (a : Nat) (dp kd : Int) (o3 o4 : Option D) (E : Nx) (v : Int) (e : cl wf n "_law_draw" [box xs a, .int 4] = .ret (.int v) [some (box xs (a + 1)), none]) :
    st1 wf n dV 57 v1S [some (box xs a), some (.int dp), some (.int kd), o3, o4, none] E = ckK (smallI v) (lcC (lcs wf n dV 54 lcV) (rngL 0 v.toNat) [] [some (box xs (a + 1)), some (.int dp), some (.int kd), o3, o4, none] fun acc ρ6 => dTup (.lst acc) fun r => E.rt r (wipeB ρ6 [some (box xs (a + 1)), some (.int dp), some (.int kd), o3, o4, none] [5])) := by
  rw [v_1t]
  unfold drw
  rw [e, onRet_ret]
  rfl
theorem leaf_ok (wf n : Nat) (xs : List Int) (a : Nat) (dp kd : Int) : ∃ d a', Leaf d ∧ stL wf (n + 1) dV 58 [at1 bV 2, at1 bV 3, at1 bV 4, at1 bV 5, at1 bV 6] [some (box xs a), some (.int dp), some (.int kd), none, none, none] (nx0 2) = .ret d [some (box xs a'), none] := by
  rw [stL_cons, v_2]
  by_cases k3 : kd = 3
  · rw [decide_eq_true k3]
    dsimp only
    obtain ⟨v, h1, h2, e⟩ := drw_ok wf n xs a 3 (by omega) fun d b => dIx (.lst [.non, .bl true, .bl false]) d fun z => puK z ((nx0 2).rt z [b, some (.int dp), some (.int kd), none, none, none])
    rw [e]
    have : v = 0 ∨ v = 1 ∨ v = 2 := by omega
    rcases this with rfl | rfl | rfl
    · exact ⟨.non, a + 1, leaf_non, rfl⟩
    · exact ⟨.bl true, a + 1, leaf_bl true, rfl⟩
    · exact ⟨.bl false, a + 1, leaf_bl false, rfl⟩
  rw [decide_eq_false k3]
  dsimp only
  rw [stL_cons, v_3]
  by_cases k4 : kd = 4
  · rw [decide_eq_true k4]
    dsimp only
    rw [v3_eq, stL_cons]
    obtain ⟨v, h1, h2, e⟩ := draw_ok wf n xs a 900 (by omega)
    obtain ⟨u, g1, g2, e2⟩ := draw_ok wf n xs (a + 1) 900 (by omega)
    obtain ⟨w, f1, f2, e3⟩ := draw_ok wf n xs (a + 2) 4 (by omega)
    rw [v_30b wf (n + 1) xs a _ _ _ _ _ _ v u (by omega) e e2]
    dsimp only
    rw [stL_cons, v_31b wf (n + 1) xs (a + 2) _ _ _ _ _ _ w e3]
    have : w = 0 ∨ w = 1 ∨ w = 2 ∨ w = 3 := by omega
    rcases this with rfl | rfl | rfl | rfl
    · exact ⟨.int (v * 10000000000000000 + u - 450), a + 3, leaf_int _ (by omega), rfl⟩
    · exact ⟨.int (0 - (v * 10000000000000000 + u - 450)), a + 3, leaf_int _ (by omega), rfl⟩
    · exact ⟨.int (10000000000000000000 + (v * 10000000000000000 + u - 450)), a + 3, leaf_int _ (by omega), rfl⟩
    · exact ⟨.int 0, a + 3, leaf_int _ (by decide), rfl⟩
  rw [decide_eq_false k4]
  dsimp only
  rw [stL_cons, v_4]
  by_cases k5 : kd = 5
  · rw [decide_eq_true k5]
    dsimp only
    obtain ⟨v, h1, h2, e⟩ := drw_ok wf n xs a 30 (by omega) fun d b => dSub d (.int 15) fun z => (nx0 2).rt z [b, some (.int dp), some (.int kd), none, none, none]
    rw [e]
    exact ⟨.int (v - 15), a + 1, leaf_int _ (by omega), rfl⟩
  rw [decide_eq_false k5]
  dsimp only
  rw [stL_cons, v_5]
  dsimp only
  obtain ⟨v, h1, h2, e⟩ := draw_ok wf n xs a 9 (by omega)
  rw [stL_cons, v_6b wf (n + 1) xs a _ _ _ _ v e, ck_t (show smallI v = true from decide_eq_true (by omega)), rngL_nat]
  have hz : (1000 : Nat) ≤ szLine := by unfold szLine; omega
  obtain ⟨cs, a', o5', hc, e2⟩ := str_loop wf n xs (.int dp) (.int kd) none (fun acc ρ6 => dJoin "" (.lst acc) fun r => ({ (nx0 2) with nx := fun ρ1 => stL wf (n + 1) dV 53 [] ρ1 (nx0 2) } : Nx).rt r (wipeB ρ6 [some (box xs (a + 1)), some (.int dp), some (.int kd), none, some (.str sgn), none] [5])) v.toNat 0 [] (a + 1) none (by simp; omega)
  rw [e2, List.nil_append]
  dsimp only [dJoin]
  rw [strsD_map']
  dsimp only
  have hcl : cs.length ≤ 9 := by omega
  have hs1 : ((cs.map one).map (·.length)).sum ≤ 9 := by
    have : ∀ l : List Nat, ((l.map one).map (·.length)).sum = l.length := fun l => by
      induction l with
      | nil => rfl
      | cons c l ih => rw [List.map_cons, List.map_cons, List.sum_cons, ih, List.length_cons]; show 1 + l.length = _; omega
    rw [this]; exact hcl
  rw [ck_t (decide_eq_true (by rw [show (("" : Str)).length = 0 from by decide +kernel]; omega))]
  refine ⟨.str (Txt.join "" (cs.map one)), a', leaf_str _ ?_, rfl⟩
  rw [← Ls_len, join_list]
  have : ∀ l : List Nat, ((l.map one).flatMap Ls).length = l.length := fun l => by
    induction l with
    | nil => rfl
    | cons c l ih => rw [List.map_cons, List.flatMap_cons, List.length_append, ih, List.length_cons]; show 1 + l.length = _; omega
  rw [this]; omega
def bd : Nat → Nat
  | 0 => 60
  | k + 1 => 3 * (bd k + 1) + 62
theorem bd_60 : ∀ k, 60 ≤ bd k
  | 0 => Nat.le_refl _
  | k + 1 => by unfold bd; omega
theorem tup_loop (wf n : Nat) (xs : List Int) (k : Nat) (kd : Int) (o3 o4 : Option D) (ih : ∀ a, ∃ d a', Sm k d ∧ (tx k d).length ≤ bd k ∧ cl wf n "_law_value" [box xs a, .int (k : Int)] = .ret d [some (box xs a'), none]) (K : List D → TI.Env → Res) : ∀ (j i : Nat) (acc : List D) (a : Nat) (o5 : Option D), acc.length + j < szLine → ∃ (ds : List D) (a' : Nat) (o5' : Option D), ds.length = j ∧ (∀ d ∈ ds, Sm k d ∧ (tx k d).length ≤ bd k) ∧
    lcC (lcs wf n dV 54 lcV) ((List.range' i j).map fun (i : Nat) => D.int (i : Int)) acc [some (box xs a), some (.int ((k + 1 : Nat) : Int)), some (.int kd), o3, o4, o5] K = K (acc ++ ds) [some (box xs a'), some (.int ((k + 1 : Nat) : Int)), some (.int kd), o3, o4, o5'] := by
  intro j
  induction j with
  | zero => intro i acc a o5 _; exact ⟨[], a, o5, rfl, by simp, by simp [lcC]⟩
  | succ j ihj =>
    intro i acc a o5 hl
    rw [List.range'_succ, List.map_cons]
    unfold lcC
    obtain ⟨d, a1, hs, hb, e⟩ := ih a
    rw [v_1s, show ((k + 1 : Nat) : Int) - 1 = (k : Int) from by omega, e, onRet_ret]
    dsimp only
    rw [ck_t (decide_eq_true (by omega))]
    obtain ⟨ds, a', o5', hc, hd, e2⟩ := ihj (i + 1) (acc ++ [d]) a1 (some (.int (i : Int))) (by rw [List.length_append, List.length_cons, List.length_nil]; omega)
    refine ⟨d :: ds, a', o5', by rw [List.length_cons, hc], fun f hf => ?_, ?_⟩
    · rcases List.mem_cons.mp hf with rfl | hf
      · exact ⟨hs, hb⟩
      · exact hd f hf
    · show lcC _ _ _ [some (box xs a1), some (.int ((k + 1 : Nat) : Int)), some (.int kd), o3, o4, some (.int (i : Int))] K = _
      rw [e2]
      simp
end K28
set_option Elab.async false
set_option linter.all false
set_option maxRecDepth 3000
set_option maxHeartbeats 4000000
/-! drawn values; digits -/
namespace K28
open PySem PySem.Spec PyProof.Rows L2 TI PySem.NumText PySem.W.KIN
/-! BODY -/
theorem v_0b (wf n : Nat) (xs : List Int) (a : Nat) (dp : D) (o2 o3 o4 o5 : Option D) (E : Nx) (v : Int) (e : cl wf n "_law_draw" [box xs a, .int 9] = .ret (.int v) [some (box xs (a + 1)), none]) :
    st1 wf n dV 59 (at1 bV 0) [some (box xs a), some dp, o2, o3, o4, o5] E = E.nx [some (box xs (a + 1)), some dp, some (.int v), o3, o4, o5] := by
  rw [v_0]
  unfold drw
  rw [e, onRet_ret]
  rfl
theorem tup_ok (wf n : Nat) (xs : List Int) (k : Nat) (hk : k ≤ 3) (kd : Int) (a : Nat) (E : Nx) (hE : ∀ r ρ, E.rt r ρ = .ret r (finOf 2 ρ)) (ih : ∀ a, ∃ d a', Sm k d ∧ (tx k d).length ≤ bd k ∧ cl wf (n + 1) "_law_value" [box xs a, .int (k : Int)] = .ret d [some (box xs a'), none]) :
    ∃ d a', Sm (k + 1) d ∧ (tx (k + 1) d).length ≤ bd (k + 1) ∧ stL wf (n + 1) dV 58 (ifT (at1 bV 1)) [some (box xs a), some (.int ((k + 1 : Nat) : Int)), some (.int kd), none, none, none] E = .ret d [some (box xs a'), none] := by
  obtain ⟨v, h1, h2, e⟩ := draw_ok wf n xs a 4 (by omega)
  rw [v1_eq, stL_cons, v_1tb wf (n + 1) xs a _ _ _ _ _ v e, ck_t (show smallI v = true from decide_eq_true (by omega)), rngL_nat]
  dsimp only
  have hz : (1000 : Nat) ≤ szLine := by unfold szLine; omega
  obtain ⟨ds, a', o5', hc, hd, e2⟩ := tup_loop wf (n + 1) xs k kd none none ih (fun acc ρ6 => dTup (.lst acc) fun r => E.rt r (wipeB ρ6 [some (box xs (a + 1)), some (.int ((k + 1 : Nat) : Int)), some (.int kd), none, none, none] [5])) v.toNat 0 [] (a + 1) none (by simp; omega)
  rw [e2, List.nil_append]
  have hpu : D.pus ds = true := by
    have : ∀ l : List D, (∀ d ∈ l, d.pu = true) → D.pus l = true := fun l => by
      induction l with
      | nil => intro _; rfl
      | cons d l ih => intro h; show (d.pu && D.pus l) = true; rw [h d List.mem_cons_self, ih fun f hf => h f (List.mem_cons_of_mem _ hf)]; rfl
    exact this ds fun d hd' => (hd d hd').1.pl.pu
  have hlen : ds.length ≤ 3 := by omega
  have hsum : (ds.map fun d => (tx k d).length).sum ≤ ds.length * bd k := by
    have : ∀ l : List D, (∀ d ∈ l, (tx k d).length ≤ bd k) → (l.map fun d => (tx k d).length).sum ≤ l.length * bd k := fun l => by
      induction l with
      | nil => intro _; simp
      | cons d l ih =>
        intro h
        rw [List.map_cons, List.sum_cons, List.length_cons, Nat.add_mul, Nat.one_mul]
        have := h d List.mem_cons_self
        have := ih fun f hf => h f (List.mem_cons_of_mem _ hf)
        omega
    exact this ds fun d hd' => (hd d hd').2
  have hb : bd k ≤ 2465 := by
    have : k = 0 ∨ k = 1 ∨ k = 2 ∨ k = 3 := by omega
    rcases this with rfl | rfl | rfl | rfl <;> decide
  have hm : ds.length * bd k ≤ 3 * bd k := Nat.mul_le_mul_right _ hlen
  refine ⟨.tup ds, a', .tup k ds (fun d hd' => (hd d hd').1) (by omega) (by omega), ?_, ?_⟩
  · rw [← Ls_len, tup_list, List.length_cons, List.length_append]
    have := gl_len [32] (ds.map fun d => Ls (tx k d))
    rw [List.map_map, List.length_map] at this
    have e3 : (ds.map (List.length ∘ fun d => Ls (tx k d))).sum = (ds.map fun d => (tx k d).length).sum := congrArg List.sum (List.map_congr_left fun d _ => Ls_len _)
    rw [e3] at this
    simp only [List.length_cons, List.length_nil] at this ⊢
    unfold bd
    omega
  · show pusK ds (E.rt (.tup ds) _) = _
    rw [pusK_t hpu, hE]
    rfl
theorem value_ok (wf : Nat) (xs : List Int) : ∀ (k : Nat), k ≤ 4 → ∀ n, k + 2 ≤ n → ∀ a, ∃ d a', Sm k d ∧ (tx k d).length ≤ bd k ∧ cl wf n "_law_value" [box xs a, .int (k : Int)] = .ret d [some (box xs a'), none] := by
  intro k
  induction k with
  | zero =>
    intro _ n hn a
    obtain ⟨n, rfl⟩ : ∃ n', n = n' + 2 := ⟨n - 2, by omega⟩
    obtain ⟨v, h1, h2, e⟩ := draw_ok wf n xs a 9 (by omega)
    obtain ⟨d, a', hl, e2⟩ := leaf_ok wf n xs (a + 1) 0 v
    refine ⟨d, a', hl.1 0, Nat.le_trans (hl.2 0) (bd_60 0), ?_⟩
    rw [cl_run wf (n + 1) "_law_value" dV _ (by kernel_rfl), show dV.body = bV from rfl, bV_eq, stL_cons, show env0 dV [box xs a, .int ((0 : Nat) : Int)] = [some (box xs a), some (.int 0), none, none, none, none] from rfl, v_0b wf (n + 1) xs a _ _ _ _ _ _ v e]
    dsimp only
    rw [stL_cons, v_1, decide_eq_false (show ¬ (0 : Int) < 0 by omega)]
    by_cases hk : v < 3
    · rw [decide_eq_true hk]; exact e2
    · rw [decide_eq_false hk]; exact e2
  | succ k ih =>
    intro hk4 n hn a
    obtain ⟨n, rfl⟩ : ∃ n', n = n' + 2 := ⟨n - 2, by omega⟩
    obtain ⟨v, h1, h2, e⟩ := draw_ok wf n xs a 9 (by omega)
    rw [cl_run wf (n + 1) "_law_value" dV _ (by kernel_rfl), show dV.body = bV from rfl, bV_eq, stL_cons, show env0 dV [box xs a, .int ((k + 1 : Nat) : Int)] = [some (box xs a), some (.int ((k + 1 : Nat) : Int)), none, none, none, none] from rfl, v_0b wf (n + 1) xs a _ _ _ _ _ _ v e]
    dsimp only
    rw [stL_cons, v_1]
    by_cases hk : v < 3
    · rw [decide_eq_true hk, decide_eq_true (show (0 : Int) < ((k + 1 : Nat) : Int) by omega)]
      exact tup_ok wf n xs k (by omega) v (a + 1) _ (fun _ _ => rfl) fun a => ih (by omega) (n + 1) (by omega) a
    · rw [decide_eq_false hk]
      obtain ⟨d, a', hl, e2⟩ := leaf_ok wf n xs (a + 1) ((k + 1 : Nat) : Int) v
      exact ⟨d, a', hl.1 _, Nat.le_trans (hl.2 _) (bd_60 _), e2⟩
/-! ### digits -/
theorem cell_ok (wf n : Nat) (ns : List Int) (k : Nat) : ∃ z : Int, cl wf (n + 1) "_law_cell" [.rol (ns.map D.int), .int (k : Int)] = .ret (.int z) [none, none] := by
  rw [m_cell]
  have hl : (ns.map D.int).length = ns.length := List.length_map ..
  by_cases h : (k : Int) < ((ns.map D.int).length : Int)
  · rw [decide_eq_true h]
    have hlt : k < (ns.map D.int).length := by omega
    dsimp only
    unfold atK
    rw [atI_nat _ k hlt, List.getElem_map]
    exact ⟨_, rfl⟩
  · rw [decide_eq_false h]
    exact ⟨0, rfl⟩
theorem mul_l (i j : Int) (h : i.natAbs < 18446744073709551616) : mulOk i j = true := by unfold mulOk; rw [decide_eq_true h]; rfl
theorem mul_r (i j : Int) (h : j.natAbs < 18446744073709551616) : mulOk i j = true := by unfold mulOk; rw [decide_eq_true h, Bool.or_true, Bool.true_or]
theorem dig_b (wf n : Nat) (s : D) (kk : Int) (E : Nx) : ∀ (j i : Nat) (zs : List Int) (c : Int) (o3 o4 : Option D), zs.length + j < szLine → ∃ (zs' : List Int) (c' : Int) (o3' : Option D), zs'.length ≤ zs.length + j ∧
    forC (fst wf n df_law_digits_ 53 (at1 (ifT (gS 3)) 0)) ((List.range' i j).map fun (i : Nat) => D.int (i : Int)) [some s, some (.int 0), some (.int 63), some (.lst (zs.map D.int)), some (.int kk), some (.int c), o3, o4] E = E.nx [some s, some (.int 0), some (.int 63), some (.lst (zs'.map D.int)), some (.int kk), some (.int c'), o3', o4] := by
  intro j
  induction j with
  | zero => intro i zs c o3 o4 _; exact ⟨zs, c, o3, by omega, rfl⟩
  | succ j ih =>
    intro i zs c o3 o4 hl
    rw [List.range'_succ, List.map_cons, forC_cons, g_t1]
    by_cases hc : 0 < c
    · rw [decide_eq_true hc]
      dsimp only
      rw [ck_t (decide_eq_true (by rw [List.length_map]; omega))]
      obtain ⟨zs', c', o3', h1, h2⟩ := ih (i + 1) (zs ++ [c.fmod 1000]) (c.fdiv 1000) (some (.int (i : Int))) o4 (by rw [List.length_append, List.length_cons, List.length_nil]; omega)
      refine ⟨zs', c', o3', by rw [List.length_append, List.length_cons, List.length_nil] at h1; omega, ?_⟩
      rw [← h2, List.map_append]
      rfl
    · rw [decide_eq_false hc]
      dsimp only
      obtain ⟨zs', c', o3', h1, h2⟩ := ih (i + 1) zs c (some (.int (i : Int))) o4 (by omega)
      exact ⟨zs', c', o3', by omega, h2⟩
theorem dig_s (wf n : Nat) (s : D) (kk c : Int) (E : Nx) : ∀ (j i : Nat) (zs : List Int) (sd : Int) (o3 : Option D), zs.length + j < szLine → ∃ (zs' : List Int) (sd' : Int) (o3' : Option D), zs'.length ≤ zs.length + j ∧
    forC (fst wf n df_law_digits_ 52 (at1 (ifF (gS 3)) 1)) ((List.range' i j).map fun (i : Nat) => D.int (i : Int)) [some s, some (.int 0), some (.int 63), some (.lst (zs.map D.int)), some (.int kk), some (.int c), o3, some (.int sd)] E = E.nx [some s, some (.int 0), some (.int 63), some (.lst (zs'.map D.int)), some (.int kk), some (.int c), o3', some (.int sd')] := by
  intro j
  induction j with
  | zero => intro i zs sd o3 _; exact ⟨zs, sd, o3, by omega, rfl⟩
  | succ j ih =>
    intro i zs sd o3 hl
    rw [List.range'_succ, List.map_cons, forC_cons, g_t2, ck_t (mul_r _ _ (by decide)), ck_t (mul_l _ _ (by decide)), ck_t (decide_eq_true (by rw [List.length_map]; omega))]
    dsimp only
    obtain ⟨zs', sd', o3', h1, h2⟩ := ih (i + 1) (zs ++ [(((sd * 16807 + 7 * (i : Int) + 1).fmod 2147483647).fdiv 997).fmod 1000]) ((sd * 16807 + 7 * (i : Int) + 1).fmod 2147483647) (some (.int (i : Int))) (by rw [List.length_append, List.length_cons, List.length_nil]; omega)
    refine ⟨zs', sd', o3', by rw [List.length_append, List.length_cons, List.length_nil] at h1; omega, ?_⟩
    rw [← h2, List.map_append]
    rfl
end K28
set_option Elab.async false
set_option linter.all false
set_option maxRecDepth 3000
set_option maxHeartbeats 4000000
/-! the law as an equation -/
namespace K28
open PySem PySem.Spec PyProof.Rows L2 TI PySem.NumText PySem.W.KIN
/-! BODY -/
theorem fG_eq' : forB (at1 bG 1) = [gS 0, gS 1, gS 2, gS 3] := fG_eq
theorem dig_loop (wf n : Nat) (ns : List Int) (E : Nx) : ∀ (j i : Nat) (zs : List Int) (o1 o2 o3 o4 : Option D), ∃ (zs' : List Int) (o1' o2' o3' o4' : Option D), 
    forC (fst wf (n + 1) df_law_digits_ 58 (at1 bG 1)) ((List.range' i j).map fun (i : Nat) => D.int (i : Int)) [some (.rol (ns.map D.int)), some (.int 0), some (.int 63), some (.lst (zs.map D.int)), o1, o2, o3, o4] E = E.nx [some (.rol (ns.map D.int)), some (.int 0), some (.int 63), some (.lst (zs'.map D.int)), o1', o2', o3', o4'] := by
  intro j
  induction j with
  | zero => intro i zs o1 o2 o3 o4; exact ⟨zs, o1, o2, o3, o4, rfl⟩
  | succ j ih =>
    intro i zs o1 o2 o3 o4
    have hz : (3000 : Nat) ≤ szLine := by unfold szLine; omega
    rw [List.range'_succ, List.map_cons, forC_cons, g_f, fG_eq', stL_cons, g_f0]
    by_cases h15 : (1500 : Int) < ((zs.map D.int).length : Int)
    · rw [decide_eq_true h15]
      exact ⟨zs, _, _, _, _, rfl⟩
    rw [decide_eq_false h15]
    have hl : zs.length ≤ 1500 := by rw [List.length_map] at h15; omega
    dsimp only
    obtain ⟨c, e⟩ := cell_ok wf n ns i
    rw [stL_cons, g_f1, e, onRet_ret]
    dsimp only
    have neg : ∀ (o3 o4 : Option D) (E2 : Nx), ∃ c' : Int, st1 wf (n + 1) df_law_digits_ 55 (gS 2) [some (.rol (ns.map D.int)), some (.int 0), some (.int 63), some (.lst (zs.map D.int)), some (.int (i : Int)), some (.int c), o3, o4] E2 = E2.nx [some (.rol (ns.map D.int)), some (.int 0), some (.int 63), some (.lst (zs.map D.int)), some (.int (i : Int)), some (.int c'), o3, o4] := fun o3 o4 E2 => by
      rw [g_f2]
      by_cases hc : c < 0
      · rw [decide_eq_true hc, ck_t (mul_l _ _ (by decide))]
        exact ⟨_, rfl⟩
      · rw [decide_eq_false hc]
        exact ⟨_, rfl⟩
    rw [stL_cons]
    obtain ⟨c', e2⟩ := neg o3 o4 { (⟨fun ρ1 => forC (fst wf (n + 1) df_law_digits_ 58 (at1 bG 1)) ((List.range' (i + 1) j).map fun (i : Nat) => D.int (i : Int)) ρ1 E, E.nx, fun ρ1 => forC (fst wf (n + 1) df_law_digits_ 58 (at1 bG 1)) ((List.range' (i + 1) j).map fun (i : Nat) => D.int (i : Int)) ρ1 E, E.rt⟩ : Nx) with nx := fun ρ1 => stL wf (n + 1) df_law_digits_ 55 [gS 3] ρ1 (⟨fun ρ1 => forC (fst wf (n + 1) df_law_digits_ 58 (at1 bG 1)) ((List.range' (i + 1) j).map fun (i : Nat) => D.int (i : Int)) ρ1 E, E.nx, fun ρ1 => forC (fst wf (n + 1) df_law_digits_ 58 (at1 bG 1)) ((List.range' (i + 1) j).map fun (i : Nat) => D.int (i : Int)) ρ1 E, E.rt⟩ : Nx) }
    rw [e2]
    dsimp only
    rw [stL_cons, g_f3]
    by_cases hb : big ≤ c'
    · rw [decide_eq_true hb]
      dsimp only
      rw [gT_eq, stL_cons, g_b1, show rngL 0 60 = _ from rngL_nat 60]
      have key := dig_b wf (n + 1) (.rol (ns.map D.int)) (i : Int) (⟨fun ρ1 => forC (fst wf (n + 1) df_law_digits_ 58 (at1 bG 1)) ((List.range' (i + 1) j).map fun (i : Nat) => D.int (i : Int)) ρ1 E, E.nx, fun ρ1 => forC (fst wf (n + 1) df_law_digits_ 58 (at1 bG 1)) ((List.range' (i + 1) j).map fun (i : Nat) => D.int (i : Int)) ρ1 E, E.rt⟩ : Nx) 60 0 zs c' o3 o4 (by omega)
      obtain ⟨zs', c2, o3', h1, h2⟩ := key
      obtain ⟨zq, a1, a2, a3, a4, hq⟩ := ih (i + 1) zs' (some (.int (i : Int))) (some (.int c2)) o3' o4
      exact ⟨zq, a1, a2, a3, a4, (show _ = _ from h2).trans hq⟩
    · rw [decide_eq_false hb]
      dsimp only
      rw [gF_eq, stL_cons, g_s0, ck_t (mul_r _ _ (by decide)), ck_t (mul_r _ _ (by decide))]
      dsimp only
      rw [stL_cons, g_s1, show rngL 0 12 = _ from rngL_nat 12]
      obtain ⟨zs', c2, o3', h1, h2⟩ := dig_s wf (n + 1) (.rol (ns.map D.int)) (i : Int) c' (⟨fun ρ1 => forC (fst wf (n + 1) df_law_digits_ 58 (at1 bG 1)) ((List.range' (i + 1) j).map fun (i : Nat) => D.int (i : Int)) ρ1 E, E.nx, fun ρ1 => forC (fst wf (n + 1) df_law_digits_ 58 (at1 bG 1)) ((List.range' (i + 1) j).map fun (i : Nat) => D.int (i : Int)) ρ1 E, E.rt⟩ : Nx) 12 0 zs ((c' * 48271 + (i : Int) * 69621 + 11).fmod 2147483647) o3 (by omega)
      obtain ⟨zq, a1, a2, a3, a4, hq⟩ := ih (i + 1) zs' (some (.int (i : Int))) (some (.int c')) o3' (some (.int c2))
      exact ⟨zq, a1, a2, a3, a4, (show _ = _ from h2).trans hq⟩
theorem digits_ok (wf n : Nat) (ns : List Int) : ∃ zs : List Int, cl wf (n + 2) "_law_digits" [.rol (ns.map D.int), .int 0, .int 63] = .ret (.lst (zs.map D.int)) [none, none, none] := by
  rw [cl_run wf (n + 1) "_law_digits" df_law_digits_ _ (by kernel_rfl), show df_law_digits_.body = bG from rfl, bG_eq, stL_cons, show env0 df_law_digits_ [.rol (ns.map D.int), .int 0, .int 63] = [some (.rol (ns.map D.int)), some (.int 0), some (.int 63), none, none, none, none, none] from rfl, g_0]
  dsimp only
  rw [stL_cons, g_1, show rngL 0 63 = _ from rngL_nat 63]
  obtain ⟨zs, o1, o2, o3, o4, e⟩ := dig_loop wf n ns { (nx0 df_law_digits_.np) with nx := fun ρ1 => stL wf (n + 1) df_law_digits_ 58 [at1 bG 2] ρ1 (nx0 df_law_digits_.np) } 63 0 [] none none none none
  refine ⟨zs, ?_⟩
  show forC (fst wf (n + 1) df_law_digits_ 58 (at1 bG 1)) _ [some (.rol (ns.map D.int)), some (.int 0), some (.int 63), some (.lst (([] : List Int).map D.int)), none, none, none, none] _ = _
  rw [e]
  dsimp only
  rw [stL_cons, g_2]
  rfl
end K28
set_option Elab.async false
set_option linter.all false
set_option maxRecDepth 3000
set_option maxHeartbeats 4000000
/-! the law as an equation -/
namespace K28
open PySem PySem.Spec PyProof.Rows L2 TI PySem.NumText PySem.W.KIN
/-! BODY -/
theorem pus_one {d : D} (h : d.pu = true) : D.pus [d] = true := by show (d.pu && true) = true; rw [h]; rfl
theorem unlend_t {d : D} (h : d.pu = true) (o : Option (Option D)) : unlend d o = some d := by unfold unlend; rw [h]
theorem wrap_loop (wf n : Nat) (s b o2 o5 : Option D) (E : Nx) : ∀ (j i k B : Nat) (d : D) (o4 : Option D), Sm k d → (tx k d).length ≤ B → B + 2 * j ≤ 90000 → ∃ (d' : D) (o4' : Option D), Sm (k + j) d' ∧ (tx (k + j) d').length ≤ B + 2 * j ∧
    forC (fst wf n dL 56 (lS 1)) ((List.range' i j).map fun (i : Nat) => D.int (i : Int)) [s, b, o2, some d, o4, o5] E = E.nx [s, b, o2, some d', o4', o5] := by
  intro j
  induction j with
  | zero => intro i k B d o4 h1 h2 _; exact ⟨d, o4, h1, h2, rfl⟩
  | succ j ih =>
    intro i k B d o4 h1 h2 h3
    rw [List.range'_succ, List.map_cons, forC_cons, l_k, puK_t h1.pl.pu, pusK_t (pus_one h1.pl.pu)]
    dsimp only
    have hl : (tx (k + 1) (.tup [d])).length = (tx k d).length + 2 := by
      rw [← Ls_len, tup_list]
      simp [gl]
      exact Ls_len _
    obtain ⟨d', o4', g1, g2, g3⟩ := ih (i + 1) (k + 1) (B + 2) (.tup [d]) (some (.int (i : Int))) (.tup k [d] (fun f hf => by
      rcases List.mem_cons.mp hf with rfl | hf
      · exact h1
      · simp at hf) (by simp) (by simp; omega)) (by omega) (by omega)
    have e : k + 1 + j = k + (j + 1) := by omega
    rw [e] at g1 g2
    exact ⟨d', o4', g1, by omega, g3⟩
theorem l_f1b (wf n : Nat) (xs : List Int) (a : Nat) (s o2 o3 o4 o5 : Option D) (E : Nx) : ∃ h : Nat, h ≤ 36 ∧ st1 wf (n + 1) dL 56 (lS 1) [s, some (box xs a), o2, o3, o4, o5] E = forC (fst wf (n + 1) dL 56 (lS 1)) (rngL 0 h) [s, some (box xs (a + 1)), o2, o3, o4, o5] E := by
  obtain ⟨v, h1, h2, e⟩ := draw_ok wf n xs a 4 (by omega)
  rw [l_f1]
  unfold drw
  rw [e, onRet_ret]
  have : v = 0 ∨ v = 1 ∨ v = 2 ∨ v = 3 := by omega
  rcases this with rfl | rfl | rfl | rfl
  · exact ⟨0, by omega, rfl⟩
  · exact ⟨0, by omega, rfl⟩
  · exact ⟨0, by omega, rfl⟩
  · exact ⟨36, by omega, rfl⟩
theorem law_loop (wf n : Nat) (hn : 90 ≤ n) (hw : 20000 ≤ wf) (xs : List Int) (s : Option D) (E : Nx) : ∀ (j i a : Nat) (o2 o3 o4 o5 : Option D), ∃ (a' : Nat) (o2' o3' o4' o5' : Option D),
    forC (fst wf (n + 1) dL 58 (at1 bLw 1)) ((List.range' i j).map fun (i : Nat) => D.int (i : Int)) [s, some (box xs a), o2, o3, o4, o5] E = E.nx [s, some (box xs a'), o2', o3', o4', o5'] := by
  intro j
  induction j with
  | zero => intro i a o2 o3 o4 o5; exact ⟨a, o2, o3, o4, o5, rfl⟩
  | succ j ih =>
    intro i a o2 o3 o4 o5
    have hz : (90000 : Nat) ≤ szLine := by unfold szLine; omega
    rw [List.range'_succ, List.map_cons, forC_cons, l_f, lS_eq, stL_cons, l_f0]
    obtain ⟨d, a1, hs, hb, e⟩ := value_ok wf xs 4 (by omega) (n + 1) (by omega) a
    have e' : cl wf (n + 1) "_law_value" [.lst [.lst (xs.map D.int), .int (a : Int)], .int 4] = .ret d [some (box xs a1), none] := e
    rw [e', onRet_ret]
    dsimp only
    rw [stL_cons]
    have hb4 : (tx 4 d).length ≤ 7460 := Nat.le_trans hb (by decide)
    obtain ⟨h, hh, e1⟩ := l_f1b wf n xs a1 s (some (.int (i : Int))) (some d) o4 o5 { (⟨fun ρ1 => forC (fst wf (n + 1) dL 58 (at1 bLw 1)) ((List.range' (i + 1) j).map fun (i : Nat) => D.int (i : Int)) ρ1 E, E.nx, fun ρ1 => forC (fst wf (n + 1) dL 58 (at1 bLw 1)) ((List.range' (i + 1) j).map fun (i : Nat) => D.int (i : Int)) ρ1 E, E.rt⟩ : Nx) with nx := fun ρ1 => stL wf (n + 1) dL 56 [lS 2, lS 3] ρ1 (⟨fun ρ1 => forC (fst wf (n + 1) dL 58 (at1 bLw 1)) ((List.range' (i + 1) j).map fun (i : Nat) => D.int (i : Int)) ρ1 E, E.nx, fun ρ1 => forC (fst wf (n + 1) dL 58 (at1 bLw 1)) ((List.range' (i + 1) j).map fun (i : Nat) => D.int (i : Int)) ρ1 E, E.rt⟩ : Nx) }
    refine Exists.imp (fun a' => Exists.imp fun b' => Exists.imp fun c' => Exists.imp fun d' => Exists.imp fun e' hq => (show _ = _ from e1).trans hq) ?_
    rw [rngL_nat]
    obtain ⟨d', o4', g1, g2, g3⟩ := wrap_loop wf (n + 1) s (some (box xs (a1 + 1))) (some (.int (i : Int))) o5 { (⟨fun ρ1 => forC (fst wf (n + 1) dL 58 (at1 bLw 1)) ((List.range' (i + 1) j).map fun (i : Nat) => D.int (i : Int)) ρ1 E, E.nx, fun ρ1 => forC (fst wf (n + 1) dL 58 (at1 bLw 1)) ((List.range' (i + 1) j).map fun (i : Nat) => D.int (i : Int)) ρ1 E, E.rt⟩ : Nx) with nx := fun ρ1 => stL wf (n + 1) dL 56 [lS 2, lS 3] ρ1 (⟨fun ρ1 => forC (fst wf (n + 1) dL 58 (at1 bLw 1)) ((List.range' (i + 1) j).map fun (i : Nat) => D.int (i : Int)) ρ1 E, E.nx, fun ρ1 => forC (fst wf (n + 1) dL 58 (at1 bLw 1)) ((List.range' (i + 1) j).map fun (i : Nat) => D.int (i : Int)) ρ1 E, E.rt⟩ : Nx) } h 0 4 7460 d o4 hs hb4 (by omega)
    rw [g3]
    dsimp only
    have hpu := g1.pl.pu
    rw [stL_cons, l_f2, plain_ok wf (4 + h) d' g1 (n + 1) (by omega), onRet_ret, unlend_t hpu]
    dsimp only
    have hrb := read_back wf n (4 + h) d' g1.pl (by omega) (by omega) (by omega) (by omega)
    rw [stL_cons, l_f3, show_ok wf (4 + h) d' g1 (n + 1) (by omega), onRet_ret, unlend_t hpu, q_str, decide_eq_true rfl, onRet_ret]
    dsimp only [dTru, Bool.not]
    rw [hrb, onRet_ret]
    dsimp only [getK]
    obtain ⟨a', b', c', f', g', hq⟩ := ih (i + 1) (a1 + 1) (some (.int (i : Int))) (some d') o4' (some (.str (tx (4 + h) d')))
    refine ⟨a', b', c', f', g', ?_⟩
    have hso := same_ok wf (4 + h) d' g1 (n + 1) (by omega)
    show onRet (cl wf (n + 1) "_law_same" [d', d']) _ _ = _
    rw [hso, onRet_ret, unlend_t hpu]
    exact hq
theorem law_ok (wf n : Nat) (hn : 90 ≤ n) (hw : 20000 ≤ wf) (ns : List Int) : cl wf (n + 2) "law" [.rol (ns.map D.int)] = .ret (.bl true) [none] := by
  obtain ⟨m, rfl⟩ : ∃ m, n = m + 1 := ⟨n - 1, by omega⟩
  obtain ⟨zs, e⟩ := digits_ok wf m ns
  rw [cl_run wf (m + 1 + 1) "law" dL _ (by kernel_rfl), show dL.body = bLw from rfl, bLw_eq, stL_cons, show env0 dL [.rol (ns.map D.int)] = [some (.rol (ns.map D.int)), none, none, none, none, none] from rfl, l_0, e, onRet_ret]
  dsimp only
  rw [stL_cons, l_1, show rngL 0 6 = _ from rngL_nat 6]
  obtain ⟨a', o2, o3, o4, o5, e2⟩ := law_loop wf (m + 1) hn hw zs (some (.rol (ns.map D.int))) { (nx0 dL.np) with nx := fun ρ1 => stL wf (m + 1 + 1) dL 58 [at1 bLw 2] ρ1 (nx0 dL.np) } 6 0 0 none none none none
  refine (show _ = _ from e2).trans ?_
  dsimp only
  rw [stL_cons, l_2]
  rfl
end K28
set_option Elab.async false
set_option linter.all false
set_option maxRecDepth 3000
set_option maxHeartbeats 4000000
/-! the promise of _quoted -/
namespace K28
open PySem PySem.Spec PyProof.Rows L2 TI CwR
/-! BODY -/
theorem pst_set {X : Cx} {i : Nat} {x : Str} {e : Expr} {te : TE} {pos pos' : Pos} (hN : X.N.Nodup) (hi : X.N[i]? = some x) (hx : Loc X.env.scope x) (he : PET X e te) (hs : swapsWith e (some (.Name x pos')) pos.line X.env = pure false) (hf : X.fn x = true ∨ X.env.scope.names.lookup x = some .local) :
    PST X (.Assign [.Name x pos'] e pos) (tAsg te (gName i)) := by
  intro pins s σ H D h0 I h
  refine wpAny_Assign_Name (thn (he pins s σ H _ h0 I h) fun v s1 ⟨y, H1, I1, r1, q1⟩ => ?_) hs
  exact store_ok I1 hN hi hx r1 (fun s2 I2 => ⟨_, H1, I2, q1⟩) hf
def dQ : Df := ⟨["value", "escaped"], 1, defScope (topS 10), defBody (topS 10)⟩
def e0Q : Expr := match stS dQ 0 with
  | .Assign _ e _ => e
  | _ => noE
def xpQ : Pos := match stS dQ 0 with
  | .Assign (.Name _ p :: _) _ _ => p
  | _ => ⟨0, 0, 0, 0⟩
def posQ : Pos := match stS dQ 0 with
  | .Assign _ _ p => p
  | _ => ⟨0, 0, 0, 0⟩
theorem bQ_eq : dQ.body = [.Assign [.Name "escaped" xpQ] e0Q posQ, stS dQ 1] := by kernel_rfl
theorem pathQ : isPath e0Q = false := by kernel_rfl
theorem lcQ : isLc e0Q = false := by kernel_rfl
theorem z_run (glo : Str → Glo) (call : Str → List D → Res) (wf : Nat) (x : Str) : ((ev 60).P (cdOf glo call wf dQ) dQ.sc e0Q [some (.str x), none] fun d ρ1 => setK (cdOf glo call wf dQ) 1 d ρ1 fun ρ2 => (ev 59).S (cdOf glo call wf dQ) dQ.sc [stS dQ 1] ρ2 (nx0 1)) = gQuo [.str x] := by kernel_rfl
theorem scQ : FnScope dQ.N ["value"] dQ.sc := ⟨rfl, rfl, rfl, by decide +kernel, rfl, by decide +kernel, by decide +kernel⟩
theorem ncQ : ∀ y ∈ dQ.sc.names, y.2 ≠ .cell := by decide +kernel
theorem locQ : dQ.sc.names.lookup ("escaped" : Str) = some NameKind.local := by decide +kernel
theorem quo_ext {P : Program} {w : World} {K : PySem.W.Frag} {mg : Str → Option Value} {base : Heap} {cx : CXT} {er : Er} (xo : XOk cx P w K mg base) {f : Addr} {fd : FuncData} {x qual : Str} {params : Arguments} {kws : List (Str × V)} (F : FunD K x qual params dQ.body dQ.sc [] kws f fd) :
    FnOk P w K mg base cx 1 f fd ["value"] (SpD K er 1 gQuo) := by
  obtain ⟨oc, od, dV, kV, doc, pm, an, cdv, ct, osl, rfl, lk, hcd, _, _⟩ := F.ex
  refine fn_ofT lk hcd scQ ncQ (by decide) (fun vs H Q E h => h.1) (fun A outer s H vs Q E hr h => ?_)
  obtain ⟨hl, ds, Fa, hds, hg⟩ := h
  obtain ⟨y, rfl⟩ : ∃ y, ds = [.str y] := by
    unfold gQuo at hg
    split at hg
    · exact ⟨_, rfl⟩
    · exact hg.elim
  have gl0 : ∀ y g, (fun _ : Str => Glo.no) y = g → g ≠ .no → False := fun y g h n => n h.symm
  have ok : Okx (cxOf cx P w K mg base dQ.N qual dQ.sc f cdv A outer s H E) (cdOf (fun _ => .no) (fun _ _ => .stuck) 0 dQ) dQ.sc cx er E (fun r => RGood K er Fa H vs r Q E) Fa H := {
    hN := rfl
    nd := scQ.nd
    hsc := rfl
    calm := rfl
    own := fun x _ _ => .inl rfl
    bi := fun y hy => by cases hy
    con := fun y d hy => by cases hy
    kd := fun y d hy => by cases hy
    fn := fun y k hy => by cases hy
    pas := L2.passes_of (K := fun e s'' => cx outer H s E e s'') rfl
    thr := xo.th _ _ _ _ _ _ _ _ _ _
    cxn := xo.cn
    room := by have := hr.un; show (A.deeper _).units + 1 < cLine; omega
    hG := fun z => z
    xco := fun c fs ρ g => g }
  have S60 := snd_ev 60
  have S59 := snd_ev 59
  rw [bQ_eq]
  refine ⟨_, psst_cons (pst_set (i := 1) scQ.nd rfl (.inl locQ) (S60.P ok e0Q) (swaps_no lcQ _ _ _) (.inl rfl)) (PSsT.of (S59.S ok vs [stS dQ 1])), ?_⟩
  have en0 : Ens K H [some (.str y), none] (L2.start dQ.N vs) Fa := by
    have := ens_start (K := K) (H := H) 1 hds
    have hlen := Rps.length _ _ _ hds
    unfold L2.start
    rw [hlen]
    exact this
  refine ⟨[some (.str y), none], fun d ρ1 => setK (cdOf (fun _ => .no) (fun _ _ => .stuck) 0 dQ) 1 d ρ1 fun ρ2 => (ev 59).S (cdOf (fun _ => .no) (fun _ _ => .stuck) 0 dQ) dQ.sc [stS dQ 1] ρ2 (nx0 1), Fa, Keep.refl _ _, Fr.refl _ _, en0, by rw [z_run]; exact hg, fun d ρ' v H' Fe c1 v1 _ g1 => ?_⟩
  obtain ⟨Fv, ow⟩ := v1.own fun z => by rw [pathQ] at z; cases z
  have pa0 : Par 1 vs (L2.start dQ.N vs) [some (.str y), none] := fun i d hi e p => by
    have : i = 0 := by omega
    subst this
    simp at e
    subst e
    cases p
  obtain ⟨en2, pa2, g2⟩ := set_ok S59 ok vs c1.en ow.rp ow.dj (pa0.imp c1.im) g1
  refine ⟨_, nx0 1, _, c1.kp, fun a z => z.elim (c1.fr a) (ow.fr a), en2, pa2, g2, ?_⟩
  have nn : NxOk K (fun r => RGood K er Fa H vs r Q E) 1 vs Fa H (nx0 1) { nx := fun _ H' => Q .non H', rt := Q } := by
    refine ⟨fun ρ' σ' H' F' kp fr en pa g => ?_, fun ρ' σ' H' F' kp fr en pa g => g.elim, fun ρ' σ' H' F' kp fr en pa g => g.elim, fun dd ρ' σ' v H' F' Fv kp fr fv dj en pa rp g => ?_⟩
    · refine g .non H' F0 F' kp (fun _ z => z.elim) fr (fun _ _ z => z) rfl ?_
      have := fin_ok vs ρ' σ' F' en (fun i d0 hi e p => pa i d0 (by have : vs.length = 1 := hl; omega) e p)
      rw [show vs.length = 1 from hl] at this
      exact this
    · refine g v H' Fv F' kp fv fr dj rp ?_
      have := fin_ok vs ρ' σ' F' en (fun i d0 hi e p => pa i d0 (by have : vs.length = 1 := hl; omega) e p)
      rw [show vs.length = 1 from hl] at this
      exact this
  exact nn.shift c1.kp fun a z => z.elim (c1.fr a) (ow.fr a)
end K28
set_option Elab.async false
set_option linter.all false
set_option maxRecDepth 100000
set_option maxHeartbeats 4000000
/-! the head -/
namespace K28
open PySem PySem.Spec PyProof.Rows L2 TI
/-! BODY -/
def dD (x : Str) (i : Nat) : He.DefD := ⟨(x, none), x, x, defArgs (topS i), defBody (topS i), defScope (topS i), [], []⟩
def fnZ : List He.DefD := [dD "show_plain" 9, dD "_quoted" 10, dD "read_plain" 11, dD "_value" 12, dD "_members" 13, dD "_integer" 14, dD "_unquoted" 15, dD "_first_of" 16, dD "_law_cell" 18, dD "_law_digits" 19, dD "_law_draw" 20, dD "_law_same" 21, dD "_law_plain" 22, dD "_law_value" 23, dD "law" 24]
def faZ : List He.Fa := [.glo "show_plain", .glo "_quoted", .glo "read_plain", .glo "_value", .glo "_members", .glo "_integer", .glo "_unquoted", .glo "_first_of", .glo "_law_cell", .glo "_law_digits", .glo "_law_draw", .glo "_law_same", .glo "_law_plain", .glo "_law_value", .glo "law",
  .free "isinstance", .free "bool", .free "int", .free "len", .free "range", .free "str", .free "tuple", .str "DIGITS" "0123456789", .int "MOST_DIGITS" 2000, .int "DEEPEST" 40, .glo "WORDS", .glo "ESCAPES"]
def kvW : List (Str × He.Dv) := [("T", .bl true), ("F", .bl false), ("N", .non)]
def kvE : List (Str × He.Dv) := [("\"", .str "\""), ("\\", .str "\\"), ("n", .str "\n")]
section
variable {P : Program} {w : World} {K : PySem.W.Frag} {mg : Str → Option Value} {h : Heap}
theorem fns_ok (X : K.In h) (G : h.Ns mainGlobals mg) (c : He.SaysD faZ fnZ K) {base : Heap} : ∀ p ∈ defs, FnIs P w K mg base CX0 er0 p := by
  intro p hp
  simp only [defs, List.mem_cons, List.not_mem_nil, or_false] at hp
  rcases hp with rfl | rfl | rfl | rfl | rfl | rfl | rfl | rfl | rfl | rfl | rfl | rfl | rfl | rfl
  · exact fn_is (st := topS 9) X G rfl rfl (c.fact 0 (f := .glo "show_plain") rfl) (c.def_ 0 (d := dD "show_plain" 9) rfl) ⟨rfl, rfl, rfl, by decide +kernel, rfl, by decide +kernel, by decide +kernel⟩ rfl fun _ _ _ _ _ _ us hl => match us, hl with | [_], _ => rfl
  · exact fn_is (st := topS 11) X G rfl rfl (c.fact 2 (f := .glo "read_plain") rfl) (c.def_ 2 (d := dD "read_plain" 11) rfl) ⟨rfl, rfl, rfl, by decide +kernel, rfl, by decide +kernel, by decide +kernel⟩ rfl fun _ _ _ _ _ _ us hl => match us, hl with | [_], _ => rfl
  · exact fn_is (st := topS 12) X G rfl rfl (c.fact 3 (f := .glo "_value") rfl) (c.def_ 3 (d := dD "_value" 12) rfl) ⟨rfl, rfl, rfl, by decide +kernel, rfl, by decide +kernel, by decide +kernel⟩ rfl fun _ _ _ _ _ _ us hl => match us, hl with | [_, _, _], _ => rfl
  · exact fn_is (st := topS 13) X G rfl rfl (c.fact 4 (f := .glo "_members") rfl) (c.def_ 4 (d := dD "_members" 13) rfl) ⟨rfl, rfl, rfl, by decide +kernel, rfl, by decide +kernel, by decide +kernel⟩ rfl fun _ _ _ _ _ _ us hl => match us, hl with | [_, _, _], _ => rfl
  · exact fn_is (st := topS 14) X G rfl rfl (c.fact 5 (f := .glo "_integer") rfl) (c.def_ 5 (d := dD "_integer" 14) rfl) ⟨rfl, rfl, rfl, by decide +kernel, rfl, by decide +kernel, by decide +kernel⟩ rfl fun _ _ _ _ _ _ us hl => match us, hl with | [_, _], _ => rfl
  · exact fn_is (st := topS 15) X G rfl rfl (c.fact 6 (f := .glo "_unquoted") rfl) (c.def_ 6 (d := dD "_unquoted" 15) rfl) ⟨rfl, rfl, rfl, by decide +kernel, rfl, by decide +kernel, by decide +kernel⟩ rfl fun _ _ _ _ _ _ us hl => match us, hl with | [_, _], _ => rfl
  · exact fn_is (st := topS 16) X G rfl rfl (c.fact 7 (f := .glo "_first_of") rfl) (c.def_ 7 (d := dD "_first_of" 16) rfl) ⟨rfl, rfl, rfl, by decide +kernel, rfl, by decide +kernel, by decide +kernel⟩ rfl fun _ _ _ _ _ _ us hl => match us, hl with | [_, _], _ => rfl
  · exact fn_is (st := topS 18) X G rfl rfl (c.fact 8 (f := .glo "_law_cell") rfl) (c.def_ 8 (d := dD "_law_cell" 18) rfl) ⟨rfl, rfl, rfl, by decide +kernel, rfl, by decide +kernel, by decide +kernel⟩ rfl fun _ _ _ _ _ _ us hl => match us, hl with | [_, _], _ => rfl
  · exact fn_is (st := topS 19) X G rfl rfl (c.fact 9 (f := .glo "_law_digits") rfl) (c.def_ 9 (d := dD "_law_digits" 19) rfl) ⟨rfl, rfl, rfl, by decide +kernel, rfl, by decide +kernel, by decide +kernel⟩ rfl fun _ _ _ _ _ _ us hl => match us, hl with | [_, _, _], _ => rfl
  · exact fn_is (st := topS 20) X G rfl rfl (c.fact 10 (f := .glo "_law_draw") rfl) (c.def_ 10 (d := dD "_law_draw" 20) rfl) ⟨rfl, rfl, rfl, by decide +kernel, rfl, by decide +kernel, by decide +kernel⟩ rfl fun _ _ _ _ _ _ us hl => match us, hl with | [_, _], _ => rfl
  · exact fn_is (st := topS 21) X G rfl rfl (c.fact 11 (f := .glo "_law_same") rfl) (c.def_ 11 (d := dD "_law_same" 21) rfl) ⟨rfl, rfl, rfl, by decide +kernel, rfl, by decide +kernel, by decide +kernel⟩ rfl fun _ _ _ _ _ _ us hl => match us, hl with | [_, _], _ => rfl
  · exact fn_is (st := topS 22) X G rfl rfl (c.fact 12 (f := .glo "_law_plain") rfl) (c.def_ 12 (d := dD "_law_plain" 22) rfl) ⟨rfl, rfl, rfl, by decide +kernel, rfl, by decide +kernel, by decide +kernel⟩ rfl fun _ _ _ _ _ _ us hl => match us, hl with | [_], _ => rfl
  · exact fn_is (st := topS 23) X G rfl rfl (c.fact 13 (f := .glo "_law_value") rfl) (c.def_ 13 (d := dD "_law_value" 23) rfl) ⟨rfl, rfl, rfl, by decide +kernel, rfl, by decide +kernel, by decide +kernel⟩ rfl fun _ _ _ _ _ _ us hl => match us, hl with | [_, _], _ => rfl
  · exact fn_is (st := topS 24) X G rfl rfl (c.fact 14 (f := .glo "law") rfl) (c.def_ 14 (d := dD "law" 24) rfl) ⟨rfl, rfl, rfl, by decide +kernel, rfl, by decide +kernel, by decide +kernel⟩ rfl fun _ _ _ _ _ _ us hl => match us, hl with | [_], _ => rfl
theorem exts_ok (X : K.In h) (G : h.Ns mainGlobals mg) (c : He.SaysD faZ fnZ K) {base : Heap} : ∀ p ∈ T.exts, ExtIs P w K mg base CX0 er0 p := by
  intro p hp
  simp only [T, List.mem_cons, List.not_mem_nil, or_false] at hp
  rcases hp with rfl
  obtain ⟨fd, F⟩ := c.def_ 1 (d := dD "_quoted" 10) rfl
  exact ⟨_, fd, ["value"], rfl, He.glo_ok X G (c.fact 1 (f := .glo "_quoted") rfl), F.kp, F.bindsN fun _ _ _ _ _ _ us hl => match us, hl with | [_], _ => rfl, quo_ext xok0 F⟩
theorem go_ok (X : K.In h) (G : h.Ns mainGlobals mg) (c : He.SaysD faZ fnZ K) (cW : He.dicW K (He.ga K "WORDS") = some (He.keysIn w.params (kvW.map (·.1)))) (cE : He.dicW K (He.ga K "ESCAPES") = some (He.keysIn w.params (kvE.map (·.1))))
    (vW : He.valsB K (He.ga K "WORDS") kvW = true) (vE : He.valsB K (He.ga K "ESCAPES") kvE = true) : GOk K w mg T.glo := by
  refine go_of (fun x hx => ?_) fun p hp => ?_
  · simp only [T, bis, List.mem_cons, List.not_mem_nil, or_false] at hx
    rcases hx with rfl | rfl | rfl | rfl | rfl | rfl | rfl
    · exact He.free_ok X G (c.fact 15 (f := .free "isinstance") rfl)
    · exact He.free_ok X G (c.fact 16 (f := .free "bool") rfl)
    · exact He.free_ok X G (c.fact 17 (f := .free "int") rfl)
    · exact He.free_ok X G (c.fact 18 (f := .free "len") rfl)
    · exact He.free_ok X G (c.fact 19 (f := .free "range") rfl)
    · exact He.free_ok X G (c.fact 20 (f := .free "str") rfl)
    · exact He.free_ok X G (c.fact 21 (f := .free "tuple") rfl)
  · simp only [T, cons, List.mem_cons, List.not_mem_nil, or_false] at hp
    rcases hp with rfl | rfl | rfl | rfl | rfl
    · exact con_str X G (c.fact 22 (f := .str "DIGITS" "0123456789") rfl)
    · exact con_int X G (c.fact 23 (f := .int "MOST_DIGITS" 2000) rfl)
    · exact con_int X G (c.fact 24 (f := .int "DEEPEST" 40) rfl)
    · exact con_kd X G (c.fact 25 (f := .glo "WORDS") rfl) cW vW rfl
    · exact con_kd X G (c.fact 26 (f := .glo "ESCAPES") rfl) cE vE rfl
theorem all_z {fa : Addr} (X : K.In h) (G : h.Ns mainGlobals mg) (hfa : mg "law" = some (.ref fa)) (c : He.obsD faZ fnZ K = He.valD fnZ) (cW : He.dicW K (He.ga K "WORDS") = some (He.keysIn w.params (kvW.map (·.1)))) (cE : He.dicW K (He.ga K "ESCAPES") = some (He.keysIn w.params (kvE.map (·.1))))
    (vW : He.valsB K (He.ga K "WORDS") kvW = true) (vE : He.valsB K (He.ga K "ESCAPES") kvE = true) :
    ∃ fd : FuncData, (∀ (s : Shared) (u : Value), BindsTo s fd ⟨[u], []⟩ [("script", u)]) ∧ ∀ base : Heap, K.In base → base.Ns mainGlobals mg → FnOk P w K mg base CX0 95 fa fd ["script"] (SpD K er0 1 (T.call 20000 60 95 "law")) := by
  have c' : He.SaysD faZ fnZ K := c
  obtain ⟨fd, F⟩ := c'.def_ 14 (d := dD "law" 24) rfl
  have b := FunD.bindsA (ps := ["script"]) F fun _ _ _ _ _ _ us hl => match us, hl with | [_], _ => rfl
  refine ⟨fd, fun s v => b s [v] rfl, fun base hK hG => ?_⟩
  have e := hfa.symm.trans (He.glo_ok X G (c'.fact 14 (f := .glo "law") rfl))
  cases e
  have fn := run_ok (P := P) (base := base) (er := er0) xok0 (d := df_law) F (⟨rfl, rfl, rfl, by decide +kernel, rfl, by decide +kernel, by decide +kernel⟩) rfl T.glo (T.call 20000 60 94) 20000 60 94 (go_ok X G c' cW cE vW vE) (all_ok xok0 (go_ok X G c' cW cE vW vE) (fns_ok X G c') (exts_ok X G c') 20000 60 94)
  exact fn
end
end K28
set_option Elab.async false
set_option linter.all false
set_option maxRecDepth 100000
open PySem PySem.W PyProof.Rows
set_option maxHeartbeats 0 in
theorem PySem.Challenge.cw_surewater_k28_plain_there_and_back_holds : PySem.Challenge.rw_surewater_k28_plain_there_and_back.Holds := by
  w_on; o_law; k_head; (case hw => w_witness2)
  k_fill
  refine L2.walk_ofK (l := PySem.Challenge.rw_surewater_k28_plain_there_and_back) (n := 63) (k := 95) (x := "script") (CX := L2.CX0) (sp := fun K => TI.SpD K TI.er0 1 (K28.T.call 20000 60 95 "law")) rfl (by decide) rfl ⟨rfl, by decide, by decide⟩ (fun w h Y => PySem.W.kIn_of Y) ?F ?g (fun _ _ _ _ z => z)
  case F =>
    intro w mg fa h KX G hmg
    exact K28.all_z KX G hmg (by kernel_rfl) (by kernel_rfl) (by kernel_rfl) (by kernel_rfl) (by kernel_rfl)
  case g =>
    intro K H a ns hl hO hS
    exact TI.law_sp hO hS (K28.law_ok 20000 93 (by decide) (by decide) ns)
