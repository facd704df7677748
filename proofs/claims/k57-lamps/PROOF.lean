import PyProof.Rows.All
import Wide.All
import OpenK.AllK
import Wide.FinOn
import HandS.ForMost
import HandS.Walk
import HandS.WideBits
import HandS.Style
import HandS.Rev
import HandS.Zip
import HandS.SortInts
import HandS.TupAny
import HandS.TupMul
import KE.GoesEnum
import PyProof.WalksMore
import PyProof.ReprRoads
import HandS.RaiseMore
import PyProof.ListRange
import HandS.Deep
import HandS.Evl
import PyProof.Rows.RegFStrParts
import PyProof.FitsInt
import PySem.Challenge.RW_countedbytwos_k57_whole_lamps_and_figure
set_option Elab.async false
set_option linter.all false
set_option maxRecDepth 100000
set_option maxHeartbeats 4000000
/-! PW: pure words. A def over plain data is told by a predicate transformer; no heap is left behind. -/
namespace PW
open PySem PySem.Spec PyProof.Rows L2

abbrev D := PyData
/-! ### predicate transformers -/
abbrev Wp (α : Type) := (α → Prop) → Prop
def ret {α : Type} (a : α) : Wp α := fun Q => Q a
def bnd {α β : Type} (m : Wp α) (k : α → Wp β) : Wp β := fun Q => m fun a => k a Q
def grd {α : Type} (c : Prop) (m : Wp α) : Wp α := fun Q => c ∧ m Q
def nay {α : Type} : Wp α := fun _ => False
def ifW {α : Type} (b : Bool) (m n : Wp α) : Wp α := if b then m else n

inductive SV where
  | val (d : D) | own (ds : List D) | bag
abbrev En := List (Option SV)

/-! ### data over a growing heap -/
theorem same_t {K : PySem.W.Frag} {H H' : Hp} {a : Addr} {xs : List V} (e : Same H H') (h : SqT K H a xs) : SqT K H' a xs := by
  rcases h with (h | ⟨o, h⟩) | h
  · exact .inl (.inl (e _ _ h))
  · exact .inl (.inr ⟨o, e _ _ h⟩)
  · exact .inr h
mutual
/-- data on the heap: lists that stand in H by themselves, tuples of any kind -/
inductive Dq (K : PySem.W.Frag) (H : Hp) : V → PyData → Prop
  | non : Dq K H .non .none
  | bl (b : Bool) : Dq K H (.bl b) (.bool b)
  | int (i : Int) : Dq K H (.int i) (.int i)
  | str (x : Str) : Dq K H (.str x) (.str x)
  | lst {a : Addr} {xs : List V} {ds : List PyData} : H a = some (.lst xs) → DqAll K H xs ds → Dq K H (.ref a) (.list ds)
  | tup {a : Addr} {xs : List V} {ds : List PyData} : SqT K H a xs → DqAll K H xs ds → Dq K H (.ref a) (.tuple ds)
inductive DqAll (K : PySem.W.Frag) (H : Hp) : List V → List PyData → Prop
  | nil : DqAll K H [] []
  | cons {v : V} {vs : List V} {d : PyData} {ds : List PyData} : Dq K H v d → DqAll K H vs ds → DqAll K H (v :: vs) (d :: ds)
end
mutual
theorem dq_dp {K : PySem.W.Frag} {H : Hp} : ∀ (d : PyData) (v : V), Dq K H v d → Dp K H v d
  | .none, _, h => by cases h; exact .non
  | .bool b, _, h => by cases h; exact .bl b
  | .int b, _, h => by cases h; exact .int b
  | .str b, _, h => by cases h; exact .str b
  | .list ds, _, h => by
    cases h with
    | lst hs ha => exact .lst (.inl (.inl hs)) (dqa_dpa ds _ ha)
  | .tuple ds, _, h => by
    cases h with
    | tup hs ha => exact .tup hs (dqa_dpa ds _ ha)
  | .dict _, _, h => by cases h
theorem dqa_dpa {K : PySem.W.Frag} {H : Hp} : ∀ (ds : List PyData) (vs : List V), DqAll K H vs ds → DpAll K H vs ds
  | [], _, h => by cases h; exact .nil
  | d :: ds, _, h => by
    cases h with
    | cons h1 h2 => exact .cons (dq_dp d _ h1) (dqa_dpa ds _ h2)
end
mutual
theorem dp_mono {K : PySem.W.Frag} {H H' : Hp} (s : Same H H') : ∀ (d : PyData) (v : V), Dq K H v d → Dq K H' v d
  | .none, _, h => by cases h; exact .non
  | .bool b, _, h => by cases h; exact .bl b
  | .int b, _, h => by cases h; exact .int b
  | .str b, _, h => by cases h; exact .str b
  | .list ds, _, h => by
    cases h with
    | lst hs ha => exact .lst (s _ _ hs) (dpa_mono s ds _ ha)
  | .tuple ds, _, h => by
    cases h with
    | tup hs ha => exact .tup (same_t s hs) (dpa_mono s ds _ ha)
  | .dict _, _, h => by cases h
theorem dpa_mono {K : PySem.W.Frag} {H H' : Hp} (s : Same H H') : ∀ (ds : List PyData) (vs : List V), DqAll K H vs ds → DqAll K H' vs ds
  | [], _, h => by cases h; exact .nil
  | d :: ds, _, h => by
    cases h with
    | cons h1 h2 => exact .cons (dp_mono s d _ h1) (dpa_mono s ds _ h2)
end
theorem dpa_len {K : PySem.W.Frag} {H : Hp} : ∀ {vs : List V} {ds : List D}, DqAll K H vs ds → vs.length = ds.length
  | _, _, .nil => rfl
  | _, _, .cons _ h => by rw [List.length_cons, List.length_cons, dpa_len h]
theorem dpa_get {K : PySem.W.Frag} {H : Hp} : ∀ {vs : List V} {ds : List D} {i : Nat} {v : V}, DqAll K H vs ds → vs[i]? = some v → ∃ d, ds[i]? = some d ∧ Dq K H v d
  | _, _, _, _, .nil, e => by simp at e
  | _, _, 0, _, .cons h _, e => by simp at e; subst e; exact ⟨_, rfl, h⟩
  | _, _, i + 1, v, .cons _ t, e => by
    obtain ⟨d, h1, h2⟩ := dpa_get (i := i) (v := v) t (by simpa using e)
    exact ⟨d, by simpa using h1, h2⟩
theorem dpa_get' {K : PySem.W.Frag} {H : Hp} : ∀ {vs : List V} {ds : List D} {i : Nat} {d : D}, DqAll K H vs ds → ds[i]? = some d → ∃ v, vs[i]? = some v ∧ Dq K H v d
  | _, _, _, _, .nil, e => by simp at e
  | _, _, 0, _, .cons h _, e => by simp at e; subst e; exact ⟨_, rfl, h⟩
  | _, _, i + 1, v, .cons _ t, e => by
    obtain ⟨d, h1, h2⟩ := dpa_get' (i := i) (d := v) t (by simpa using e)
    exact ⟨d, by simpa using h1, h2⟩
theorem dpa_append {K : PySem.W.Frag} {H : Hp} : ∀ {vs ws : List V} {ds es : List D}, DqAll K H vs ds → DqAll K H ws es → DqAll K H (vs ++ ws) (ds ++ es)
  | _, _, _, _, .nil, h => h
  | _, _, _, _, .cons a t, h => .cons a (dpa_append t h)
theorem dpa_set {K : PySem.W.Frag} {H : Hp} {v : V} {d : D} (h : Dq K H v d) : ∀ {vs : List V} {ds : List D} (i : Nat), DqAll K H vs ds → DqAll K H (vs.set i v) (ds.set i d)
  | _, _, _, .nil => .nil
  | _, _, 0, .cons _ t => .cons h t
  | _, _, i + 1, .cons q t => .cons q (dpa_set h i t)
theorem dpa_take {K : PySem.W.Frag} {H : Hp} : ∀ {vs : List V} {ds : List D} (n : Nat), DqAll K H vs ds → DqAll K H (vs.take n) (ds.take n)
  | _, _, 0, _ => .nil
  | _, _, _ + 1, .nil => .nil
  | _, _, n + 1, .cons r t => .cons r (dpa_take n t)
theorem dpa_drop {K : PySem.W.Frag} {H : Hp} : ∀ {vs : List V} {ds : List D} (n : Nat), DqAll K H vs ds → DqAll K H (vs.drop n) (ds.drop n)
  | _, _, 0, r => r
  | _, _, _ + 1, .nil => .nil
  | _, _, n + 1, .cons _ t => dpa_drop n t
theorem dpa_reverse {K : PySem.W.Frag} {H : Hp} : ∀ {vs : List V} {ds : List D}, DqAll K H vs ds → DqAll K H vs.reverse ds.reverse
  | _, _, .nil => .nil
  | _, _, .cons a t => by
    rw [List.reverse_cons, List.reverse_cons]
    exact dpa_append (dpa_reverse t) (.cons a .nil)

/-! ### the bag of draws; what an evaluation leaves -/
abbrev Bg := Option (Addr × Addr)
def BagOk (bg : Bg) (F H : Hp) : Prop := ∀ p q, bg = some (p, q) → p ≠ q ∧ F p = none ∧ F q = none ∧
  ∃ (cs : List Int) (c m : Int), H p = some (.lst [.ref q, .int c, .int m]) ∧ H q = some (.lst (cs.map V.int)) ∧ (∀ x ∈ cs, 0 ≤ x) ∧ 0 ≤ c ∧ 0 ≤ m ∧ m < 2147483647 ∧ cs.length ≤ 63
def NotBag (bg : Bg) (a : Addr) : Prop := ∀ p q, bg = some (p, q) → a ≠ p ∧ a ≠ q
theorem notBag_none {a : Addr} : NotBag none a := fun _ _ h => nomatch h
theorem bagOk_none {F H : Hp} : BagOk none F H := fun _ _ h => nomatch h
def Keep (bg : Bg) (H H' : Hp) : Prop := ∀ a o, NotBag bg a → H a = some o → H' a = some o
theorem Keep.refl {bg : Bg} {H : Hp} : Keep bg H H := fun _ _ _ h => h
theorem Keep.trans {bg : Bg} {H H1 H2 : Hp} (a : Keep bg H H1) (b : Keep bg H1 H2) : Keep bg H H2 := fun x o n h => b x o n (a x o n h)

structure Step (bg : Bg) (H F H' F' : Hp) : Prop where
  ff : Same F F'
  new : ∀ a, F a = none → F' a ≠ none → H a = none
  kp : Keep bg H H'
  ex : Same F' H'
  bag : BagOk bg F' H'

theorem bag_not {bg : Bg} {F H : Hp} (b : BagOk bg F H) {a : Addr} {o : HO} (h : F a = some o) : NotBag bg a := fun p q e => by
  obtain ⟨_, h1, h2, _⟩ := b p q e
  exact ⟨fun z => (by rw [z, h1] at h; cases h), fun z => (by rw [z, h2] at h; cases h)⟩
theorem fresh_not {bg : Bg} {F H : Hp} (b : BagOk bg F H) {a : Addr} (h : H a = none) : NotBag bg a := fun p q e => by
  obtain ⟨_, _, _, cs, c, m, h1, h2, _⟩ := b p q e
  exact ⟨fun z => (by rw [z, h1] at h; cases h), fun z => (by rw [z, h2] at h; cases h)⟩
theorem Keep.back {bg : Bg} {F H H' : Hp} (k : Keep bg H H') (b : BagOk bg F H) (b' : BagOk bg F H') {a : Addr} (h : H' a = none) : H a = none := by
  cases e : H a with
  | none => rfl
  | some o =>
    have := k a o (fresh_not b' h) e
    rw [h] at this
    cases this
theorem Step.refl {bg : Bg} {H F : Hp} (e : Same F H) (b : BagOk bg F H) : Step bg H F H F := ⟨Same.refl F, fun a h1 h2 => absurd h1 h2, .refl, e, b⟩
theorem Step.trans {bg : Bg} {H F H1 F1 H2 F2 : Hp} (a : Step bg H F H1 F1) (b : Step bg H1 F1 H2 F2) : Step bg H F H2 F2 := by
  refine ⟨a.ff.trans b.ff, fun x h1 h2 => ?_, a.kp.trans b.kp, b.ex, b.bag⟩
  by_cases h : F1 x = none
  · have h3 := b.new x h h2
    cases e : H x with
    | none => rfl
    | some o =>
      have n : NotBag bg x := fresh_not a.bag h3
      have := a.kp x o n e
      rw [h3] at this
      cases this
  · exact a.new x h1 h

/-- the slots as told; own lists stand apart from what is known to others (F), from the entry's heap (H0), from the bag -/
structure RelA (K : PySem.W.Frag) (bg : Bg) (H0 : Hp) (A : Nat → Addr) (en : En) (σ : L2.St) (H F : Hp) : Prop where
  len : σ.length = en.length
  val : ∀ (i : Nat) (d : D), en[i]? = some (some (.val d)) → ∃ v, σ[i]? = some (some v) ∧ Dq K F v d
  own : ∀ (i : Nat) (ds : List D), en[i]? = some (some (.own ds)) → σ[i]? = some (some (.ref (A i))) ∧ F (A i) = none ∧ NotBag bg (A i) ∧ H0 (A i) = none ∧ ∃ xs, H (A i) = some (.lst xs) ∧ DqAll K F xs ds
  apart : ∀ (i j : Nat) (ds es : List D), en[i]? = some (some (.own ds)) → en[j]? = some (some (.own es)) → i ≠ j → A i ≠ A j
  bgs : ∀ (i : Nat), en[i]? = some (some .bag) → ∃ p q, bg = some (p, q) ∧ σ[i]? = some (some (.ref p))
structure Rel (K : PySem.W.Frag) (bg : Bg) (H0 : Hp) (en : En) (σ : L2.St) (H F : Hp) : Prop where
  ex : Same F H
  bag : BagOk bg F H
  slots : ∃ A, RelA K bg H0 A en σ H F

theorem Rel.step {K : PySem.W.Frag} {bg : Bg} {H0 : Hp} {en : En} {σ : L2.St} {H F H' F' : Hp} (r : Rel K bg H0 en σ H F) (s : Step bg H F H' F') : Rel K bg H0 en σ H' F' := by
  obtain ⟨A, a⟩ := r.slots
  refine ⟨s.ex, s.bag, A, a.len, fun i d e => ?_, fun i ds e => ?_, a.apart, a.bgs⟩
  · obtain ⟨v, h1, h2⟩ := a.val i d e
    exact ⟨v, h1, dp_mono s.ff _ _ h2⟩
  · obtain ⟨h1, h2, h3, h4, xs, h5, h6⟩ := a.own i ds e
    refine ⟨h1, ?_, h3, h4, xs, s.kp _ _ h3 h5, dpa_mono s.ff _ _ h6⟩
    cases q : F' (A i) with
    | none => rfl
    | some o =>
      have := s.new _ h2 (by rw [q]; simp)
      rw [h5] at this
      cases this
theorem Rel.refl {K : PySem.W.Frag} {bg : Bg} {H0 : Hp} {en : En} {σ : L2.St} {H F : Hp} (r : Rel K bg H0 en σ H F) : Step bg H F H F := .refl r.ex r.bag

/-! ### contexts -/
structure G where
  P : Program
  w : World
  K : PySem.W.Frag
  mg : Str → Option Value
  base : Heap
  N : List Str
  sc : Scope
  k : Nat
  own : Str → Bool
structure G.In (Γ : G) (X : Cx) : Prop where
  prog : X.prog = Γ.P
  w : X.w = Γ.w
  K : X.K = Γ.K
  mg : X.mg = Γ.mg
  base : X.base = Γ.base
  N : X.N = Γ.N
  sc : X.env.scope = Γ.sc
  calm : X.calm = true
  room : Room Γ.k X.A
  fn : X.fn = Γ.own
  xe : X.xe = fun _ _ => False
  gd : X.A.guards = some []

/-! ### the readings, all ways at once -/
def cE (Γ : G) (e : Expr) : TE := fun σ H Q => ∃ t : TE, (∀ X, Γ.In X → PE X e t) ∧ t σ H Q
def cT (Γ : G) (e : Expr) : TT := fun σ H Q => ∃ t : TT, (∀ X, Γ.In X → PT X e t) ∧ t σ H Q
def cW (Γ : G) (e : Expr) : TT := fun σ H Q => ∃ t : TT, (∀ X, Γ.In X → PW X e t) ∧ t σ H Q
def cA (Γ : G) (es : List Expr) : TA := fun σ H Q => ∃ t : TA, (∀ X, Γ.In X → PA X es t) ∧ t σ H Q
def cS (Γ : G) (ss : List Stmt) : TS := fun Dn σ H => ∃ t : TS, (∀ X, Γ.In X → PSs X ss t) ∧ t Dn σ H
def cI (Γ : G) (tg e : Expr) : TI := fun σ H R => ∃ t : TI, (∀ X, Γ.In X → PI X tg e t) ∧ t σ H R
section
variable {Γ : G} {X : Cx}
theorem cE_pe (h : Γ.In X) (e : Expr) : PE X e (cE Γ e) := ⟨fun pins s σ H Q I ⟨t, ht, q⟩ => (ht X h).run pins s σ H Q I q⟩
theorem cT_pt (h : Γ.In X) (e : Expr) : PT X e (cT Γ e) := ⟨fun pins s σ H Q I ⟨t, ht, q⟩ => (ht X h).run pins s σ H Q I q⟩
theorem cW_pw (h : Γ.In X) (e : Expr) : PW X e (cW Γ e) := ⟨fun wh pins s σ H Q I ⟨t, ht, q⟩ => (ht X h).run wh pins s σ H Q I q⟩
theorem cA_pa (h : Γ.In X) (es : List Expr) : PA X es (cA Γ es) := ⟨fun pos pins s σ H Q I ⟨t, ht, q⟩ => (ht X h).run pos pins s σ H Q I q⟩
theorem cS_ps (h : Γ.In X) (ss : List Stmt) : PSs X ss (cS Γ ss) := ⟨fun pins s σ H Dn I ⟨t, ht, q⟩ => (ht X h).run pins s σ H Dn I q⟩
theorem cI_pi (h : Γ.In X) (tg e : Expr) : PI X tg e (cI Γ tg e) := ⟨fun pins s σ H R I ⟨t, ht, q⟩ => (ht X h).run pins s σ H R I q⟩
end

/-! ### what is told of an expression -/
/-- a value for good -/
def EV (K : PySem.W.Frag) (te : TE) (en : En) (m : Wp D) : Prop := ∀ (bg : Bg) (H0 : Hp) (σ : L2.St) (H F : Hp), Rel K bg H0 en σ H F → ∀ Q : D → Prop, m Q → ∀ QQ : VK,
  (∀ v d H' F', Step bg H F H' F' → Dq K F' v d → Q d → QQ v H') → te σ H QQ
/-- a list that stands for now -/
def Rdl (bg : Bg) (H : Hp) (a : Addr) (xs : List V) : Prop := NotBag bg a ∧ H a = some (.lst xs)
def QV (K : PySem.W.Frag) (te : TE) (en : En) (m : Wp (List D)) : Prop := ∀ (bg : Bg) (H0 : Hp) (σ : L2.St) (H F : Hp), Rel K bg H0 en σ H F → ∀ Q : List D → Prop, m Q → ∀ QQ : VK,
  (∀ a xs ds H' F', Step bg H F H' F' → (Rdl bg H' a xs ∨ SqT K F' a xs) → DqAll K F' xs ds → Q ds → QQ (.ref a) H') → te σ H QQ
/-- a new list -/
def FV (K : PySem.W.Frag) (te : TE) (en : En) (m : Wp (List D)) : Prop := ∀ (bg : Bg) (H0 : Hp) (σ : L2.St) (H F : Hp), Rel K bg H0 en σ H F → ∀ Q : List D → Prop, m Q → ∀ QQ : VK,
  (∀ a xs ds H' F', Step bg H F H' F' → H a = none → F' a = none → H' a = some (.lst xs) → DqAll K F' xs ds → Q ds → QQ (.ref a) H') → te σ H QQ
def TV (K : PySem.W.Frag) (tt : TT) (en : En) (m : Wp Bool) : Prop := ∀ (bg : Bg) (H0 : Hp) (σ : L2.St) (H F : Hp), Rel K bg H0 en σ H F → ∀ Q : Bool → Prop, m Q → ∀ QQ : Bool → Hp → Prop,
  (∀ b H' F', Step bg H F H' F' → Q b → QQ b H') → tt σ H QQ
def AV (K : PySem.W.Frag) (ta : TA) (en : En) (m : Wp (List D)) : Prop := ∀ (bg : Bg) (H0 : Hp) (σ : L2.St) (H F : Hp), Rel K bg H0 en σ H F → ∀ Q : List D → Prop, m Q → ∀ QQ : List V → Hp → Prop,
  (∀ vs ds H' F', Step bg H F H' F' → DqAll K F' vs ds → Q ds → QQ vs H') → ta σ H QQ

def ME (Γ : G) (e : Expr) (en : En) (m : Wp D) : Prop := EV Γ.K (cE Γ e) en m
def MQ (Γ : G) (e : Expr) (en : En) (m : Wp (List D)) : Prop := QV Γ.K (cE Γ e) en m
def MFr (Γ : G) (e : Expr) (en : En) (m : Wp (List D)) : Prop := FV Γ.K (cE Γ e) en m
def MT (Γ : G) (e : Expr) (en : En) (m : Wp Bool) : Prop := TV Γ.K (cT Γ e) en m
def MW (Γ : G) (e : Expr) (en : En) (m : Wp Bool) : Prop := TV Γ.K (cW Γ e) en m
def MA (Γ : G) (es : List Expr) (en : En) (m : Wp (List D)) : Prop := AV Γ.K (cA Γ es) en m

theorem me_of {Γ : G} {e : Expr} {en : En} {m : Wp D} {t : TE} (h : ∀ X, Γ.In X → PE X e t) (q : EV Γ.K t en m) : ME Γ e en m := fun bg H0 σ H F r Q hm QQ k => ⟨t, h, q bg H0 σ H F r Q hm QQ k⟩
theorem mq_of {Γ : G} {e : Expr} {en : En} {m : Wp (List D)} {t : TE} (h : ∀ X, Γ.In X → PE X e t) (q : QV Γ.K t en m) : MQ Γ e en m := fun bg H0 σ H F r Q hm QQ k => ⟨t, h, q bg H0 σ H F r Q hm QQ k⟩
theorem mf_of {Γ : G} {e : Expr} {en : En} {m : Wp (List D)} {t : TE} (h : ∀ X, Γ.In X → PE X e t) (q : FV Γ.K t en m) : MFr Γ e en m := fun bg H0 σ H F r Q hm QQ k => ⟨t, h, q bg H0 σ H F r Q hm QQ k⟩
theorem mt_of {Γ : G} {e : Expr} {en : En} {m : Wp Bool} {t : TT} (h : ∀ X, Γ.In X → PT X e t) (q : TV Γ.K t en m) : MT Γ e en m := fun bg H0 σ H F r Q hm QQ k => ⟨t, h, q bg H0 σ H F r Q hm QQ k⟩
theorem mw_of {Γ : G} {e : Expr} {en : En} {m : Wp Bool} {t : TT} (h : ∀ X, Γ.In X → PW X e t) (q : TV Γ.K t en m) : MW Γ e en m := fun bg H0 σ H F r Q hm QQ k => ⟨t, h, q bg H0 σ H F r Q hm QQ k⟩
theorem ma_of {Γ : G} {e : List Expr} {en : En} {m : Wp (List D)} {t : TA} (h : ∀ X, Γ.In X → PA X e t) (q : AV Γ.K t en m) : MA Γ e en m := fun bg H0 σ H F r Q hm QQ k => ⟨t, h, q bg H0 σ H F r Q hm QQ k⟩

section
variable {K : PySem.W.Frag} {bg : Bg} {H F H' : Hp} {a : Addr} {xs : List V}
/-- what is known for good is there for now -/
theorem rdl_of (b : BagOk bg F H) (e : Same F H) (h : F a = some (.lst xs)) : Rdl bg H a xs := ⟨bag_not b h, e _ _ h⟩
theorem Rdl.keep (h : Rdl bg H a xs) (k : Keep bg H H') : Rdl bg H' a xs := ⟨h.1, k _ _ h.1 h.2⟩
theorem Rdl.sq (h : Rdl bg H a xs) : SqL K H a xs := .inl (.inl h.2)
end

def seqD : D → Wp (List D)
  | .list ds => ret ds
  | .tuple ds => ret ds
  | _ => nay

/-- a value, walked or asked as a sequence -/
theorem mq_val {Γ : G} {e : Expr} {en : En} {m : Wp D} (h : ME Γ e en m) : MQ Γ e en (bnd m seqD) := fun bg H0 σ H F r Q hm QQ k => by
  refine h bg H0 σ H F r _ hm QQ fun v d H' F' s hd q => ?_
  cases hd with
  | lst h1 h2 => exact k _ _ _ _ _ s (.inl (rdl_of s.bag s.ex h1)) h2 q
  | tup h1 h2 => exact k _ _ _ _ _ s (.inr h1) h2 q
  | non => exact q.elim
  | bl => exact q.elim
  | int => exact q.elim
  | str => exact q.elim
/-- a new list, asked -/
theorem mq_new {Γ : G} {e : Expr} {en : En} {m : Wp (List D)} (h : MFr Γ e en m) : MQ Γ e en m := fun bg H0 σ H F r Q hm QQ k => by
  refine h bg H0 σ H F r _ hm QQ fun a xs ds H' F' s n f ha hd q => ?_
  exact k _ _ _ _ _ s (.inl ⟨fresh_not r.bag n, ha⟩) hd q
/-- an own list of the frame's, asked -/
theorem mq_own {Γ : G} {x : Str} {pos : Pos} {en : En} {ds : List D} (i : Nat) (hN : Γ.N[i]? = some x) (hv : Vis Γ.sc x) (he : en[i]? = some (some (.own ds))) (hd : (x == ("__debug__" : Str)) = false := by decide) (hcd : (x == ("__classdict__" : Str)) = false := by decide) :
    MQ Γ (.Name x pos) en (ret ds) := by
  refine mq_of (t := tVar i) (fun X h => pe_var (by rw [h.N]; exact hN) (by rw [h.sc]; exact hv) hd hcd) fun bg H0 σ H F r Q hm QQ k => ?_
  obtain ⟨A, a⟩ := r.slots
  obtain ⟨h1, h2, h3, h4, xs, h5, h6⟩ := a.own i ds he
  exact ⟨_, h1, k _ _ _ _ _ r.refl (.inl ⟨h3, h5⟩) h6 hm⟩
/-- a new list, known from now on -/
theorem freeze {bg : Bg} {H F H' F' : Hp} {a : Addr} {xs : List V} (s : Step bg H F H' F') (n : H a = none) (nb : NotBag bg a) (f : F' a = none) (h : H' a = some (.lst xs)) : Step bg H F H' (upd F' a (.lst xs)) := by
  refine ⟨s.ff.trans fun b o e => ?_, fun b h1 h2 => ?_, s.kp, fun b o e => ?_, fun p q e => ?_⟩
  · rw [upd_ne (ne_of_none e f)]; exact e
  · by_cases hb : b = a
    · rw [hb]; exact n
    · rw [upd_ne hb] at h2
      exact s.new b h1 h2
  · by_cases hb : b = a
    · subst hb; rw [upd_same] at e; cases e; exact h
    · rw [upd_ne hb] at e; exact s.ex b o e
  · obtain ⟨h1, h2, h3, h4⟩ := s.bag p q e
    obtain ⟨n1, n2⟩ := nb p q e
    exact ⟨h1, by rw [upd_ne n1.symm]; exact h2, by rw [upd_ne n2.symm]; exact h3, h4⟩
theorem same_upd {F : Hp} {a : Addr} {o : HO} (f : F a = none) : Same F (upd F a o) := fun b u e => by
  rw [upd_ne (ne_of_none e f)]; exact e
theorem me_new {Γ : G} {e : Expr} {en : En} {m : Wp (List D)} (h : MFr Γ e en m) : ME Γ e en (bnd m fun ds => ret (.list ds)) := fun bg H0 σ H F r Q hm QQ k => by
  refine h bg H0 σ H F r _ hm QQ fun a xs ds H' F' s n f ha hd q => ?_
  exact k _ _ _ _ (freeze s n (fresh_not r.bag n) f ha) (.lst upd_same (dpa_mono (same_upd f) _ _ hd)) q

/-! ### names, constants -/
section
variable {Γ : G} {x : Str} {pos : Pos} {en : En}
theorem me_var {d : D} (i : Nat) (hN : Γ.N[i]? = some x) (hv : Vis Γ.sc x) (he : en[i]? = some (some (.val d))) (hd : (x == ("__debug__" : Str)) = false := by decide) (hcd : (x == ("__classdict__" : Str)) = false := by decide) :
    ME Γ (.Name x pos) en (ret d) := by
  refine me_of (t := tVar i) (fun X h => pe_var (by rw [h.N]; exact hN) (by rw [h.sc]; exact hv) hd hcd) fun bg H0 σ H F r Q hm QQ k => ?_
  obtain ⟨A, a⟩ := r.slots
  obtain ⟨v, h1, h2⟩ := a.val i d he
  exact ⟨v, h1, k _ _ _ _ r.refl h2 hm⟩
theorem ev_c {K : PySem.W.Frag} {v : V} {d : D} (h : ∀ F, Dq K F v d) : EV K (tC v) en (ret d) := fun bg H0 σ H F r Q hm QQ k => k _ _ _ _ r.refl (h F) hm
theorem me_int {i : Int} {j} : ME Γ (.Constant (.int i) j pos) en (ret (.int i)) := me_of (fun _ _ => pe_int) (ev_c fun _ => .int i)
theorem me_bl {i : Bool} {j} : ME Γ (.Constant (.bool i) j pos) en (ret (.bool i)) := me_of (fun _ _ => pe_bl) (ev_c fun _ => .bl i)
theorem me_non {j} : ME Γ (.Constant .none j pos) en (ret .none) := me_of (fun _ _ => pe_non) (ev_c fun _ => .non)
theorem me_str {i : Str} {j} : ME Γ (.Constant (.str i) j pos) en (ret (.str i)) := me_of (fun _ _ => pe_str) (ev_c fun _ => .str i)
end

/-! ### operators -/
/-- an operation on values, told over data -/
def RV (K : PySem.W.Frag) (r : R2) (f : D → D → Wp D) : Prop := ∀ (bg : Bg) (H F : Hp) (x y : V) (d e : D), Same F H → BagOk bg F H → Dq K F x d → Dq K F y e → ∀ Q, f d e Q → ∀ QQ : VK, (∀ v z H' F', Step bg H F H' F' → Dq K F' v z → Q z → QQ v H') → r x y H QQ
theorem ev_op {K : PySem.W.Frag} {r : R2} {ta tb : TE} {en : En} {m n : Wp D} {f : D → D → Wp D} (hr : RV K r f) (ha : EV K ta en m) (hb : EV K tb en n) : EV K (tOp r ta tb) en (bnd m fun a => bnd n fun b => f a b) := fun bg H0 σ H F rl Q hm QQ k =>
  ha bg H0 σ H F rl _ hm _ fun v d H1 F1 s1 hd q1 => hb bg H0 σ H1 F1 (rl.step s1) _ q1 _ fun u e H2 F2 s2 he q2 =>
    hr bg H2 F2 v u d e s2.ex s2.bag (dp_mono s2.ff _ _ hd) he Q q2 QQ fun w z H3 F3 s3 hz q3 => k w z H3 F3 (s1.trans (s2.trans s3)) hz q3
theorem ev_un {K : PySem.W.Frag} {r : V → Hp → VK → Prop} {ta : TE} {en : En} {m : Wp D} {f : D → Wp D} (hr : ∀ (bg : Bg) (H F : Hp) (x : V) (d : D), Same F H → BagOk bg F H → Dq K F x d → ∀ Q, f d Q → ∀ QQ : VK, (∀ v z H' F', Step bg H F H' F' → Dq K F' v z → Q z → QQ v H') → r x H QQ)
    (ha : EV K ta en m) : EV K (tUn r ta) en (bnd m f) := fun bg H0 σ H F rl Q hm QQ k =>
  ha bg H0 σ H F rl _ hm _ fun v d H1 F1 s1 hd q1 => hr bg H1 F1 v d s1.ex s1.bag hd Q q1 QQ fun w z H3 F3 s3 hz q3 => k w z H3 F3 (s1.trans s3) hz q3

/-- ints in -/
def intW (d : D) : Wp Int := match d with
  | .int i => ret i
  | _ => nay
def int2 (C : Int → Int → Prop) (g : Int → Int → D) : D → D → Wp D := fun a b => match a, b with
  | .int i, .int j => grd (C i j) (ret (g i j))
  | _, _ => nay
theorem rv_I {K : PySem.W.Frag} {C : Int → Int → Prop} {g : Int → Int → V} {g' : Int → Int → D} (h : ∀ i j F, Dq K F (g i j) (g' i j)) : RV K (rI C g) (int2 C g') := fun bg H F x y d e ex bk hx hy Q q QQ k => by
  cases hx <;> cases hy <;> first | exact q.elim | skip
  obtain ⟨c, q⟩ := q
  exact ⟨_, _, rfl, rfl, c, k _ _ _ _ (.refl ex bk) (h _ _ _) q⟩
theorem rv_I0 {K : PySem.W.Frag} {g : Int → Int → V} {g' : Int → Int → D} (h : ∀ i j F, Dq K F (g i j) (g' i j)) : RV K (rI0 g) (int2 (fun _ _ => True) g') := fun bg H F x y d e ex bk hx hy Q q QQ k => by
  cases hx <;> cases hy <;> first | exact q.elim | skip
  obtain ⟨c, q⟩ := q
  exact ⟨_, _, rfl, rfl, k _ _ _ _ (.refl ex bk) (h _ _ _) q⟩
def addI := int2 (fun _ _ => True) fun i j => .int (i + j)
def subI := int2 (fun _ _ => True) fun i j => .int (i - j)
def mulI := int2 CMulX fun i j => .int (i * j)
def fdivI := int2 CDivW fun i j => .int (i / j)
def modI := int2 (fun _ j => 0 < j) fun i j => .int (i % j)
def shlI := int2 CShl fun i j => .int (i * 2 ^ j.toNat)
def shrI := int2 (fun _ j => 0 ≤ j) fun i j => .int (i / 2 ^ j.toNat)
def andI := int2 (fun _ _ => True) fun i j => .int (Builtin.bitAnd i j)
def orI := int2 (fun _ _ => True) fun i j => .int (Builtin.bitOr i j)
def xorI := int2 (fun _ _ => True) fun i j => .int (Builtin.bitXor i j)
def powI := int2 CPow fun i j => .int (i ^ j.toNat)
section
variable {Γ : G} {a b : Expr} {pos : Pos} {en : En} {m n : Wp D}
theorem me_op {op : Operator} {r : R2} {f : D → D → Wp D} (ho : ∀ X, Γ.In X → OpR X (binaryOp op) r) (hr : RV Γ.K r f) (ha : ME Γ a en m) (hb : ME Γ b en n) : ME Γ (.BinOp a op b pos) en (bnd m fun x => bnd n fun y => f x y) :=
  me_of (fun X h => pe_op (ho X h) (cE_pe h a) (cE_pe h b)) (ev_op hr ha hb)
theorem me_add (ha : ME Γ a en m) (hb : ME Γ b en n) : ME Γ (.BinOp a .Add b pos) en (bnd m fun x => bnd n fun y => addI x y) := me_op (fun _ _ => op_add) (rv_I0 fun _ _ _ => .int _) ha hb
theorem me_sub (ha : ME Γ a en m) (hb : ME Γ b en n) : ME Γ (.BinOp a .Sub b pos) en (bnd m fun x => bnd n fun y => subI x y) := me_op (fun _ _ => op_sub) (rv_I0 fun _ _ _ => .int _) ha hb
theorem me_mul (ha : ME Γ a en m) (hb : ME Γ b en n) : ME Γ (.BinOp a .Mult b pos) en (bnd m fun x => bnd n fun y => mulI x y) := me_op (fun _ _ => op_mulX) (rv_I fun _ _ _ => .int _) ha hb
theorem me_fdiv (ha : ME Γ a en m) (hb : ME Γ b en n) : ME Γ (.BinOp a .FloorDiv b pos) en (bnd m fun x => bnd n fun y => fdivI x y) := me_op (fun _ _ => op_fdivW) (rv_I fun _ _ _ => .int _) ha hb
theorem me_mod (ha : ME Γ a en m) (hb : ME Γ b en n) : ME Γ (.BinOp a .Mod b pos) en (bnd m fun x => bnd n fun y => modI x y) := me_op (fun _ _ => op_mod) (rv_I fun _ _ _ => .int _) ha hb
theorem me_shl (ha : ME Γ a en m) (hb : ME Γ b en n) : ME Γ (.BinOp a .LShift b pos) en (bnd m fun x => bnd n fun y => shlI x y) := me_op (fun _ _ => op_shlW) (rv_I fun _ _ _ => .int _) ha hb
theorem me_shr (ha : ME Γ a en m) (hb : ME Γ b en n) : ME Γ (.BinOp a .RShift b pos) en (bnd m fun x => bnd n fun y => shrI x y) := me_op (fun _ _ => op_shr) (rv_I fun _ _ _ => .int _) ha hb
theorem me_and (ha : ME Γ a en m) (hb : ME Γ b en n) : ME Γ (.BinOp a .BitAnd b pos) en (bnd m fun x => bnd n fun y => andI x y) := me_op (fun _ _ => op_and) (rv_I0 fun _ _ _ => .int _) ha hb
theorem me_or (ha : ME Γ a en m) (hb : ME Γ b en n) : ME Γ (.BinOp a .BitOr b pos) en (bnd m fun x => bnd n fun y => orI x y) := me_op (fun _ _ => op_or) (rv_I0 fun _ _ _ => .int _) ha hb
theorem me_xor (ha : ME Γ a en m) (hb : ME Γ b en n) : ME Γ (.BinOp a .BitXor b pos) en (bnd m fun x => bnd n fun y => xorI x y) := me_op (fun _ _ => op_xor) (rv_I0 fun _ _ _ => .int _) ha hb
theorem me_pow (ha : ME Γ a en m) (hb : ME Γ b en n) : ME Γ (.BinOp a .Pow b pos) en (bnd m fun x => bnd n fun y => powI x y) := me_op (fun _ _ => op_pow) (rv_I fun _ _ _ => .int _) ha hb
def negI (d : D) : Wp D := match d with
  | .int i => ret (.int (-i))
  | _ => nay
def invI (d : D) : Wp D := match d with
  | .int i => ret (.int (Builtin.bitNot i))
  | _ => nay
theorem me_neg (ha : ME Γ a en m) : ME Γ (.UnaryOp .USub a pos) en (bnd m negI) := me_of (fun X h => pe_un un_neg (cE_pe h a)) (ev_un (fun bg H F x d ex bk hx Q q QQ k => by
  cases hx <;> first | exact q.elim | skip
  exact ⟨_, rfl, k _ _ _ _ (.refl ex bk) (.int _) q⟩) ha)
theorem me_inv (ha : ME Γ a en m) : ME Γ (.UnaryOp .Invert a pos) en (bnd m invI) := me_of (fun X h => pe_un un_inv (cE_pe h a)) (ev_un (fun bg H F x d ex bk hx Q q QQ k => by
  cases hx <;> first | exact q.elim | skip
  exact ⟨_, rfl, k _ _ _ _ (.refl ex bk) (.int _) q⟩) ha)
end
end PW

set_option Elab.async false
set_option linter.all false
set_option maxRecDepth 100000
set_option maxHeartbeats 4000000
namespace PW
open PySem PySem.Spec PyProof.Rows L2

/-! ### tests -/
def truthD (d : D) : Wp Bool := match d with
  | .none => ret false
  | .bool b => ret b
  | .int i => ret (i != 0)
  | .str y => grd (y.length ≤ sizeLine) (ret ((y.length : Int) != 0))
  | .list ds => ret (!ds.isEmpty)
  | .tuple ds => ret (!ds.isEmpty)
  | .dict _ => nay
/-- a value that is True or False -/
def boolD (d : D) : Wp Bool := match d with
  | .bool b => ret b
  | _ => nay
theorem dpa_empty {K : PySem.W.Frag} {H : Hp} {vs : List V} {ds : List D} (h : DqAll K H vs ds) : (!vs.isEmpty) = !ds.isEmpty := by
  cases h <;> rfl
section
variable {Γ : G} {a b c : Expr} {pos : Pos} {en : En} {m n : Wp D}
theorem units_of {X : Cx} (h : Γ.In X) : X.A.units + 1 < cLine := hu_of h.room
theorem units64 {X : Cx} (h : Γ.In X) : X.A.units + 100 < cLine := by have := h.room.un; omega
theorem mt_truth (ha : ME Γ a en m) (he : ∀ (X : Cx) whole, isTrue a X.env whole = (do let v ← whole; standAt a.pos; holding [v] (truthy v)) := by intros; rfl) : MT Γ a en (bnd m truthD) := by
  refine mt_of (fun X h => by have := pt_truth (cE_pe h a) (he X); rw [h.K] at this; exact this) fun bg H0 σ H F r Q hm QQ k => ?_
  refine ha bg H0 σ H F r _ hm _ fun v d H' F' s hd q => ?_
  cases hd with
  | non => exact ⟨false, rfl, k _ _ _ s q⟩
  | bl b => exact ⟨b, rfl, k _ _ _ s q⟩
  | int i => exact ⟨_, rfl, k _ _ _ s q⟩
  | str x => exact ⟨_, ⟨q.1, rfl⟩, k _ _ _ s q.2⟩
  | lst h1 h2 => exact ⟨_, .inl ⟨_, .inl (.inl (s.ex _ _ h1)), rfl⟩, k _ _ _ s (by rw [dpa_empty h2]; exact q)⟩
  | tup h1 h2 => exact ⟨_, .inr (.inl ⟨_, same_t s.ex h1, rfl⟩), k _ _ _ s (by rw [dpa_empty h2]; exact q)⟩
theorem mt_truthQ {m : Wp (List D)} (ha : MQ Γ a en m) (he : ∀ (X : Cx) whole, isTrue a X.env whole = (do let v ← whole; standAt a.pos; holding [v] (truthy v)) := by intros; rfl) : MT Γ a en (bnd m fun ds => ret (!ds.isEmpty)) := by
  refine mt_of (fun X h => by have := pt_truth (cE_pe h a) (he X); rw [h.K] at this; exact this) fun bg H0 σ H F r Q hm QQ k => ?_
  refine ha bg H0 σ H F r _ hm _ fun v xs ds H' F' s hr hd q => ?_
  rcases hr with h1 | h1
  · exact ⟨_, .inl ⟨_, Rdl.sq h1, rfl⟩, k _ _ _ s (by rw [dpa_empty hd]; exact q)⟩
  · exact ⟨_, .inr (.inl ⟨_, same_t s.ex h1, rfl⟩), k _ _ _ s (by rw [dpa_empty hd]; exact q)⟩
theorem mt_not {m : Wp Bool} (ha : MT Γ a en m) : MT Γ (.UnaryOp .Not a pos) en (bnd m fun x => ret (!x)) :=
  mt_of (fun X h => pt_not (cT_pt h a)) fun bg H0 σ H F r Q hm QQ k => ha bg H0 σ H F r _ hm _ fun b H' F' s q => k _ _ _ s q
theorem me_not (ha : ME Γ a en m) : ME Γ (.UnaryOp .Not a pos) en (bnd m fun d => bnd (boolD d) fun x => ret (.bool (!x))) :=
  me_of (fun X h => pe_not (cE_pe h a)) fun bg H0 σ H F r Q hm QQ k => ha bg H0 σ H F r _ hm _ fun v d H' F' s hd q => by
    cases hd <;> first | exact q.elim | skip
    exact ⟨_, rfl, k _ _ _ _ s (.bl _) q⟩
theorem me_one {op} (ha : ME Γ a en m) : ME Γ (.BoolOp op [a] pos) en m := me_of (fun X h => pe_one (cE_pe h a)) ha
theorem me_andB {rest : List Expr} (ha : ME Γ a en m) (hb : ME Γ (.BoolOp .And (b :: rest) pos) en n) : ME Γ (.BoolOp .And (a :: b :: rest) pos) en (bnd m fun d => bnd (boolD d) fun x => ifW x n (ret (.bool false))) :=
  me_of (fun X h => pe_and (cE_pe h a) (cE_pe h _)) fun bg H0 σ H F r Q hm QQ k => ha bg H0 σ H F r _ hm _ fun v d H' F' s hd q => by
    cases hd <;> first | exact q.elim | skip
    rename_i b
    refine ⟨_, rfl, ?_⟩
    cases b with
    | true => exact iteT (hb bg H0 σ H' F' (r.step s) Q q QQ fun v d H2 F2 s2 hd q2 => k _ _ _ _ (s.trans s2) hd q2)
    | false => exact iteF (k _ _ _ _ s (.bl _) q)
theorem me_orB {rest : List Expr} (ha : ME Γ a en m) (hb : ME Γ (.BoolOp .Or (b :: rest) pos) en n) : ME Γ (.BoolOp .Or (a :: b :: rest) pos) en (bnd m fun d => bnd (boolD d) fun x => ifW x (ret (.bool true)) n) :=
  me_of (fun X h => pe_or (cE_pe h a) (cE_pe h _)) fun bg H0 σ H F r Q hm QQ k => ha bg H0 σ H F r _ hm _ fun v d H' F' s hd q => by
    cases hd <;> first | exact q.elim | skip
    rename_i b
    refine ⟨_, rfl, ?_⟩
    cases b with
    | true => exact iteT (k _ _ _ _ s (.bl _) q)
    | false => exact iteF (hb bg H0 σ H' F' (r.step s) Q q QQ fun v d H2 F2 s2 hd q2 => k _ _ _ _ (s.trans s2) hd q2)
theorem mw_and1 {m : Wp Bool} (ha : MT Γ a en m) : MW Γ (.BoolOp .And [a] pos) en m :=
  mw_of (fun X h => pw_and1 (cT_pt h a)) ha
theorem mw_or1 {m : Wp Bool} (ha : MT Γ a en m) : MW Γ (.BoolOp .Or [a] pos) en m :=
  mw_of (fun X h => pw_or1 (cT_pt h a)) ha
theorem mw_and {m n : Wp Bool} {rest : List Expr} (ha : MT Γ a en m) (hb : MW Γ (.BoolOp .And (b :: rest) pos) en n) : MW Γ (.BoolOp .And (a :: b :: rest) pos) en (bnd m fun x => ifW x n (ret false)) :=
  mw_of (fun X h => pw_and (cT_pt h a) (cW_pw h _)) fun bg H0 σ H F r Q hm QQ k => ha bg H0 σ H F r _ hm _ fun b H' F' s q => by
    cases b with
    | true => exact iteT (hb bg H0 σ H' F' (r.step s) Q q QQ fun b H2 F2 s2 q2 => k _ _ _ (s.trans s2) q2)
    | false => exact iteF (k _ _ _ s q)
theorem mw_or {m n : Wp Bool} {rest : List Expr} (ha : MT Γ a en m) (hb : MW Γ (.BoolOp .Or (b :: rest) pos) en n) : MW Γ (.BoolOp .Or (a :: b :: rest) pos) en (bnd m fun x => ifW x (ret true) n) :=
  mw_of (fun X h => pw_or (cT_pt h a) (cW_pw h _)) fun bg H0 σ H F r Q hm QQ k => ha bg H0 σ H F r _ hm _ fun b H' F' s q => by
    cases b with
    | true => exact iteT (k _ _ _ s q)
    | false => exact iteF (hb bg H0 σ H' F' (r.step s) Q q QQ fun b H2 F2 s2 q2 => k _ _ _ (s.trans s2) q2)
theorem mt_w {m : Wp Bool} (h : MW Γ a en m) : MT Γ a en m := mt_of (fun X hX => (cW_pw hX a).pt) h
theorem me_ifE {m : Wp Bool} {n o : Wp D} (hc : MT Γ c en m) (ha : ME Γ a en n) (hb : ME Γ b en o) : ME Γ (.IfExp c a b pos) en (bnd m fun x => ifW x n o) :=
  me_of (fun X h => pe_ifExp (cT_pt h c) (cE_pe h a) (cE_pe h b)) fun bg H0 σ H F r Q hm QQ k => hc bg H0 σ H F r _ hm _ fun b H' F' s q => by
    cases b with
    | true => exact iteT (ha bg H0 σ H' F' (r.step s) Q q QQ fun v d H2 F2 s2 hd q2 => k _ _ _ _ (s.trans s2) hd q2)
    | false => exact iteF (hb bg H0 σ H' F' (r.step s) Q q QQ fun v d H2 F2 s2 hd q2 => k _ _ _ _ (s.trans s2) hd q2)
end

/-! ### new objects -/
section
variable {K : PySem.W.Frag} {bg : Bg} {H F : Hp} {p : Addr} {o : HO}
theorem free_of (e : Same F H) (n : H p = none) : F p = none := e.free n
theorem step_new (e : Same F H) (b : BagOk bg F H) (n : H p = none) : Step bg H F (upd H p o) (upd F p o) := by
  have f := free_of e n
  refine ⟨same_upd f, fun a h1 h2 => ?_, fun a u _ h => ?_, fun a u h => ?_, fun x y h => ?_⟩
  · by_cases ha : a = p
    · rw [ha]; exact n
    · rw [upd_ne ha] at h2; exact absurd h1 h2
  · rw [upd_ne (ne_of_none h n)]; exact h
  · by_cases ha : a = p
    · subst ha; rw [upd_same] at h ⊢; exact h
    · rw [upd_ne ha] at h ⊢; exact e _ _ h
  · obtain ⟨h1, h2, h3, cs, c, m, h4, h5, h6⟩ := b x y h
    have n1 : x ≠ p := ne_of_none h4 n
    have n2 : y ≠ p := ne_of_none h5 n
    exact ⟨h1, by rw [upd_ne n1]; exact h2, by rw [upd_ne n2]; exact h3, cs, c, m, by rw [upd_ne n1]; exact h4, by rw [upd_ne n2]; exact h5, h6⟩
/-- a new object that nobody knows yet -/
theorem step_own (e : Same F H) (b : BagOk bg F H) (n : H p = none) : Step bg H F (upd H p o) F := by
  refine ⟨.refl F, fun a h1 h2 => absurd h1 h2, fun a u _ h => ?_, fun a u h => ?_, fun x y h => ?_⟩
  · rw [upd_ne (ne_of_none h n)]; exact h
  · rw [upd_ne (ne_of_none (e _ _ h) n)]; exact e _ _ h
  · obtain ⟨h1, h2, h3, cs, c, m, h4, h5, h6⟩ := b x y h
    exact ⟨h1, h2, h3, cs, c, m, by rw [upd_ne (ne_of_none h4 n)]; exact h4, by rw [upd_ne (ne_of_none h5 n)]; exact h5, h6⟩
/-- a fresh address stays fresh for who came before -/
theorem Step.freshB {H' F' : Hp} (s : Step bg H F H' F') (b : BagOk bg F H) (n : H' p = none) : H p = none := by
  cases e : H p with
  | none => rfl
  | some u =>
    have := s.kp p u (fresh_not s.bag n) e
    rw [n] at this
    cases this
end

/-! ### displays -/
section
variable {Γ : G} {e : Expr} {es : List Expr} {pos : Pos} {en : En} {m : Wp D} {n : Wp (List D)}
theorem ma_nil : MA Γ [] en (ret []) := ma_of (fun _ _ => pa_nil) fun bg H0 σ H F r Q hm QQ k => k _ _ _ _ r.refl .nil hm
theorem ma_cons (h : ME Γ e en m) (hr : MA Γ es en n) (hs : ∀ X : Cx, starEach (e :: es) X.env = (false, eval e X.env) :: starEach es X.env := by intro _; rfl) : MA Γ (e :: es) en (bnd m fun x => bnd n fun xs => ret (x :: xs)) :=
  ma_of (fun X hX => pa_cons (cE_pe hX e) (cA_pa hX es) (hs X)) fun bg H0 σ H F r Q hm QQ k => h bg H0 σ H F r _ hm _ fun v d H1 F1 s1 hd q1 =>
    hr bg H0 σ H1 F1 (r.step s1) _ q1 _ fun vs ds H2 F2 s2 hds q2 => k _ _ _ _ (s1.trans s2) (.cons (dp_mono s2.ff _ _ hd) hds) q2
theorem me_tup {x1} (h : MA Γ es en n) : ME Γ (.Tuple es x1 pos) en (bnd n fun ds => grd (ds.length ≤ sizeLine) (ret (.tuple ds))) :=
  me_of (fun X hX => pe_tup (cA_pa hX es)) fun bg H0 σ H F r Q hm QQ k => h bg H0 σ H F r _ hm _ fun vs ds H1 F1 s1 hd q1 =>
    ⟨by rw [dpa_len hd]; exact q1.1, fun p hp => k _ _ _ _ (s1.trans (step_new s1.ex s1.bag hp)) (.tup (.inl (.inl upd_same)) (dpa_mono (same_upd (free_of s1.ex hp)) _ _ hd)) q1.2⟩
theorem mf_lst (h : MA Γ es en n) : MFr Γ (.List es pos) en (bnd n fun ds => grd (ds.length ≤ sizeLine) (ret ds)) :=
  mf_of (fun X hX => pe_lst (cA_pa hX es)) fun bg H0 σ H F r Q hm QQ k => h bg H0 σ H F r _ hm _ fun vs ds H1 F1 s1 hd q1 =>
    ⟨by rw [dpa_len hd]; exact q1.1, fun p hp => k _ _ _ _ _ (s1.trans (step_own s1.ex s1.bag hp)) (s1.freshB r.bag hp) (free_of s1.ex hp) upd_same hd q1.2⟩
end

/-! ### subscripts -/
def ixW (ds : List D) (d : D) : Wp D := match d with
  | .int i => match atI ds i with
    | some x => ret x
    | none => nay
  | _ => nay
theorem atI_dq {K : PySem.W.Frag} {H : Hp} {xs : List V} {ds : List D} {i : Int} {d : D} (h : DqAll K H xs ds) (e : atI ds i = some d) : ∃ v, atI xs i = some v ∧ Dq K H v d := by
  unfold atI at e ⊢
  rw [dpa_len h]
  cases q : ixN ds.length i with
  | none => rw [q] at e; cases e
  | some j =>
    rw [q] at e
    exact dpa_get' h e
section
variable {Γ : G} {a b : Expr} {pos : Pos} {en : En} {m : Wp (List D)} {n : Wp D}
theorem me_ix (ha : MQ Γ a en m) (hb : ME Γ b en n) (hs : PlainIx b := by intro _ _; rfl) : ME Γ (.Subscript a b pos) en (bnd m fun ds => bnd n fun i => ixW ds i) :=
  me_of (t := tOp (fun x y H Q => rIxL Γ.K x y H Q ∨ rIxT Γ.K x y H Q) (cE Γ a) (cE Γ b)) (fun X h => by have := pe_ix (pos := pos) (ix_list.or ix_tup) (cE_pe h a) (cE_pe h b) hs; rw [h.K] at this; exact this) fun bg H0 σ H F r Q hm QQ k => ha bg H0 σ H F r _ hm _ fun p xs ds H1 F1 s1 hr hd q1 =>
    hb bg H0 σ H1 F1 (r.step s1) _ q1 _ fun y e H2 F2 s2 he q2 => by
      cases he <;> first | exact q2.elim | skip
      rename_i i
      unfold ixW at q2
      cases z : atI ds i with
      | none => simp only [z] at q2; exact q2.elim
      | some d =>
        simp only [z] at q2
        obtain ⟨v, h1, h2⟩ := atI_dq hd z
        rcases hr with hr | hr
        · exact Or.inl ⟨p, xs, i, v, rfl, rfl, Rdl.sq (Rdl.keep hr s2.kp), h1, k _ _ _ _ (s1.trans s2) (dp_mono s2.ff _ _ h2) q2⟩
        · exact Or.inr ⟨p, xs, i, v, rfl, rfl, same_t s2.ex (same_t s2.ff hr), h1, k _ _ _ _ (s1.trans s2) (dp_mono s2.ff _ _ h2) q2⟩
end

/-! ### comparisons -/
def cmpI (p : Int → Int → Bool) : D → D → Wp D := int2 (fun _ _ => True) fun i j => .bool (p i j)
def ltI := cmpI fun i j => decide (i < j)
def leI := cmpI fun i j => decide (i ≤ j)
def gtI := cmpI fun i j => decide (i > j)
def geI := cmpI fun i j => decide (i ≥ j)
def eqD (x y : D) : Wp D := grd (SeqAt.shaped x = true ∧ SeqAt.shaped y = true) (ret (.bool (PyData.eqv x y)))
def neD (x y : D) : Wp D := grd (SeqAt.shaped x = true ∧ SeqAt.shaped y = true) (ret (.bool (!PyData.eqv x y)))
def isN (x : D) : Bool := match x with
  | .none => true
  | _ => false
section
variable {Γ : G} {a b c : Expr} {pos : Pos} {en : En} {m n o : Wp D} {ml : Wp (List D)}
theorem rv_eq {K : PySem.W.Frag} : RV K (rEqD K) eqD := fun bg H F x y d e ex bk hx hy Q q QQ k =>
  ⟨d, e, dq_dp _ _ (dp_mono ex _ _ hx), dq_dp _ _ (dp_mono ex _ _ hy), q.1.1, q.1.2, k _ _ _ _ (.refl ex bk) (.bl _) q.2⟩
theorem rv_ne {K : PySem.W.Frag} : RV K (rNeD K) neD := fun bg H F x y d e ex bk hx hy Q q QQ k =>
  ⟨d, e, dq_dp _ _ (dp_mono ex _ _ hx), dq_dp _ _ (dp_mono ex _ _ hy), q.1.1, q.1.2, k _ _ _ _ (.refl ex bk) (.bl _) q.2⟩
theorem me_cmp {op : CmpOp} {r : R2} {f : D → D → Wp D} (ho : ∀ X, Γ.In X → OpR X (compareOp op) r) (hr : RV Γ.K r f) (ha : ME Γ a en m) (hb : ME Γ b en n) (hm : behindInMarks op b = false) : ME Γ (.Compare a [op] [b] pos) en (bnd m fun x => bnd n fun y => f x y) :=
  me_of (fun X h => pe_cmpR (ho X h) (cE_pe h a) (cE_pe h b) hm) (ev_op hr ha hb)
theorem mt_cmp {op : CmpOp} {r : R2} {f : D → D → Wp D} (ho : ∀ X, Γ.In X → OpR X (compareOp op) r) (hr : RV Γ.K r f) (ha : ME Γ a en m) (hb : ME Γ b en n) (hm : behindInMarks op b = false) : MT Γ (.Compare a [op] [b] pos) en (bnd (bnd m fun x => bnd n fun y => f x y) boolD) :=
  mt_of (fun X h => pt_cmpR (ho X h) (cE_pe h a) (cE_pe h b) hm) fun bg H0 σ H F r Q hm QQ k => ev_op hr ha hb bg H0 σ H F r _ hm _ fun v d H' F' s hd q => by
    cases hd <;> first | exact q.elim | skip
    exact ⟨_, rfl, k _ _ _ s q⟩
theorem in_eqD : ∀ X, Γ.In X → OpR X (compareOp .Eq) (rEqD Γ.K) := fun X h => by have := op_eqD (X := X) (by have := units64 h; omega); rw [h.K] at this; exact this
theorem in_neD : ∀ X, Γ.In X → OpR X (compareOp .NotEq) (rNeD Γ.K) := fun X h => by have := op_neD (X := X) (by have := units64 h; omega); rw [h.K] at this; exact this
theorem rv_cmp {K : PySem.W.Frag} {p : Int → Int → Bool} : RV K (rI0 fun i j => .bl (p i j)) (cmpI p) := rv_I0 fun _ _ _ => .bl _
theorem me_lt (ha : ME Γ a en m) (hb : ME Γ b en n) : ME Γ (.Compare a [.Lt] [b] pos) en (bnd m fun x => bnd n fun y => ltI x y) := me_cmp (fun _ _ => op_lt) rv_cmp ha hb (nomark _)
theorem me_le (ha : ME Γ a en m) (hb : ME Γ b en n) : ME Γ (.Compare a [.LtE] [b] pos) en (bnd m fun x => bnd n fun y => leI x y) := me_cmp (fun _ _ => op_le) rv_cmp ha hb (nomark _)
theorem me_gt (ha : ME Γ a en m) (hb : ME Γ b en n) : ME Γ (.Compare a [.Gt] [b] pos) en (bnd m fun x => bnd n fun y => gtI x y) := me_cmp (fun _ _ => op_gt) rv_cmp ha hb (nomark _)
theorem me_ge (ha : ME Γ a en m) (hb : ME Γ b en n) : ME Γ (.Compare a [.GtE] [b] pos) en (bnd m fun x => bnd n fun y => geI x y) := me_cmp (fun _ _ => op_ge) rv_cmp ha hb (nomark _)
theorem me_eq (ha : ME Γ a en m) (hb : ME Γ b en n) : ME Γ (.Compare a [.Eq] [b] pos) en (bnd m fun x => bnd n fun y => eqD x y) := me_cmp in_eqD rv_eq ha hb (nomark _)
theorem me_ne (ha : ME Γ a en m) (hb : ME Γ b en n) : ME Γ (.Compare a [.NotEq] [b] pos) en (bnd m fun x => bnd n fun y => neD x y) := me_cmp in_neD rv_ne ha hb (nomark _)
theorem mt_lt (ha : ME Γ a en m) (hb : ME Γ b en n) : MT Γ (.Compare a [.Lt] [b] pos) en (bnd (bnd m fun x => bnd n fun y => ltI x y) boolD) := mt_cmp (fun _ _ => op_lt) rv_cmp ha hb (nomark _)
theorem mt_le (ha : ME Γ a en m) (hb : ME Γ b en n) : MT Γ (.Compare a [.LtE] [b] pos) en (bnd (bnd m fun x => bnd n fun y => leI x y) boolD) := mt_cmp (fun _ _ => op_le) rv_cmp ha hb (nomark _)
theorem mt_gt (ha : ME Γ a en m) (hb : ME Γ b en n) : MT Γ (.Compare a [.Gt] [b] pos) en (bnd (bnd m fun x => bnd n fun y => gtI x y) boolD) := mt_cmp (fun _ _ => op_gt) rv_cmp ha hb (nomark _)
theorem mt_ge (ha : ME Γ a en m) (hb : ME Γ b en n) : MT Γ (.Compare a [.GtE] [b] pos) en (bnd (bnd m fun x => bnd n fun y => geI x y) boolD) := mt_cmp (fun _ _ => op_ge) rv_cmp ha hb (nomark _)
theorem mt_eq (ha : ME Γ a en m) (hb : ME Γ b en n) : MT Γ (.Compare a [.Eq] [b] pos) en (bnd (bnd m fun x => bnd n fun y => eqD x y) boolD) := mt_cmp in_eqD rv_eq ha hb (nomark _)
theorem mt_ne (ha : ME Γ a en m) (hb : ME Γ b en n) : MT Γ (.Compare a [.NotEq] [b] pos) en (bnd (bnd m fun x => bnd n fun y => neD x y) boolD) := mt_cmp in_neD rv_ne ha hb (nomark _)
end
end PW

set_option Elab.async false
set_option linter.all false
set_option maxRecDepth 100000
set_option maxHeartbeats 4000000
namespace PW
open PySem PySem.Spec PyProof.Rows L2

/-! ### a value of a kind: for good, or a new list of one's own -/
def SvOk (K : PySem.W.Frag) (H H' F' : Hp) (v : V) : SV → Prop
  | .val d => Dq K F' v d
  | .own ds => ∃ a xs, v = .ref a ∧ H a = none ∧ F' a = none ∧ H' a = some (.lst xs) ∧ DqAll K F' xs ds
  | .bag => False
def XV {α : Type} (K : PySem.W.Frag) (te : TE) (en : En) (inj : α → SV) (m : Wp α) : Prop := ∀ (bg : Bg) (H0 : Hp) (σ : L2.St) (H F : Hp), Rel K bg H0 en σ H F → ∀ Q : α → Prop, m Q → ∀ QQ : VK,
  (∀ v a H' F', Step bg H F H' F' → SvOk K H H' F' v (inj a) → Q a → QQ v H') → te σ H QQ
def MX {α : Type} (Γ : G) (e : Expr) (en : En) (inj : α → SV) (m : Wp α) : Prop := XV Γ.K (cE Γ e) en inj m
theorem mx_val {Γ : G} {e : Expr} {en : En} {m : Wp D} (h : ME Γ e en m) : MX Γ e en SV.val m := fun bg H0 σ H F r Q hm QQ k => h bg H0 σ H F r Q hm QQ fun v d H' F' s hd q => k v d H' F' s hd q
theorem mx_own {Γ : G} {e : Expr} {en : En} {m : Wp (List D)} (h : MFr Γ e en m) : MX Γ e en SV.own m := fun bg H0 σ H F r Q hm QQ k => h bg H0 σ H F r Q hm QQ fun a xs ds H' F' s n f ha hd q => k _ _ H' F' s ⟨a, xs, rfl, n, f, ha, hd⟩ q

theorem svok_step {K : PySem.W.Frag} {bg : Bg} {H H1 F1 H2 F2 : Hp} {v : V} {sv : SV} (b : BagOk bg F1 H1) (s : Step bg H1 F1 H2 F2) (hb : ∀ a, H a = none → NotBag bg a) (h : SvOk K H H1 F1 v sv) : SvOk K H H2 F2 v sv := by
  cases sv with
  | val d => exact dp_mono s.ff _ _ h
  | own ds =>
    obtain ⟨a, xs, rfl, n, f, ha, hd⟩ := h
    refine ⟨a, xs, rfl, n, ?_, s.kp _ _ (hb a n) ha, dpa_mono s.ff _ _ hd⟩
    cases q : F2 a with
    | none => rfl
    | some o =>
      have := s.new _ f (by rw [q]; simp)
      rw [ha] at this
      cases this
  | bag => exact h
/-- a slot is stored -/
theorem Rel.set {K : PySem.W.Frag} {bg : Bg} {H0 : Hp} {en : En} {σ : L2.St} {H F H' F' : Hp} {v : V} {sv : SV} (r : Rel K bg H0 en σ H F) (s : Step bg H F H' F') (fr : ∀ a, H a = none → H0 a = none) (h : SvOk K H H' F' v sv) (i : Nat) :
    Rel K bg H0 (en.set i (some sv)) (σ.set i (some v)) H' F' := by
  have r' := r.step s
  obtain ⟨A, a⟩ := r.slots
  have hfix : ∀ (j : Nat) (ds : List D), j ≠ i → en[j]? = some (some (.own ds)) → (σ.set i (some v))[j]? = some (some (.ref (A j))) ∧ F' (A j) = none ∧ NotBag bg (A j) ∧ H0 (A j) = none ∧ ∃ xs, H' (A j) = some (.lst xs) ∧ DqAll K F' xs ds := fun j ds hj e => by
    obtain ⟨h1, h2, h3, h4, xs, h5, h6⟩ := a.own j ds e
    refine ⟨by rw [List.getElem?_set_ne (Ne.symm hj)]; exact h1, ?_, h3, h4, xs, s.kp _ _ h3 h5, dpa_mono s.ff _ _ h6⟩
    cases q : F' (A j) with
    | none => rfl
    | some o =>
      have := s.new _ h2 (by rw [q]; simp)
      rw [h5] at this
      cases this
  have key : ∀ (j : Nat) (x : SV), (en.set i (some sv))[j]? = some (some x) → (j = i ∧ i < en.length ∧ x = sv) ∨ (j ≠ i ∧ en[j]? = some (some x)) := fun j x e => by
    by_cases hj : j = i
    · subst hj
      by_cases hl : j < en.length
      · rw [List.getElem?_set_self hl] at e
        exact .inl ⟨rfl, hl, (Option.some.inj (Option.some.inj e)).symm⟩
      · rw [List.getElem?_eq_none (by simpa using hl)] at e
        cases e
    · rw [List.getElem?_set_ne (Ne.symm hj)] at e
      exact .inr ⟨hj, e⟩
  have selfσ : i < en.length → (σ.set i (some v))[i]? = some (some v) := fun hl => by
    rw [List.getElem?_set_self (by rw [a.len]; exact hl)]
  refine ⟨s.ex, s.bag, ?_⟩
  cases sv with
  | val d =>
    refine ⟨A, by simpa using a.len, fun j x e => ?_, fun j ds e => ?_, fun j l ds es e1 e2 ne => ?_, fun j e => ?_⟩
    · rcases key j _ e with ⟨rfl, hl, q⟩ | ⟨hj, q⟩
      · cases q
        exact ⟨v, selfσ hl, h⟩
      · obtain ⟨u, h1, h2⟩ := a.val j x q
        exact ⟨u, by rw [List.getElem?_set_ne (Ne.symm hj)]; exact h1, dp_mono s.ff _ _ h2⟩
    · rcases key j _ e with ⟨rfl, hl, q⟩ | ⟨hj, q⟩
      · cases q
      · exact hfix j ds hj q
    · rcases key j _ e1 with ⟨rfl, hl, q⟩ | ⟨hj, q⟩
      · cases q
      · rcases key l _ e2 with ⟨rfl, hl, q'⟩ | ⟨hl, q'⟩
        · cases q'
        · exact a.apart j l ds es q q' ne
    · rcases key j _ e with ⟨rfl, hl, q⟩ | ⟨hj, q⟩
      · cases q
      · obtain ⟨p, q', h1, h2⟩ := a.bgs j q
        exact ⟨p, q', h1, by rw [List.getElem?_set_ne (Ne.symm hj)]; exact h2⟩
  | own ds0 =>
    obtain ⟨b, xs0, rfl, n0, f0, ha0, hd0⟩ := h
    have nb : NotBag bg b := fresh_not r.bag n0
    have apartB : ∀ (j : Nat) (ds : List D), en[j]? = some (some (.own ds)) → A j ≠ b := fun j ds e z => by
      obtain ⟨_, _, _, _, xs, h5, _⟩ := a.own j ds e
      rw [z, n0] at h5
      cases h5
    refine ⟨fun j => if j = i then b else A j, by simpa using a.len, fun j x e => ?_, fun j ds e => ?_, fun j l ds es e1 e2 ne => ?_, fun j e => ?_⟩
    · rcases key j _ e with ⟨rfl, hl, q⟩ | ⟨hj, q⟩
      · cases q
      · obtain ⟨u, h1, h2⟩ := a.val j x q
        exact ⟨u, by rw [List.getElem?_set_ne (Ne.symm hj)]; exact h1, dp_mono s.ff _ _ h2⟩
    · rcases key j _ e with ⟨rfl, hl, q⟩ | ⟨hj, q⟩
      · cases q
        simp only [if_true]
        exact ⟨selfσ hl, f0, nb, fr _ n0, xs0, ha0, hd0⟩
      · simp only [if_neg hj]
        exact hfix j ds hj q
    · rcases key j _ e1 with ⟨rfl, hl, q⟩ | ⟨hj, q⟩
      · rcases key l _ e2 with ⟨rfl, hl, q'⟩ | ⟨hl, q'⟩
        · exact absurd rfl ne
        · simp only [if_true, if_neg hl]
          exact (apartB l es q').symm
      · rcases key l _ e2 with ⟨rfl, hl, q'⟩ | ⟨hl, q'⟩
        · simp only [if_true, if_neg hj]
          exact apartB j ds q
        · simp only [if_neg hj, if_neg hl]
          exact a.apart j l ds es q q' ne
    · rcases key j _ e with ⟨rfl, hl, q⟩ | ⟨hj, q⟩
      · cases q
      · obtain ⟨p, q', h1, h2⟩ := a.bgs j q
        exact ⟨p, q', h1, by rw [List.getElem?_set_ne (Ne.symm hj)]; exact h2⟩
  | bag => exact False.elim h

/-! ### weaker knowledge of the slots -/
inductive Wk : En → En → Prop
  | nil : Wk [] []
  | drop {x : Option SV} {a b : En} : Wk a b → Wk (none :: a) (x :: b)
  | keep {x : Option SV} {a b : En} : Wk a b → Wk (x :: a) (x :: b)
theorem Wk.len : ∀ {a b : En}, Wk a b → a.length = b.length
  | _, _, .nil => rfl
  | _, _, .drop h => by rw [List.length_cons, List.length_cons, h.len]
  | _, _, .keep h => by rw [List.length_cons, List.length_cons, h.len]
theorem Wk.get : ∀ {a b : En} {i : Nat} {x : SV}, Wk a b → a[i]? = some (some x) → b[i]? = some (some x)
  | _, _, _, _, .nil, e => by simp at e
  | _, _, 0, _, .drop _, e => by simp at e
  | _, _, i + 1, _, .drop h, e => by simpa using Wk.get (i := i) h (by simpa using e)
  | _, _, 0, _, .keep _, e => by simpa using e
  | _, _, i + 1, _, .keep h, e => by simpa using Wk.get (i := i) h (by simpa using e)
theorem Wk.refl : ∀ (a : En), Wk a a
  | [] => .nil
  | _ :: a => .keep (Wk.refl a)
theorem Rel.weak {K : PySem.W.Frag} {bg : Bg} {H0 : Hp} {en en' : En} {σ : L2.St} {H F : Hp} (r : Rel K bg H0 en σ H F) (w : Wk en' en) : Rel K bg H0 en' σ H F := by
  obtain ⟨A, a⟩ := r.slots
  exact ⟨r.ex, r.bag, A, by rw [w.len]; exact a.len, fun i d e => a.val i d (w.get e), fun i ds e => a.own i ds (w.get e), fun i j ds es e1 e2 => a.apart i j ds es (w.get e1) (w.get e2), fun i e => a.bgs i (w.get e)⟩

/-! ### statements -/
inductive Fl (S T : Type) where
  | nx (s : S) | rt (d : D) | bk (t : T) | ct (t : T)
def SD {S T : Type} (K : PySem.W.Frag) (t : TS) (en : En) (m : Wp (Fl S T)) (enc : S → En) (ent : T → En) : Prop := ∀ (bg : Bg) (H0 F0 : Hp) (σ : L2.St) (H F : Hp), Rel K bg H0 en σ H F → Step bg H0 F0 H F → BagOk bg F0 H0 → ∀ Q : Fl S T → Prop, m Q → ∀ Dn : Ends,
  (∀ s σ' H' F', Rel K bg H0 (enc s) σ' H' F' → Step bg H0 F0 H' F' → Q (.nx s) → Dn.nx σ' H') →
  (∀ v d H' F', Step bg H0 F0 H' F' → Dq K F' v d → Q (.rt d) → Dn.rt v H') →
  (∀ s σ' H' F', Rel K bg H0 (ent s) σ' H' F' → Step bg H0 F0 H' F' → Q (.bk s) → Dn.bk σ' H') →
  (∀ s σ' H' F', Rel K bg H0 (ent s) σ' H' F' → Step bg H0 F0 H' F' → Q (.ct s) → Dn.ct σ' H') → t Dn σ H
def MS {S T : Type} (Γ : G) (ss : List Stmt) (en : En) (m : Wp (Fl S T)) (enc : S → En) (ent : T → En) : Prop := SD Γ.K (cS Γ ss) en m enc ent
theorem ms_of {S T : Type} {Γ : G} {ss : List Stmt} {en : En} {m : Wp (Fl S T)} {enc : S → En} {ent : T → En} {t : TS} (h : ∀ X, Γ.In X → PSs X ss t) (q : SD Γ.K t en m enc ent) : MS Γ ss en m enc ent :=
  fun bg H0 F0 σ H F r s b Q hm Dn k1 k2 k3 k4 => ⟨t, h, q bg H0 F0 σ H F r s b Q hm Dn k1 k2 k3 k4⟩
/-- fresh now, fresh at the entry -/
theorem fr_of {bg : Bg} {H0 F0 H F : Hp} (s : Step bg H0 F0 H F) (b : BagOk bg F0 H0) : ∀ a, H a = none → H0 a = none := fun a h => s.freshB b h
section
variable {S T : Type} {Γ : G} {en : En} {enc : S → En} {ent : T → En} {rest : List Stmt} {pos : Pos}
theorem ms_nil {s : S} (h : Wk (enc s) en) : MS Γ [] en (ret (.nx s)) enc ent := ms_of (fun _ _ => pss_nil) fun bg H0 F0 σ H F r st b Q hm Dn k1 _ _ _ => k1 s σ H F (r.weak h) st hm
theorem ms_break {s : T} (h : Wk (ent s) en) : MS Γ (.Break pos :: rest) en (ret (.bk s)) enc ent := ms_of (fun _ _ => pss_cons ps_break pss_never) fun bg H0 F0 σ H F r st b Q hm Dn _ _ k3 _ => k3 s σ H F (r.weak h) st hm
theorem ms_cont {s : T} (h : Wk (ent s) en) : MS Γ (.Continue pos :: rest) en (ret (.ct s)) enc ent := ms_of (fun _ _ => pss_cons ps_continue pss_never) fun bg H0 F0 σ H F r st b Q hm Dn _ _ _ k4 => k4 s σ H F (r.weak h) st hm
theorem ms_ret {e : Expr} {m : Wp D} (he : ME Γ e en m) : MS Γ (.Return (some e) pos :: rest) en (bnd m fun d => ret (.rt d)) enc ent :=
  ms_of (fun X h => pss_cons (ps_ret (cE_pe h e)) pss_never) fun bg H0 F0 σ H F r st b Q hm Dn _ k2 _ _ => he bg H0 σ H F r _ hm _ fun v d H' F' s hd q => k2 v d H' F' (st.trans s) hd q
theorem ms_pass {m : Wp (Fl S T)} (hr : MS Γ rest en m enc ent) : MS Γ (.Pass pos :: rest) en m enc ent :=
  ms_of (fun X h => pss_cons ps_pass (cS_ps h rest)) fun bg H0 F0 σ H F r st b Q hm Dn k1 k2 k3 k4 => hr bg H0 F0 σ H F r st b Q hm Dn k1 k2 k3 k4
/-- x = e -/
theorem ms_asg {α : Type} {x : Str} {e : Expr} {px : Pos} {inj : α → SV} {m : Wp α} {k : α → Wp (Fl S T)} (i : Nat) (nd : Γ.N.Nodup) (hi : Γ.N[i]? = some x) (hx : Loc Γ.sc x) (he : MX Γ e en inj m) (hr : ∀ a, MS Γ rest (en.set i (some (inj a))) (k a) enc ent)
    (hf : Γ.own x = true ∨ Γ.sc.names.lookup x = some .local := by first | exact .inl rfl | exact .inr rfl) (hs : ∀ v : PySem.Env, v.scope = Γ.sc → swapsWith e (some (.Name x px)) pos.line v = pure false := by intro _ _; rfl) : MS Γ (.Assign [.Name x px] e pos :: rest) en (bnd m k) enc ent :=
  ms_of (fun X h => pss_cons (ps_set (i := i) (by rw [h.N]; exact nd) (by rw [h.N]; exact hi) (by rw [h.sc]; exact hx) (cE_pe h e) (hs _ h.sc) (by rw [h.fn, h.sc]; exact hf)) (cS_ps h rest)) fun bg H0 F0 σ H F r st b Q hm Dn k1 k2 k3 k4 =>
    he bg H0 σ H F r _ hm _ fun v a H' F' s hv q => hr a bg H0 F0 _ H' F' (r.set s (fr_of st b) hv i) (st.trans s) b Q q Dn k1 k2 k3 k4
/-- an expression whose value is dropped -/
theorem ms_expr {α : Type} {e : Expr} {inj : α → SV} {m : Wp α} {k : α → Wp (Fl S T)} (he : MX Γ e en inj m) (hr : ∀ a, MS Γ rest en (k a) enc ent) (hs : ∀ X : Cx, swapsWith e none pos.line X.env = pure false := by intro _; rfl) : MS Γ (.Expr e pos :: rest) en (bnd m k) enc ent :=
  ms_of (fun X h => pss_cons (ps_expr (cE_pe h e) (hs X)) (cS_ps h rest)) fun bg H0 F0 σ H F r st b Q hm Dn k1 k2 k3 k4 =>
    he bg H0 σ H F r _ hm _ fun v a H' F' s hv q => hr a bg H0 F0 _ H' F' (r.step s) (st.trans s) b Q q Dn k1 k2 k3 k4
/-- what follows, by a block's end -/
def thenF {S' : Type} (k : S' → Wp (Fl S T)) : Fl S' T → Wp (Fl S T)
  | .nx s => k s
  | .rt d => ret (.rt d)
  | .bk t => ret (.bk t)
  | .ct t => ret (.ct t)
theorem ms_if {S' : Type} {c : Expr} {a b : List Stmt} {mc : Wp Bool} {ma mb : Wp (Fl S' T)} {k : S' → Wp (Fl S T)} (en1 : S' → En) (hc : MT Γ c en mc) (ha : MS Γ a en ma en1 ent) (hb : MS Γ b en mb en1 ent) (hr : ∀ s, MS Γ rest (en1 s) (k s) enc ent) :
    MS Γ (.If c a b pos :: rest) en (bnd mc fun x => bnd (ifW x ma mb) (thenF k)) enc ent :=
  ms_of (fun X h => pss_cons (ps_if (cT_pt h c) (cS_ps h a) (cS_ps h b)) (cS_ps h rest)) fun bg H0 F0 σ H F r st bk Q hm Dn k1 k2 k3 k4 => hc bg H0 σ H F r _ hm _ fun x H1 F1 s1 q1 => by
    cases x with
    | true => exact iteT (ha bg H0 F0 σ H1 F1 (r.step s1) (st.trans s1) bk _ q1 _ (fun s σ' H' F' r' st' q' => hr s bg H0 F0 σ' H' F' r' st' bk Q q' Dn k1 k2 k3 k4) (fun v d H' F' st' hd q' => k2 v d H' F' st' hd q') (fun s σ' H' F' r' st' q' => k3 s σ' H' F' r' st' q') (fun s σ' H' F' r' st' q' => k4 s σ' H' F' r' st' q'))
    | false => exact iteF (hb bg H0 F0 σ H1 F1 (r.step s1) (st.trans s1) bk _ q1 _ (fun s σ' H' F' r' st' q' => hr s bg H0 F0 σ' H' F' r' st' bk Q q' Dn k1 k2 k3 k4) (fun v d H' F' st' hd q' => k2 v d H' F' st' hd q') (fun s σ' H' F' r' st' q' => k3 s σ' H' F' r' st' q') (fun s σ' H' F' r' st' q' => k4 s σ' H' F' r' st' q'))
/-- an own list becomes known for good -/
theorem ms_freeze {ds : List D} {m : Wp (Fl S T)} (i : Nat) (he : en[i]? = some (some (.own ds))) (hr : MS Γ rest (en.set i (some (.val (.list ds)))) m enc ent) : MS Γ rest en m enc ent := fun bg H0 F0 σ H F r st b Q hm Dn k1 k2 k3 k4 => by
  obtain ⟨A, a⟩ := r.slots
  obtain ⟨h1, h2, h3, h4, xs, h5, h6⟩ := a.own i ds he
  have s1 : Step bg H0 F0 H (upd F (A i) (.lst xs)) := freeze st h4 h3 h2 h5
  have hl : i < en.length := (List.getElem?_eq_some_iff.mp he).1
  have key : ∀ (j : Nat) (x : SV), (en.set i (some (SV.val (.list ds))))[j]? = some (some x) → (j = i ∧ x = .val (.list ds)) ∨ (j ≠ i ∧ en[j]? = some (some x)) := fun j x e => by
    by_cases hj : j = i
    · subst hj
      rw [List.getElem?_set_self hl] at e
      exact .inl ⟨rfl, (Option.some.inj (Option.some.inj e)).symm⟩
    · rw [List.getElem?_set_ne (Ne.symm hj)] at e
      exact .inr ⟨hj, e⟩
  refine hr bg H0 F0 σ H (upd F (A i) (.lst xs)) ⟨s1.ex, s1.bag, A, by simpa using a.len, fun j d e => ?_, fun j es e => ?_, fun j l es fs e1 e2 ne => ?_, fun j e => ?_⟩ s1 b Q hm Dn k1 k2 k3 k4
  · rcases key j _ e with ⟨rfl, q⟩ | ⟨hj, q⟩
    · cases q
      exact ⟨_, h1, .lst upd_same (dpa_mono (same_upd h2) _ _ h6)⟩
    · obtain ⟨v, g1, g2⟩ := a.val j d q
      exact ⟨v, g1, dp_mono (same_upd h2) _ _ g2⟩
  · rcases key j _ e with ⟨rfl, q⟩ | ⟨hj, q⟩
    · cases q
    · obtain ⟨g1, g2, g3, g4, ys, g5, g6⟩ := a.own j es q
      have ne : A j ≠ A i := a.apart j i es ds q he hj
      exact ⟨g1, by rw [upd_ne ne]; exact g2, g3, g4, ys, g5, dpa_mono (same_upd h2) _ _ g6⟩
  · rcases key j _ e1 with ⟨rfl, q⟩ | ⟨hj, q⟩
    · cases q
    · rcases key l _ e2 with ⟨rfl, q'⟩ | ⟨hl', q'⟩
      · cases q'
      · exact a.apart j l es fs q q' ne
  · rcases key j _ e with ⟨rfl, q⟩ | ⟨hj, q⟩
    · cases q
    · exact a.bgs j q
/-- less is known -/
theorem ms_weak {en' : En} {m : Wp (Fl S T)} (w : Wk en' en) (hr : MS Γ rest en' m enc ent) : MS Γ rest en m enc ent := fun bg H0 F0 σ H F r st b Q hm Dn k1 k2 k3 k4 => hr bg H0 F0 σ H F (r.weak w) st b Q hm Dn k1 k2 k3 k4
end
end PW

set_option Elab.async false
set_option linter.all false
set_option maxRecDepth 100000
set_option maxHeartbeats 4000000
namespace PW
open PySem PySem.Spec PyProof.Rows L2

/-! ### blocks that always fall through; blocks that always return -/
def MN {S : Type} (Γ : G) (ss : List Stmt) (en : En) (m : Wp S) (enc : S → En) : Prop := ∀ (T : Type) (ent : T → En), MS Γ ss en (bnd m fun s => ret (Fl.nx (T := T) s)) enc ent
def MR (Γ : G) (ss : List Stmt) (en : En) (m : Wp D) : Prop := ∀ (S T : Type) (enc : S → En) (ent : T → En), MS Γ ss en (bnd m fun d => ret (Fl.rt (S := S) (T := T) d)) enc ent
def MO {T : Type} (Γ : G) (ss : List Stmt) (en : En) (m : Wp (Fl Empty T)) (ent : T → En) : Prop := MS Γ ss en m (fun (s : Empty) => nomatch s) ent
def thenE {S T : Type} : Fl Empty T → Wp (Fl S T)
  | .rt d => ret (.rt d)
  | .bk t => ret (.bk t)
  | .ct t => ret (.ct t)
  | .nx s => nomatch s
theorem mo_ms {S T : Type} {Γ : G} {ss : List Stmt} {en : En} {m : Wp (Fl Empty T)} {enc : S → En} {ent : T → En} (h : MO Γ ss en m ent) : MS Γ ss en (bnd m thenE) enc ent := fun bg H0 F0 σ H F r st b Q hm Dn k1 k2 k3 k4 =>
  h bg H0 F0 σ H F r st b _ hm Dn (fun s => nomatch s) (fun v d H' F' st' hd q => k2 v d H' F' st' hd q) (fun s σ' H' F' r' st' q => k3 s σ' H' F' r' st' q) (fun s σ' H' F' r' st' q => k4 s σ' H' F' r' st' q)
theorem mr_mo {T : Type} {Γ : G} {ss : List Stmt} {en : En} {m : Wp D} {ent : T → En} (h : MR Γ ss en m) : MO Γ ss en (bnd m fun d => ret (.rt d)) ent := h Empty T _ ent
section
variable {S T : Type} {Γ : G} {en : En} {enc : S → En} {ent : T → En} {rest : List Stmt} {pos : Pos}
theorem mn_nil {s : S} (h : Wk (enc s) en) : MN Γ [] en (ret s) enc := fun _ _ => ms_nil h
theorem mr_ret {e : Expr} {m : Wp D} (he : ME Γ e en m) : MR Γ (.Return (some e) pos :: rest) en m := fun _ _ _ _ => ms_ret he
theorem mn_asg {α : Type} {x : Str} {e : Expr} {px : Pos} {inj : α → SV} {m : Wp α} {k : α → Wp S} (i : Nat) (nd : Γ.N.Nodup) (hi : Γ.N[i]? = some x) (hx : Loc Γ.sc x) (he : MX Γ e en inj m) (hr : ∀ a, MN Γ rest (en.set i (some (inj a))) (k a) enc)
    (hf : Γ.own x = true ∨ Γ.sc.names.lookup x = some .local := by first | exact .inl rfl | exact .inr rfl) (hs : ∀ v : PySem.Env, v.scope = Γ.sc → swapsWith e (some (.Name x px)) pos.line v = pure false := by intro _ _; rfl) : MN Γ (.Assign [.Name x px] e pos :: rest) en (bnd m k) enc :=
  fun T ent => ms_asg (m := m) (k := fun a => bnd (k a) fun s => ret (.nx s)) i nd hi hx he (fun a => hr a T ent) hf hs
theorem mr_asg {α : Type} {x : Str} {e : Expr} {px : Pos} {inj : α → SV} {m : Wp α} {k : α → Wp D} (i : Nat) (nd : Γ.N.Nodup) (hi : Γ.N[i]? = some x) (hx : Loc Γ.sc x) (he : MX Γ e en inj m) (hr : ∀ a, MR Γ rest (en.set i (some (inj a))) (k a))
    (hf : Γ.own x = true ∨ Γ.sc.names.lookup x = some .local := by first | exact .inl rfl | exact .inr rfl) (hs : ∀ v : PySem.Env, v.scope = Γ.sc → swapsWith e (some (.Name x px)) pos.line v = pure false := by intro _ _; rfl) : MR Γ (.Assign [.Name x px] e pos :: rest) en (bnd m k) :=
  fun S T enc ent => ms_asg (m := m) (k := fun a => bnd (k a) fun s => ret (.rt s)) i nd hi hx he (fun a => hr a S T enc ent) hf hs
theorem mn_freeze {ds : List D} {m : Wp S} (i : Nat) (he : en[i]? = some (some (.own ds))) (hr : MN Γ rest (en.set i (some (.val (.list ds)))) m enc) : MN Γ rest en m enc := fun T ent => ms_freeze i he (hr T ent)
theorem mr_freeze {ds : List D} {m : Wp D} (i : Nat) (he : en[i]? = some (some (.own ds))) (hr : MR Γ rest (en.set i (some (.val (.list ds)))) m) : MR Γ rest en m := fun S T enc ent => ms_freeze i he (hr S T enc ent)
/-- if c: .. else: .., both fall through -/
theorem ms_if2 {S' : Type} {c : Expr} {a b : List Stmt} {mc : Wp Bool} {ma mb : Wp S'} {k : S' → Wp (Fl S T)} (en1 : S' → En) (hc : MT Γ c en mc) (ha : MN Γ a en ma en1) (hb : MN Γ b en mb en1) (hr : ∀ s, MS Γ rest (en1 s) (k s) enc ent) :
    MS Γ (.If c a b pos :: rest) en (bnd mc fun x => bnd (ifW x ma mb) k) enc ent := by
  have := ms_if (pos := pos) en1 hc (ha T ent) (hb T ent) hr
  refine cast (congrArg (fun z => MS Γ (.If c a b pos :: rest) en z enc ent) ?_) this
  funext Q
  show mc _ = mc _
  congr 1
  funext x
  cases x <;> rfl
theorem mn_if2 {S' : Type} {c : Expr} {a b : List Stmt} {mc : Wp Bool} {ma mb : Wp S'} {k : S' → Wp S} (en1 : S' → En) (hc : MT Γ c en mc) (ha : MN Γ a en ma en1) (hb : MN Γ b en mb en1) (hr : ∀ s, MN Γ rest (en1 s) (k s) enc) :
    MN Γ (.If c a b pos :: rest) en (bnd mc fun x => bnd (ifW x ma mb) k) enc := fun T ent => ms_if2 en1 hc ha hb fun s => hr s T ent
theorem mr_if2 {S' : Type} {c : Expr} {a b : List Stmt} {mc : Wp Bool} {ma mb : Wp S'} {k : S' → Wp D} (en1 : S' → En) (hc : MT Γ c en mc) (ha : MN Γ a en ma en1) (hb : MN Γ b en mb en1) (hr : ∀ s, MR Γ rest (en1 s) (k s)) :
    MR Γ (.If c a b pos :: rest) en (bnd mc fun x => bnd (ifW x ma mb) k) := fun S T enc ent => ms_if2 en1 hc ha hb fun s => hr s S T enc ent
/-- if c: .. (leaves), then the rest -/
theorem ms_ifo {c : Expr} {a : List Stmt} {mc : Wp Bool} {ma : Wp (Fl Empty T)} {m : Wp (Fl S T)} (hc : MT Γ c en mc) (ha : MO Γ a en ma ent) (hr : MS Γ rest en m enc ent) :
    MS Γ (.If c a [] pos :: rest) en (bnd mc fun x => ifW x (bnd ma thenE) m) enc ent := by
  have := ms_if (S' := Unit) (pos := pos) (fun _ => en) hc (mo_ms ha) (ms_nil (s := ()) (Wk.refl en)) fun _ => hr
  refine cast (congrArg (fun z => MS Γ (.If c a [] pos :: rest) en z enc ent) ?_) this
  funext Q
  show mc _ = mc _
  congr 1
  funext x
  cases x with
  | false => rfl
  | true =>
    show ma _ = ma _
    congr 1
    funext f
    cases f with
    | nx s => exact nomatch s
    | rt d => rfl
    | bk t => rfl
    | ct t => rfl
/-- if c: .. return, then the rest -/
theorem ms_ifr {c : Expr} {a : List Stmt} {mc : Wp Bool} {ma : Wp D} {m : Wp (Fl S T)} (hc : MT Γ c en mc) (ha : MR Γ a en ma) (hr : MS Γ rest en m enc ent) :
    MS Γ (.If c a [] pos :: rest) en (bnd mc fun x => ifW x (bnd ma fun d => ret (.rt d)) m) enc ent := ms_ifo hc (mr_mo ha) hr
theorem mr_ifr {c : Expr} {a : List Stmt} {mc : Wp Bool} {ma m : Wp D} (hc : MT Γ c en mc) (ha : MR Γ a en ma) (hr : MR Γ rest en m) :
    MR Γ (.If c a [] pos :: rest) en (bnd mc fun x => ifW x ma m) := fun S T enc ent => by
  refine cast (congrArg (fun z => MS Γ (.If c a [] pos :: rest) en z enc ent) ?_) (ms_ifr hc ha (hr S T enc ent))
  funext Q
  show mc _ = mc _
  congr 1
  funext x
  cases x <;> rfl
/-- if c: .. return else: .. return -/
theorem mr_ifrr {c : Expr} {a b : List Stmt} {mc : Wp Bool} {ma mb : Wp D} (hc : MT Γ c en mc) (ha : MR Γ a en ma) (hb : MR Γ b en mb) :
    MR Γ (.If c a b pos :: rest) en (bnd mc fun x => ifW x ma mb) := fun S T enc ent =>
  ms_of (fun X h => pss_cons (ps_if (cT_pt h c) (cS_ps h a) (cS_ps h b)) pss_never) fun bg H0 F0 σ H F r st bk Q hm Dn k1 k2 k3 k4 => hc bg H0 σ H F r _ hm _ fun x H1 F1 s1 q1 => by
    cases x with
    | true => exact iteT (mr_mo ha bg H0 F0 σ H1 F1 (r.step s1) (st.trans s1) bk (fun f => match f with | .rt d => Q (.rt d) | .nx s => nomatch s | .bk t => Q (.bk t) | .ct t => Q (.ct t)) q1 { Dn with nx := _ } (fun s => nomatch s) k2 k3 k4)
    | false => exact iteF (mr_mo hb bg H0 F0 σ H1 F1 (r.step s1) (st.trans s1) bk (fun f => match f with | .rt d => Q (.rt d) | .nx s => nomatch s | .bk t => Q (.bk t) | .ct t => Q (.ct t)) q1 { Dn with nx := _ } (fun s => nomatch s) k2 k3 k4)
end

/-! ### an own list changed -/
/-- the list at the slot i is written -/
theorem Rel.mut {K : PySem.W.Frag} {bg : Bg} {H0 F0 : Hp} {en : En} {σ : L2.St} {H F : Hp} {ds es : List D} {p : Addr} {ys : List V} {i : Nat} (r : Rel K bg H0 en σ H F) (st : Step bg H0 F0 H F) (he : en[i]? = some (some (.own ds))) (hp : σ[i]? = some (some (.ref p))) (hy : DqAll K F ys es) :
    Rel K bg H0 (en.set i (some (.own es))) σ (upd H p (.lst ys)) F ∧ Step bg H0 F0 (upd H p (.lst ys)) F := by
  obtain ⟨A, a⟩ := r.slots
  obtain ⟨h1, h2, h3, h4, xs, h5, h6⟩ := a.own i ds he
  have ep : p = A i := by
    rw [h1] at hp
    exact (V.ref.inj (Option.some.inj (Option.some.inj hp))).symm
  subst ep
  have ex : Same F (upd H (A i) (.lst ys)) := fun b o e => by
    rw [upd_ne (ne_of_none e h2)]; exact r.ex b o e
  have bk : BagOk bg F (upd H (A i) (.lst ys)) := fun p q e => by
    obtain ⟨g1, g2, g3, cs, c, m, g4, g5, g6⟩ := r.bag p q e
    obtain ⟨n1, n2⟩ := h3 p q e
    exact ⟨g1, g2, g3, cs, c, m, by rw [upd_ne n1.symm]; exact g4, by rw [upd_ne n2.symm]; exact g5, g6⟩
  have hl : i < en.length := (List.getElem?_eq_some_iff.mp he).1
  have key : ∀ (j : Nat) (x : SV), (en.set i (some (SV.own es)))[j]? = some (some x) → (j = i ∧ x = .own es) ∨ (j ≠ i ∧ en[j]? = some (some x)) := fun j x e => by
    by_cases hj : j = i
    · subst hj
      rw [List.getElem?_set_self hl] at e
      exact .inl ⟨rfl, (Option.some.inj (Option.some.inj e)).symm⟩
    · rw [List.getElem?_set_ne (Ne.symm hj)] at e
      exact .inr ⟨hj, e⟩
  refine ⟨⟨ex, bk, A, by simpa using a.len, fun j d e => ?_, fun j fs e => ?_, fun j l fs gs e1 e2 ne => ?_, fun j e => ?_⟩, st.ff, st.new, fun b o n e => ?_, ex, bk⟩
  · rcases key j _ e with ⟨rfl, q⟩ | ⟨hj, q⟩
    · cases q
    · exact a.val j d q
  · rcases key j _ e with ⟨rfl, q⟩ | ⟨hj, q⟩
    · cases q
      exact ⟨h1, h2, h3, h4, ys, upd_same, hy⟩
    · obtain ⟨g1, g2, g3, g4, zs, g5, g6⟩ := a.own j fs q
      exact ⟨g1, g2, g3, g4, zs, by rw [upd_ne (a.apart j i fs ds q he hj)]; exact g5, g6⟩
  · rcases key j _ e1 with ⟨rfl, q⟩ | ⟨hj, q⟩
    · rcases key l _ e2 with ⟨rfl, q'⟩ | ⟨hl', q'⟩
      · exact absurd rfl ne
      · exact a.apart j l ds gs he q' ne
    · rcases key l _ e2 with ⟨rfl, q'⟩ | ⟨hl', q'⟩
      · exact a.apart j l fs ds q he ne
      · exact a.apart j l fs gs q q' ne
  · rcases key j _ e with ⟨rfl, q⟩ | ⟨hj, q⟩
    · cases q
    · exact a.bgs j q
  · rw [upd_ne (ne_of_none e h4)]
    exact st.kp b o n e
theorem Rel.ownAt {K : PySem.W.Frag} {bg : Bg} {H0 : Hp} {en : En} {σ : L2.St} {H F : Hp} {ds : List D} {i : Nat} (r : Rel K bg H0 en σ H F) (he : en[i]? = some (some (.own ds))) :
    ∃ p xs, σ[i]? = some (some (.ref p)) ∧ H p = some (.lst xs) ∧ DqAll K F xs ds := by
  obtain ⟨A, a⟩ := r.slots
  obtain ⟨h1, h2, h3, h4, xs, h5, h6⟩ := a.own i ds he
  exact ⟨_, xs, h1, h5, h6⟩
section
variable {S T : Type} {Γ : G} {en : En} {enc : S → En} {ent : T → En} {rest : List Stmt} {pos : Pos} {x : Str} {px ap cp : Pos} {e : Expr} {ds : List D}
/-- x.append(e) -/
theorem ms_append {m : Wp D} {k : D → Wp (Fl S T)} (i : Nat) (hN : Γ.N[i]? = some x) (hv : Vis Γ.sc x) (he : ME Γ e en m) (hx : en[i]? = some (some (.own ds))) (hr : ∀ d, MS Γ rest (en.set i (some (.own (ds ++ [d])))) (k d) enc ent)
    (hd : (x == ("__debug__" : Str)) = false := by decide) (hcd : (x == ("__classdict__" : Str)) = false := by decide)
    (hst : ∀ X : Cx, starEach [e] X.env = (false, eval e X.env) :: starEach [] X.env := by intro _; rfl) (hline : (ap.endLine == cp.line) = true := by rfl)
    (hs : ∀ X : Cx, swapsWith (.Call (.Attribute (.Name x px) "append" ap) [e] [] cp) none pos.line X.env = pure false := by intro _; rfl)
    (hb : ∀ X : Cx, attributeBase (.Name x px) "append" X.env (eval (.Name x px) X.env) = eval (.Name x px) X.env := by intro _; rfl)
    (hfew : ∀ X : Cx, ((backTo cp (starEach [e] X.env)).all (fun x => !x.1) && (backToKw cp (keywordEach [] X.env)).all (fun x => x.1.isSome)
      && decide ([e].length + ([] : List Keyword).length + (if ([] : List Keyword).isEmpty then 0 else 1) < 30)) = true := by intro _; rfl) :
    MS Γ (.Expr (.Call (.Attribute (.Name x px) "append" ap) [e] [] cp) pos :: rest) en (bnd m fun d => grd (ds.length < sizeLine) (k d)) enc ent :=
  ms_of (t := tSeq (tDrop (tBM Γ.K "list" rAppend (tVar i) (tCons (cE Γ e) tNil))) (cS Γ rest))
    (fun X h => pss_cons (ps_expr (by
      have := pe_bm (X := X) (apos := ap) (cpos := cp) PySem.F.plainAttrs_list PySem.F.slot_list_append PySem.F.type_list_append mt_append (pe_var (pos := px) (i := i) (by rw [h.N]; exact hN) (by rw [h.sc]; exact hv) hd hcd) (pa_cons (cE_pe h e) pa_nil (hst X)) (hb X) (hfew X) hline (hst X) rfl
      rw [h.K] at this
      exact this) (hs X)) (cS_ps h rest)) fun bg H0 F0 σ H F r st b Q hm Dn k1 k2 k3 k4 => by
    obtain ⟨p, xs, e1, e2, e3⟩ := r.ownAt hx
    refine ⟨.ref p, e1, .inl ⟨rfl, _, .inl (.inl e2)⟩, he bg H0 σ H F r _ hm _ fun v d H1 F1 s1 hd q1 => ?_⟩
    have r1 := r.step s1
    obtain ⟨p', ys, f1, f2, f3⟩ := r1.ownAt hx
    have ep : p' = p := by
      rw [e1] at f1
      exact (V.ref.inj (Option.some.inj (Option.some.inj f1))).symm
    subst ep
    obtain ⟨r2, st2⟩ := r1.mut (st.trans s1) hx e1 (dpa_append f3 (.cons hd .nil))
    exact ⟨p', ys, v, rfl, rfl, f2, by rw [dpa_len f3]; exact q1.1, hr d bg H0 F0 σ _ F1 r2 st2 b Q q1.2 Dn k1 k2 k3 k4⟩
theorem mn_append {m : Wp D} {k : D → Wp S} (i : Nat) (hN : Γ.N[i]? = some x) (hv : Vis Γ.sc x) (he : ME Γ e en m) (hx : en[i]? = some (some (.own ds))) (hr : ∀ d, MN Γ rest (en.set i (some (.own (ds ++ [d])))) (k d) enc)
    (hd : (x == ("__debug__" : Str)) = false := by decide) (hcd : (x == ("__classdict__" : Str)) = false := by decide)
    (hst : ∀ X : Cx, starEach [e] X.env = (false, eval e X.env) :: starEach [] X.env := by intro _; rfl) (hline : (ap.endLine == cp.line) = true := by rfl)
    (hs : ∀ X : Cx, swapsWith (.Call (.Attribute (.Name x px) "append" ap) [e] [] cp) none pos.line X.env = pure false := by intro _; rfl)
    (hb : ∀ X : Cx, attributeBase (.Name x px) "append" X.env (eval (.Name x px) X.env) = eval (.Name x px) X.env := by intro _; rfl)
    (hfew : ∀ X : Cx, ((backTo cp (starEach [e] X.env)).all (fun x => !x.1) && (backToKw cp (keywordEach [] X.env)).all (fun x => x.1.isSome)
      && decide ([e].length + ([] : List Keyword).length + (if ([] : List Keyword).isEmpty then 0 else 1) < 30)) = true := by intro _; rfl) :
    MN Γ (.Expr (.Call (.Attribute (.Name x px) "append" ap) [e] [] cp) pos :: rest) en (bnd m fun d => grd (ds.length < sizeLine) (k d)) enc := fun T ent => ms_append i hN hv he hx (fun d => hr d T ent) hd hcd hst hline hs hb hfew
theorem mr_append {m : Wp D} {k : D → Wp D} (i : Nat) (hN : Γ.N[i]? = some x) (hv : Vis Γ.sc x) (he : ME Γ e en m) (hx : en[i]? = some (some (.own ds))) (hr : ∀ d, MR Γ rest (en.set i (some (.own (ds ++ [d])))) (k d))
    (hd : (x == ("__debug__" : Str)) = false := by decide) (hcd : (x == ("__classdict__" : Str)) = false := by decide)
    (hst : ∀ X : Cx, starEach [e] X.env = (false, eval e X.env) :: starEach [] X.env := by intro _; rfl) (hline : (ap.endLine == cp.line) = true := by rfl)
    (hs : ∀ X : Cx, swapsWith (.Call (.Attribute (.Name x px) "append" ap) [e] [] cp) none pos.line X.env = pure false := by intro _; rfl)
    (hb : ∀ X : Cx, attributeBase (.Name x px) "append" X.env (eval (.Name x px) X.env) = eval (.Name x px) X.env := by intro _; rfl)
    (hfew : ∀ X : Cx, ((backTo cp (starEach [e] X.env)).all (fun x => !x.1) && (backToKw cp (keywordEach [] X.env)).all (fun x => x.1.isSome)
      && decide ([e].length + ([] : List Keyword).length + (if ([] : List Keyword).isEmpty then 0 else 1) < 30)) = true := by intro _; rfl) :
    MR Γ (.Expr (.Call (.Attribute (.Name x px) "append" ap) [e] [] cp) pos :: rest) en (bnd m fun d => grd (ds.length < sizeLine) (k d)) := fun S T enc ent => ms_append i hN hv he hx (fun d => hr d S T enc ent) hd hcd hst hline hs hb hfew
/-- x.extend(e) -/
theorem ms_extend {m : Wp (List D)} {k : List D → Wp (Fl S T)} (i : Nat) (hN : Γ.N[i]? = some x) (hv : Vis Γ.sc x) (he : MFr Γ e en m) (hx : en[i]? = some (some (.own ds))) (hr : ∀ es, MS Γ rest (en.set i (some (.own (ds ++ es)))) (k es) enc ent)
    (hd : (x == ("__debug__" : Str)) = false := by decide) (hcd : (x == ("__classdict__" : Str)) = false := by decide)
    (hst : ∀ X : Cx, starEach [e] X.env = (false, eval e X.env) :: starEach [] X.env := by intro _; rfl) (hline : (ap.endLine == cp.line) = true := by rfl)
    (hs : ∀ X : Cx, swapsWith (.Call (.Attribute (.Name x px) "extend" ap) [e] [] cp) none pos.line X.env = pure false := by intro _; rfl)
    (hb : ∀ X : Cx, attributeBase (.Name x px) "extend" X.env (eval (.Name x px) X.env) = eval (.Name x px) X.env := by intro _; rfl)
    (hfew : ∀ X : Cx, ((backTo cp (starEach [e] X.env)).all (fun x => !x.1) && (backToKw cp (keywordEach [] X.env)).all (fun x => x.1.isSome)
      && decide ([e].length + ([] : List Keyword).length + (if ([] : List Keyword).isEmpty then 0 else 1) < 30)) = true := by intro _; rfl) :
    MS Γ (.Expr (.Call (.Attribute (.Name x px) "extend" ap) [e] [] cp) pos :: rest) en (bnd m fun es => grd (ds.length + es.length ≤ sizeLine) (k es)) enc ent :=
  ms_of (t := tSeq (tDrop (tBM Γ.K "list" rExtend (tVar i) (tCons (cE Γ e) tNil))) (cS Γ rest))
    (fun X h => pss_cons (ps_expr (by
      have := pe_bm (X := X) (apos := ap) (cpos := cp) PySem.F.plainAttrs_list PySem.F.slot_list_extend PySem.F.type_list_extend mt_extend (pe_var (pos := px) (i := i) (by rw [h.N]; exact hN) (by rw [h.sc]; exact hv) hd hcd) (pa_cons (cE_pe h e) pa_nil (hst X)) (hb X) (hfew X) hline (hst X) rfl
      rw [h.K] at this
      exact this) (hs X)) (cS_ps h rest)) fun bg H0 F0 σ H F r st b Q hm Dn k1 k2 k3 k4 => by
    obtain ⟨p, xs, e1, e2, e3⟩ := r.ownAt hx
    refine ⟨.ref p, e1, .inl ⟨rfl, _, .inl (.inl e2)⟩, he bg H0 σ H F r _ hm _ fun a zs es H1 F1 s1 hn hf ha hz q1 => ?_⟩
    have r1 := r.step s1
    obtain ⟨p', ys, f1, f2, f3⟩ := r1.ownAt hx
    have ep : p' = p := by
      rw [e1] at f1
      exact (V.ref.inj (Option.some.inj (Option.some.inj f1))).symm
    subst ep
    obtain ⟨r2, st2⟩ := r1.mut (st.trans s1) hx e1 (dpa_append f3 hz)
    exact ⟨p', a, ys, zs, rfl, rfl, f2, ha, by rw [dpa_len f3, dpa_len hz]; exact q1.1, hr es bg H0 F0 σ _ F1 r2 st2 b Q q1.2 Dn k1 k2 k3 k4⟩
theorem mn_extend {m : Wp (List D)} {k : List D → Wp S} (i : Nat) (hN : Γ.N[i]? = some x) (hv : Vis Γ.sc x) (he : MFr Γ e en m) (hx : en[i]? = some (some (.own ds))) (hr : ∀ es, MN Γ rest (en.set i (some (.own (ds ++ es)))) (k es) enc)
    (hd : (x == ("__debug__" : Str)) = false := by decide) (hcd : (x == ("__classdict__" : Str)) = false := by decide)
    (hst : ∀ X : Cx, starEach [e] X.env = (false, eval e X.env) :: starEach [] X.env := by intro _; rfl) (hline : (ap.endLine == cp.line) = true := by rfl)
    (hs : ∀ X : Cx, swapsWith (.Call (.Attribute (.Name x px) "extend" ap) [e] [] cp) none pos.line X.env = pure false := by intro _; rfl)
    (hb : ∀ X : Cx, attributeBase (.Name x px) "extend" X.env (eval (.Name x px) X.env) = eval (.Name x px) X.env := by intro _; rfl)
    (hfew : ∀ X : Cx, ((backTo cp (starEach [e] X.env)).all (fun x => !x.1) && (backToKw cp (keywordEach [] X.env)).all (fun x => x.1.isSome)
      && decide ([e].length + ([] : List Keyword).length + (if ([] : List Keyword).isEmpty then 0 else 1) < 30)) = true := by intro _; rfl) :
    MN Γ (.Expr (.Call (.Attribute (.Name x px) "extend" ap) [e] [] cp) pos :: rest) en (bnd m fun es => grd (ds.length + es.length ≤ sizeLine) (k es)) enc := fun T ent => ms_extend i hN hv he hx (fun d => hr d T ent) hd hcd hst hline hs hb hfew
theorem mr_extend {m : Wp (List D)} {k : List D → Wp D} (i : Nat) (hN : Γ.N[i]? = some x) (hv : Vis Γ.sc x) (he : MFr Γ e en m) (hx : en[i]? = some (some (.own ds))) (hr : ∀ es, MR Γ rest (en.set i (some (.own (ds ++ es)))) (k es))
    (hd : (x == ("__debug__" : Str)) = false := by decide) (hcd : (x == ("__classdict__" : Str)) = false := by decide)
    (hst : ∀ X : Cx, starEach [e] X.env = (false, eval e X.env) :: starEach [] X.env := by intro _; rfl) (hline : (ap.endLine == cp.line) = true := by rfl)
    (hs : ∀ X : Cx, swapsWith (.Call (.Attribute (.Name x px) "extend" ap) [e] [] cp) none pos.line X.env = pure false := by intro _; rfl)
    (hb : ∀ X : Cx, attributeBase (.Name x px) "extend" X.env (eval (.Name x px) X.env) = eval (.Name x px) X.env := by intro _; rfl)
    (hfew : ∀ X : Cx, ((backTo cp (starEach [e] X.env)).all (fun x => !x.1) && (backToKw cp (keywordEach [] X.env)).all (fun x => x.1.isSome)
      && decide ([e].length + ([] : List Keyword).length + (if ([] : List Keyword).isEmpty then 0 else 1) < 30)) = true := by intro _; rfl) :
    MR Γ (.Expr (.Call (.Attribute (.Name x px) "extend" ap) [e] [] cp) pos :: rest) en (bnd m fun es => grd (ds.length + es.length ≤ sizeLine) (k es)) := fun S T enc ent => ms_extend i hN hv he hx (fun d => hr d S T enc ent) hd hcd hst hline hs hb hfew
end
end PW

set_option Elab.async false
set_option linter.all false
set_option maxRecDepth 100000
set_option maxHeartbeats 4000000
namespace PW
open PySem PySem.Spec PyProof.Rows L2

/-- a name that is none of the frame's -/
def GlS (sc : Scope) (x : Str) : Prop := sc.names.lookup x = some .globalImplicit
theorem gl_of {Γ : G} {X : Cx} {x : Str} (h : Γ.In X) (g : GlS Γ.sc x) : Gl X x := by
  show X.env.scope.names.lookup x = some .globalImplicit
  rw [h.sc]
  exact g
/-! ### targets that are names -/
def cG (Γ : G) (tg : Expr) : TG := fun v σ H Q => ∃ t : TG, (∀ X, Γ.In X → PG X tg t) ∧ t v σ H Q
def cGs (Γ : G) (tgs : List Expr) : TGs := fun vs σ H Q => ∃ t : TGs, (∀ X, Γ.In X → PGs X tgs t) ∧ t vs σ H Q
theorem cG_pg {Γ : G} {X : Cx} (h : Γ.In X) (e : Expr) : PG X e (cG Γ e) := ⟨fun pins s σ H v u Q I r ⟨t, ht, q⟩ => (ht X h).run pins s σ H v u Q I r q⟩
theorem cGs_pg {Γ : G} {X : Cx} (h : Γ.In X) (es : List Expr) : PGs X es (cGs Γ es) := ⟨fun pins s σ H v u Q I r ⟨t, ht, q⟩ => (ht X h).run pins s σ H v u Q I r q⟩
def Wiped (sl : List Nat) (σ σ' : L2.St) : Prop := ∀ vs : List Nat, (∀ i ∈ sl, i ∈ vs) → wipe σ' vs = wipe σ vs
def GV {β : Type} (K : PySem.W.Frag) (g : TG) (en : En) (u : D → Wp β) (st : β → En) (sl : List Nat) : Prop := ∀ (bg : Bg) (H0 : Hp) (σ : L2.St) (H F : Hp), Rel K bg H0 en σ H F → ∀ (v : V) (d : D), Dq K F v d → ∀ Q : β → Prop, u d Q → ∀ QQ : L2.St → Hp → Prop,
  (∀ b σ', Rel K bg H0 (st b) σ' H F → Wiped sl σ σ' → Q b → QQ σ' H) → g v σ H QQ
def GVs {β : Type} (K : PySem.W.Frag) (g : TGs) (en : En) (u : List D → Wp β) (st : β → En) (sl : List Nat) : Prop := ∀ (bg : Bg) (H0 : Hp) (σ : L2.St) (H F : Hp), Rel K bg H0 en σ H F → ∀ (vs : List V) (ds : List D), DqAll K F vs ds → ∀ Q : β → Prop, u ds Q → ∀ QQ : L2.St → Hp → Prop,
  (∀ b σ', Rel K bg H0 (st b) σ' H F → Wiped sl σ σ' → Q b → QQ σ' H) → g vs σ H QQ
def MG {β : Type} (Γ : G) (tg : Expr) (en : En) (u : D → Wp β) (st : β → En) (sl : List Nat) : Prop := GV Γ.K (cG Γ tg) en u st sl
def MGs {β : Type} (Γ : G) (tgs : List Expr) (en : En) (u : List D → Wp β) (st : β → En) (sl : List Nat) : Prop := GVs Γ.K (cGs Γ tgs) en u st sl
theorem wipe_set (σ : L2.St) (x : Option V) : ∀ (vs : List Nat) (i : Nat), i ∈ vs → wipe (σ.set i x) vs = wipe σ vs
  | [], _, h => by simp at h
  | v :: vs, i, h => by
    unfold wipe
    by_cases hv : i ∈ vs
    · rw [wipe_set σ x vs i hv]
    · have e : i = v := by
        rcases List.mem_cons.mp h with e | e
        · exact e
        · exact absurd e hv
      subst e
      have gen : ∀ (ws : List Nat) (τ : L2.St), (wipe (τ.set i x) ws).set i none = (wipe τ ws).set i none := by
        intro ws
        induction ws with
        | nil => intro τ; show (τ.set i x).set i none = τ.set i none; rw [List.set_set]
        | cons w ws ih =>
          intro τ
          unfold wipe
          by_cases hw : w = i
          · subst hw; rw [ih]
          · rw [List.set_comm _ _ hw, ih, List.set_comm _ _ hw]
      exact gen vs σ
theorem mg_name {Γ : G} {x : Str} {px : Pos} {en : En} (i : Nat) (nd : Γ.N.Nodup) (hi : Γ.N[i]? = some x) (hx : Loc Γ.sc x) (hf : Γ.own x = true ∨ Γ.sc.names.lookup x = some .local := by first | exact .inl rfl | exact .inr rfl) :
    MG Γ (.Name x px) en ret (fun d => en.set i (some (.val d))) [i] := fun bg H0 σ H F r v d hd Q hq QQ k =>
  ⟨gName i, fun X h => pg_name (by rw [h.N]; exact nd) (by rw [h.N]; exact hi) (by rw [h.sc]; exact hx) (by rw [h.fn, h.sc]; exact hf), by
    refine k d (σ.set i (some v)) ?_ (fun vs hv => wipe_set σ _ vs i (hv i (by simp))) hq
    obtain ⟨A, a⟩ := r.slots
    have key : ∀ (j : Nat) (x : SV), (en.set i (some (SV.val d)))[j]? = some (some x) → (j = i ∧ i < en.length ∧ x = .val d) ∨ (j ≠ i ∧ en[j]? = some (some x)) := fun j x e => by
      by_cases hj : j = i
      · subst hj
        by_cases hl : j < en.length
        · rw [List.getElem?_set_self hl] at e
          exact .inl ⟨rfl, hl, (Option.some.inj (Option.some.inj e)).symm⟩
        · rw [List.getElem?_eq_none (by simpa using hl)] at e
          cases e
      · rw [List.getElem?_set_ne (Ne.symm hj)] at e
        exact .inr ⟨hj, e⟩
    refine ⟨r.ex, r.bag, A, by simpa using a.len, fun j x e => ?_, fun j ds e => ?_, fun j l ds es e1 e2 ne => ?_, fun j e => ?_⟩
    · rcases key j _ e with ⟨rfl, hl, q⟩ | ⟨hj, q⟩
      · cases q
        exact ⟨v, by rw [List.getElem?_set_self (by rw [a.len]; exact hl)], hd⟩
      · obtain ⟨u, h1, h2⟩ := a.val j x q
        exact ⟨u, by rw [List.getElem?_set_ne (Ne.symm hj)]; exact h1, h2⟩
    · rcases key j _ e with ⟨rfl, hl, q⟩ | ⟨hj, q⟩
      · cases q
      · rw [List.getElem?_set_ne (Ne.symm hj)]
        exact a.own j ds q
    · rcases key j _ e1 with ⟨rfl, hl, q⟩ | ⟨hj, q⟩
      · cases q
      · rcases key l _ e2 with ⟨rfl, hl, q'⟩ | ⟨hl, q'⟩
        · cases q'
        · exact a.apart j l ds es q q' ne
    · rcases key j _ e with ⟨rfl, hl, q⟩ | ⟨hj, q⟩
      · cases q
      · rw [List.getElem?_set_ne (Ne.symm hj)]
        exact a.bgs j q⟩
def nilD : List D → Wp Unit
  | [] => ret ()
  | _ :: _ => nay
def consD {β γ : Type} (u : D → Wp β) (w : List D → Wp γ) : List D → Wp (β × γ)
  | [] => nay
  | d :: ds => bnd (u d) fun b => bnd (w ds) fun c => ret (b, c)
def tupN (n : Nat) : D → Wp (List D)
  | .tuple ds => grd (ds.length = n) (ret ds)
  | _ => nay
theorem mgs_nil {Γ : G} {en : En} : MGs Γ [] en nilD (fun _ => en) [] := fun bg H0 σ H F r vs ds hd Q hq QQ k => by
  refine ⟨gNil, fun _ _ => pgs_nil, ?_⟩
  cases hd with
  | nil => exact ⟨rfl, k () σ r (fun _ _ => rfl) hq⟩
  | cons _ _ => exact hq.elim
theorem mgs_cons {β γ : Type} {Γ : G} {en : En} {e : Expr} {es : List Expr} {u : D → Wp β} {w : List D → Wp γ} {st : β → En} {st' : β → γ → En} {sl sl' : List Nat} (h1 : MG Γ e en u st sl) (h2 : ∀ b, MGs Γ es (st b) w (st' b) sl')
    (hs : ∀ X : Cx, (assignEach (e :: es) X.env).map (·.2) = assign e X.env :: (assignEach es X.env).map (·.2) := by intro _; rfl) : MGs Γ (e :: es) en (consD u w) (fun p => st' p.1 p.2) (sl ++ sl') := fun bg H0 σ H F r vs ds hd Q hq QQ k => by
  refine ⟨gCons (cG Γ e) (cGs Γ es), fun X h => pgs_cons (cG_pg h e) (cGs_pg h es) (hs X), ?_⟩
  cases hd with
  | nil => exact hq.elim
  | cons d1 d2 =>
    refine ⟨_, _, rfl, h1 bg H0 σ H F r _ _ d1 _ hq _ fun b σ1 r1 w1 q1 => h2 b bg H0 σ1 H F r1 _ _ d2 _ q1 _ fun c σ2 r2 w2 q2 => k (b, c) σ2 r2 (fun vs hv => ?_) q2⟩
    rw [w2 vs fun i hi => hv i (List.mem_append_right _ hi), w1 vs fun i hi => hv i (List.mem_append_left _ hi)]
theorem mg_tup {β : Type} {Γ : G} {en : En} {es : List Expr} {kk : Nat} {pos : Pos} {w : List D → Wp β} {st : β → En} {sl : List Nat} (n : Nat) (h : MGs Γ es en w st sl)
    (hn : ∀ X : Cx, (assignEach es X.env).length = n := by intro _; rfl) (hst : ∀ X : Cx, (assignEach es X.env).findIdx? (·.1) = none := by intro _; rfl) : MG Γ (.Tuple es kk pos) en (fun d => bnd (tupN n d) w) st sl := fun bg H0 σ H F r v d hd Q hq QQ k => by
  refine ⟨gTup Γ.K n (cGs Γ es), fun X hX => by have := pg_tup (k := kk) (pos := pos) hX.calm (cGs_pg hX es) (hn X) (hst X); rw [hX.K] at this; exact this, ?_⟩
  cases hd <;> first | exact hq.elim | skip
  rename_i h1 h2
  exact ⟨_, _, rfl, same_t r.ex h1, by rw [dpa_len h2]; exact hq.1, h bg H0 σ H F r _ _ h2 Q hq.2 QQ k⟩

/-! ### what is walked -/
structure Its (K : PySem.W.Frag) (bg : Bg) (J : It) (F1 : Hp) (ds : List D) : Prop where
  go : ∀ i H F, i < ds.length → Same F1 F → Same F H → J.go i H
  stop : ∀ H F, Same F1 F → Same F H → J.stop ds.length H
  yl : ∀ i H F x H', i < ds.length → Same F1 F → Same F H → BagOk bg F H → J.yld i H x H' → ∃ F' d, ds[i]? = some d ∧ Step bg H F H' F' ∧ Dq K F' x d
def IV (K : PySem.W.Frag) (wi : TI) (en : En) (m : Wp (List D)) : Prop := ∀ (bg : Bg) (H0 : Hp) (σ : L2.St) (H F : Hp), Rel K bg H0 en σ H F → ∀ Q : List D → Prop, m Q → ∀ R : It → Hp → Prop,
  (∀ J H' F' ds, Step bg H F H' F' → Its K bg J F' ds → Q ds → R J H') → wi σ H R
def MI (Γ : G) (tg e : Expr) (en : En) (m : Wp (List D)) : Prop := IV Γ.K (cI Γ tg e) en m
theorem mi_of {Γ : G} {tg e : Expr} {en : En} {m : Wp (List D)} {t : TI} (h : ∀ X, Γ.In X → PI X tg e t) (q : IV Γ.K t en m) : MI Γ tg e en m := fun bg H0 σ H F r Q hm R k => ⟨t, h, q bg H0 σ H F r Q hm R k⟩

def iSq (K : PySem.W.Frag) (tl : TE) : TI := fun σ H R => tl σ H fun x H1 => ∃ a, x = .ref a ∧ (((∃ xs, SqL K H1 a xs) ∧ R (Itl K a) H1) ∨ ((∃ xs, SqT K H1 a xs) ∧ R (Itt K a) H1))
theorem pi_sq {X : Cx} {tg l : Expr} {tl : TE} (hl : PE X l tl) : PI X tg l (iSq X.K tl) := by
  constructor
  intro pins s σ H R I h
  refine thn (hl.run pins s σ H _ I h) ?_
  rintro v s1 ⟨x, H1, I1, r1, a, e, q⟩
  subst e
  cases r1
  have hf : ∀ b, b ∈ [s1.heap.objs.size] → FpOk X pins H1 b := by
    intro b hb
    rw [List.mem_singleton] at hb
    rw [hb]
    exact I1.fpOk (Nat.le_refl _) (I1.hok.fresh (Nat.le_refl _))
  rcases q with ⟨⟨xs, hq⟩, q⟩ | ⟨⟨xs, hq⟩, q⟩
  · obtain ⟨its, rv, p, hz⟩ := I1.list hq
    apply wpAny_pyIter_list p.isList
    exact ⟨s1.heap.objs.size, [s1.heap.objs.size], _, Itl X.K a, H1, rfl, I1.kept (t' := s1.toks) (fun b o e => Heap.get?_push_of_some _ e), turn_list a _, ⟨_, Heap.get?_push_size _ rfl, rfl, rfl⟩, hf, q⟩
  · obtain ⟨its, rv, p, hz⟩ := I1.tuple hq
    apply wpAny_pyIter_tuple (show s1.heap.IsTuple a its.toArray from p)
    exact ⟨s1.heap.objs.size, [s1.heap.objs.size], _, Itt X.K a, H1, rfl, I1.kept (t' := s1.toks) (fun b o e => Heap.get?_push_of_some _ e), turn_tuple a _, ⟨_, Heap.get?_push_size _ rfl, rfl, rfl⟩, hf, q⟩
theorem its_list {K : PySem.W.Frag} {bg : Bg} {F1 : Hp} {a : Addr} {xs : List V} {ds : List D} (h : F1 a = some (.lst xs)) (hd : DqAll K F1 xs ds) : Its K bg (Itl K a) F1 ds := by
  have w := @walk_list K a xs
  have hl := dpa_len hd
  refine ⟨fun i H F hi s1 s2 => w.goes i H (by omega) (.inl (.inl (s2 _ _ (s1 _ _ h)))), fun H F s1 s2 => by rw [← hl]; exact w.stops H (.inl (.inl (s2 _ _ (s1 _ _ h)))), fun i H F x H' hi s1 s2 b y => ?_⟩
  obtain ⟨rfl, e⟩ := w.yields i H x H' (by omega) (.inl (.inl (s2 _ _ (s1 _ _ h)))) y
  obtain ⟨d, e1, e2⟩ := dpa_get hd e
  exact ⟨F, d, e1, .refl s2 b, dp_mono s1 _ _ e2⟩
theorem its_tup {K : PySem.W.Frag} {bg : Bg} {F1 : Hp} {a : Addr} {xs : List V} {ds : List D} (h : SqT K F1 a xs) (hd : DqAll K F1 xs ds) : Its K bg (Itt K a) F1 ds := by
  have w := @walk_tup K a xs
  have hl := dpa_len hd
  refine ⟨fun i H F hi s1 s2 => w.goes i H (by omega) (same_t s2 (same_t s1 h)), fun H F s1 s2 => by rw [← hl]; exact w.stops H (same_t s2 (same_t s1 h)), fun i H F x H' hi s1 s2 b y => ?_⟩
  obtain ⟨rfl, e⟩ := w.yields i H x H' (by omega) (same_t s2 (same_t s1 h)) y
  obtain ⟨d, e1, e2⟩ := dpa_get hd e
  exact ⟨F, d, e1, .refl s2 b, dp_mono s1 _ _ e2⟩
/-- over a value -/
theorem mi_val {Γ : G} {tg e : Expr} {en : En} {m : Wp D} (h : ME Γ e en m) : MI Γ tg e en (bnd m seqD) :=
  mi_of (t := iSq Γ.K (cE Γ e)) (fun X hX => by have := pi_sq (tg := tg) (cE_pe hX e); rw [hX.K] at this; exact this) fun bg H0 σ H F r Q hm R k => h bg H0 σ H F r _ hm _ fun v d H' F' s hd q => by
    cases hd with
    | lst h1 h2 => exact ⟨_, rfl, .inl ⟨⟨_, .inl (.inl (s.ex _ _ h1))⟩, k _ _ _ _ s (its_list h1 h2) q⟩⟩
    | tup h1 h2 => exact ⟨_, rfl, .inr ⟨⟨_, same_t s.ex h1⟩, k _ _ _ _ s (its_tup h1 h2) q⟩⟩
    | non => exact q.elim
    | bl => exact q.elim
    | int => exact q.elim
    | str => exact q.elim
/-- over a new list -/
theorem mi_new {Γ : G} {tg e : Expr} {en : En} {m : Wp (List D)} (h : MFr Γ e en m) : MI Γ tg e en m := mi_val (me_new h)
def rng (lo : Int) (n : Nat) : List D := (List.range n).map fun (i : Nat) => .int (lo + (i : Int))
theorem rng_len (lo : Int) (n : Nat) : (rng lo n).length = n := by unfold rng; rw [List.length_map, List.length_range]
theorem rng_get {lo : Int} {n i : Nat} (h : i < n) : (rng lo n)[i]? = some (.int (lo + (i : Int))) := by
  unfold rng
  rw [List.getElem?_map, List.getElem?_range h]
  rfl
theorem its_rng {K : PySem.W.Frag} {bg : Bg} {F1 : Hp} {lo : Int} {n : Nat} : Its K bg (Itr lo n) F1 (rng lo n) := by
  have w := @walk_range lo n
  refine ⟨fun i H F hi s1 s2 => w.goes i H (by rw [rng_len] at hi; exact hi) trivial, fun H F s1 s2 => by rw [rng_len]; exact w.stops H trivial, fun i H F x H' hi s1 s2 b y => ?_⟩
  rw [rng_len] at hi
  obtain ⟨rfl, rfl⟩ := w.yields i H x H' hi trivial y
  exact ⟨F, _, rng_get hi, .refl s2 b, .int _⟩
def Fit62 (i : Int) : Prop := -(2 ^ 62) ≤ i ∧ i < 2 ^ 62
def rangeW (d : D) : Wp (List D) := match d with
  | .int n => grd (Fit62 n) (ret (rng 0 n.toNat))
  | _ => nay
def range2W (d e : D) : Wp (List D) := match d, e with
  | .int i, .int j => grd (Fit62 i ∧ Fit62 j) (ret (rng i (j - i).toNat))
  | _, _ => nay
theorem mi_range {Γ : G} {tg a : Expr} {en : En} {m : Wp D} {p pos : Pos} (hg : GlS Γ.sc "range") (hm : Γ.mg "range" = none) (h : ME Γ a en m) (hs : ∀ X : Cx, starEach [a] X.env = [(false, eval a X.env)] := by intro _; rfl) :
    MI Γ tg (.Call (.Name "range" p) [a] [] pos) en (bnd m rangeW) :=
  mi_of (fun X hX => pi_range1 (gl_of hX hg) (by rw [hX.mg]; exact hm) (pa_cons (cE_pe hX a) pa_nil (hs X)) (hs X)) fun bg H0 σ H F r Q hm R k => h bg H0 σ H F r _ hm _ fun v d H' F' s hd q => by
    cases hd <;> first | exact q.elim | skip
    exact ⟨_, rfl, q.1.1, q.1.2, k _ _ _ _ s its_rng q.2⟩
theorem mi_range2 {Γ : G} {tg a b : Expr} {en : En} {m n : Wp D} {p pos : Pos} (hg : GlS Γ.sc "range") (hm : Γ.mg "range" = none) (h : ME Γ a en m) (h2 : ME Γ b en n)
    (hs : ∀ X : Cx, starEach [a, b] X.env = [(false, eval a X.env), (false, eval b X.env)] := by intro _; rfl) (hs2 : ∀ X : Cx, starEach [b] X.env = [(false, eval b X.env)] := by intro _; rfl) :
    MI Γ tg (.Call (.Name "range" p) [a, b] [] pos) en (bnd m fun x => bnd n fun y => range2W x y) :=
  mi_of (fun X hX => pi_range2 (gl_of hX hg) (by rw [hX.mg]; exact hm) (pa_cons (cE_pe hX a) (pa_cons (cE_pe hX b) pa_nil (hs2 X)) (by rw [hs, hs2])) (hs X) (hs2 X)) fun bg H0 σ H F r Q hm R k => h bg H0 σ H F r _ hm _ fun v d H1 F1 s1 hd q1 =>
    h2 bg H0 σ H1 F1 (r.step s1) _ q1 _ fun v2 d2 H2 F2 s2 hd2 q2 => by
      cases hd <;> cases hd2 <;> first | exact q2.elim | skip
      exact ⟨_, _, rfl, ⟨q2.1.1.1, q2.1.1.2, q2.1.2.1, q2.1.2.2⟩, k _ _ _ _ (s1.trans s2) its_rng q2.2⟩
end PW

set_option Elab.async false
set_option linter.all false
set_option maxRecDepth 100000
set_option maxHeartbeats 4000000
namespace PW
open PySem PySem.Spec PyProof.Rows L2

theorem Step.re {bg : Bg} {H0 F0 H F : Hp} (s : Step bg H0 F0 H F) (b : BagOk bg F0 H0) : Step bg H0 F H F ∧ BagOk bg F H0 :=
  ⟨⟨.refl F, fun a h1 h2 => absurd h1 h2, s.kp, s.ex, s.bag⟩, fun p q e => by
    obtain ⟨h1, _, _, h4⟩ := b p q e
    obtain ⟨_, g2, g3, _⟩ := s.bag p q e
    exact ⟨h1, g2, g3, h4⟩⟩
theorem Step.glue {bg : Bg} {H0 F0 H F H' F' : Hp} (s : Step bg H0 F0 H F) (t : Step bg H0 F H' F') : Step bg H0 F0 H' F' :=
  ⟨s.ff.trans t.ff, fun a h1 h2 => by
    by_cases h : F a = none
    · exact t.new a h h2
    · exact s.new a h1 h, t.kp, t.ex, t.bag⟩

/-! ### for -/
def nextF {S : Type} (k : S → Wp (S ⊕ D)) : Fl S S → Wp (S ⊕ D)
  | .nx s => k s
  | .ct s => k s
  | .bk s => ret (.inl s)
  | .rt d => ret (.inr d)
def forF {S : Type} (b : S → D → Wp (Fl S S)) : List D → S → Wp (S ⊕ D)
  | [], s => ret (.inl s)
  | d :: ds, s => bnd (b s d) (nextF (forF b ds))
def endF {S S' T : Type} (k : S → Wp (Fl S' T)) : S ⊕ D → Wp (Fl S' T)
  | .inl s => k s
  | .inr d => ret (.rt d)
section
variable {S T S1 : Type} {Γ : G} {en : En} {enc : S → En} {ent : T → En} {rest body : List Stmt} {pos : Pos} {tg it c : Expr}
theorem ms_forF {β : Type} {m : Wp (List D)} {u : D → Wp β} {st : S1 → β → En} {sl : List Nat} {b : S1 → β → Wp (Fl S1 S1)} {k : S1 → Wp (Fl S T)} (en1 : S1 → En) (s0 : S1) (w0 : Wk (en1 s0) en) (hi : MI Γ tg it en m) (hg : ∀ s, MG Γ tg (en1 s) u (st s) sl)
    (hb : ∀ s a, MS Γ body (st s a) (b s a) en1 en1) (hr : ∀ s, MS Γ rest (en1 s) (k s) enc ent) (hs : ∀ (X : Cx) x, foldedSetIterable it X.env x = pure x := by intro _ _; rfl) :
    MS Γ (.For tg it body [] pos :: rest) en (bnd m fun ds => bnd (forF (fun s d => bnd (u d) (b s)) ds s0) (endF k)) enc ent :=
  ms_of (fun X h => pss_cons (ps_for (by rw [h.xe]; exact PassesOwn.never) h.calm (cI_pi h tg it) (cG_pg h tg) (cS_ps h body) (hs X)) (cS_ps h rest)) fun bg H0 F0 σ H F r st0 bk Q hm Dn k1 k2 k3 k4 =>
    hi bg H0 σ H F r _ hm _ fun J H1 F1 ds s1 its q1 => by
      have r1 := r.step s1
      have st1 := st0.trans s1
      refine ⟨fun i n σ2 H2 => ∃ s F2, Rel Γ.K bg H0 (en1 s) σ2 H2 F2 ∧ Step bg H0 F0 H2 F2 ∧ Same F1 F2 ∧ n = ds.length - i ∧ i ≤ ds.length ∧ forF (fun s d => bnd (u d) (b s)) (ds.drop i) s (fun e => endF k e Q),
        ⟨ds.length, s0, F1, r1.weak w0, st1, .refl F1, by omega, Nat.zero_le _, by rw [List.drop_zero]; exact q1⟩, ?_⟩
      rintro i n σ2 H2 ⟨s, F2, r2, st2, sm, rfl, hle, q2⟩
      by_cases hlt : i < ds.length
      · refine .inr ⟨its.go i H2 F2 hlt sm r2.ex, fun σ3 H3 => ∃ s F3, Rel Γ.K bg H0 (en1 s) σ3 H3 F3 ∧ Step bg H0 F0 H3 F3 ∧ Same F1 F3 ∧ forF (fun s d => bnd (u d) (b s)) (ds.drop (i + 1)) s (fun e => endF k e Q), fun σ3 H3 ⟨s3, F3, h1, h2, h3, h4⟩ => ⟨ds.length - (i + 1), by omega, s3, F3, h1, h2, h3, rfl, hlt, h4⟩, fun x H3 y => ?_⟩
        obtain ⟨F3, d, e3, s3, hx⟩ := its.yl i H2 F2 x H3 hlt sm r2.ex r2.bag y
        have ed : ds.drop i = d :: ds.drop (i + 1) := by
          obtain ⟨hl, ev⟩ := List.getElem?_eq_some_iff.mp e3
          rw [List.drop_eq_getElem_cons hl, ev]
        rw [ed] at q2
        have r3 := r2.step s3
        have st3 := st2.trans s3
        obtain ⟨re1, re2⟩ := st3.re bk
        refine hg s bg H0 σ2 H3 F3 r3 x d hx _ q2 _ fun a σ4 r4 _ q4 => ?_
        refine hb s a bg H0 F3 σ4 H3 F3 r4 re1 re2 _ q4 _ (fun s' σ5 H5 F5 r5 st5 q5 => ?_) (fun v d' H5 F5 st5 hd q5 => ?_) (fun s' σ5 H5 F5 r5 st5 q5 => ?_) (fun s' σ5 H5 F5 r5 st5 q5 => ?_)
        · exact ⟨s', F5, r5, st3.glue st5, (sm.trans s3.ff).trans st5.ff, q5⟩
        · exact k2 v d' H5 F5 (st3.glue st5) hd q5
        · exact hr s' bg H0 F0 σ5 H5 F5 r5 (st3.glue st5) bk Q q5 Dn k1 k2 k3 k4
        · exact ⟨s', F5, r5, st3.glue st5, (sm.trans s3.ff).trans st5.ff, q5⟩
      · have e : i = ds.length := by omega
        subst e
        rw [List.drop_length] at q2
        exact .inl ⟨its.stop H2 F2 sm r2.ex, hr s bg H0 F0 σ2 H2 F2 r2 st2 bk Q q2 Dn k1 k2 k3 k4⟩
def forW {S : Type} (b : S → D → Wp S) : List D → S → Wp S
  | [], s => ret s
  | d :: ds, s => bnd (b s d) (forW b ds)
theorem forF_nx {S : Type} (b : S → D → Wp S) : ∀ (ds : List D) (s : S), forF (fun s d => bnd (b s d) fun s' => ret (.nx s')) ds s = bnd (forW b ds s) fun s' => ret (.inl s')
  | [], s => rfl
  | d :: ds, s => by
    funext Q
    show b s d (fun s' => forF (fun s d => bnd (b s d) fun s' => ret (.nx s')) ds s' Q) = b s d (fun s' => bnd (forW b ds s') (fun s' => ret (.inl s')) Q)
    congr 1
    funext s'
    rw [forF_nx b ds s']
theorem ms_for {β : Type} {m : Wp (List D)} {u : D → Wp β} {st : S1 → β → En} {sl : List Nat} {b : S1 → β → Wp S1} {k : S1 → Wp (Fl S T)} (en1 : S1 → En) (s0 : S1) (w0 : Wk (en1 s0) en) (hi : MI Γ tg it en m) (hg : ∀ s, MG Γ tg (en1 s) u (st s) sl)
    (hb : ∀ s a, MN Γ body (st s a) (b s a) en1) (hr : ∀ s, MS Γ rest (en1 s) (k s) enc ent) (hs : ∀ (X : Cx) x, foldedSetIterable it X.env x = pure x := by intro _ _; rfl) :
    MS Γ (.For tg it body [] pos :: rest) en (bnd m fun ds => bnd (forW (fun s d => bnd (u d) (b s)) ds s0) k) enc ent := by
  have := ms_forF (pos := pos) en1 s0 w0 hi hg (fun s a => hb s a S1 en1) hr hs
  refine cast (congrArg (fun z => MS Γ (.For tg it body [] pos :: rest) en z enc ent) ?_) this
  funext Q
  show m _ = m _
  congr 1
  funext ds
  show forF (fun s d => bnd (bnd (u d) (b s)) fun s' => ret (.nx s')) ds s0 _ = _
  rw [forF_nx]
  rfl
theorem mn_for {β : Type} {m : Wp (List D)} {u : D → Wp β} {st : S1 → β → En} {sl : List Nat} {b : S1 → β → Wp S1} {k : S1 → Wp S} (en1 : S1 → En) (s0 : S1) (w0 : Wk (en1 s0) en) (hi : MI Γ tg it en m) (hg : ∀ s, MG Γ tg (en1 s) u (st s) sl)
    (hb : ∀ s a, MN Γ body (st s a) (b s a) en1) (hr : ∀ s, MN Γ rest (en1 s) (k s) enc) (hs : ∀ (X : Cx) x, foldedSetIterable it X.env x = pure x := by intro _ _; rfl) :
    MN Γ (.For tg it body [] pos :: rest) en (bnd m fun ds => bnd (forW (fun s d => bnd (u d) (b s)) ds s0) k) enc := fun T ent => ms_for en1 s0 w0 hi hg hb (fun s => hr s T ent) hs
theorem mr_for {β : Type} {m : Wp (List D)} {u : D → Wp β} {st : S1 → β → En} {sl : List Nat} {b : S1 → β → Wp S1} {k : S1 → Wp D} (en1 : S1 → En) (s0 : S1) (w0 : Wk (en1 s0) en) (hi : MI Γ tg it en m) (hg : ∀ s, MG Γ tg (en1 s) u (st s) sl)
    (hb : ∀ s a, MN Γ body (st s a) (b s a) en1) (hr : ∀ s, MR Γ rest (en1 s) (k s)) (hs : ∀ (X : Cx) x, foldedSetIterable it X.env x = pure x := by intro _ _; rfl) :
    MR Γ (.For tg it body [] pos :: rest) en (bnd m fun ds => bnd (forW (fun s d => bnd (u d) (b s)) ds s0) k) := fun S T enc ent => ms_for en1 s0 w0 hi hg hb (fun s => hr s S T enc ent) hs
/-- a loop that may return, in a block that always returns -/
def endR {S : Type} (k : S → Wp D) : S ⊕ D → Wp D
  | .inl s => k s
  | .inr d => ret d
theorem mr_forF {β : Type} {m : Wp (List D)} {u : D → Wp β} {st : S1 → β → En} {sl : List Nat} {b : S1 → β → Wp (Fl S1 S1)} {k : S1 → Wp D} (en1 : S1 → En) (s0 : S1) (w0 : Wk (en1 s0) en) (hi : MI Γ tg it en m) (hg : ∀ s, MG Γ tg (en1 s) u (st s) sl)
    (hb : ∀ s a, MS Γ body (st s a) (b s a) en1 en1) (hr : ∀ s, MR Γ rest (en1 s) (k s)) (hs : ∀ (X : Cx) x, foldedSetIterable it X.env x = pure x := by intro _ _; rfl) :
    MR Γ (.For tg it body [] pos :: rest) en (bnd m fun ds => bnd (forF (fun s d => bnd (u d) (b s)) ds s0) (endR k)) := fun S T enc ent => by
  have := ms_forF (pos := pos) en1 s0 w0 hi hg hb (fun s => hr s S T enc ent) hs
  refine cast (congrArg (fun z => MS Γ (.For tg it body [] pos :: rest) en z enc ent) ?_) this
  funext Q
  show m _ = m _
  congr 1
  funext ds
  show forF _ ds s0 _ = forF _ ds s0 _
  congr 1
  funext e
  cases e <;> rfl
end
/-! ### while -/
def whileF {S : Type} (c : S → Wp Bool) (b : S → Wp (Fl S S)) : Nat → S → Wp (S ⊕ D)
  | 0, _ => nay
  | n + 1, s => bnd (c s) fun t => ifW t (bnd (b s) (nextF (whileF c b n))) (ret (.inl s))
def loopF {S : Type} (c : S → Wp Bool) (b : S → Wp (Fl S S)) (s : S) : Wp (S ⊕ D) := fun Q => ∃ n, whileF c b n s Q
def whileW {S : Type} (c : S → Wp Bool) (b : S → Wp S) : Nat → S → Wp S
  | 0, _ => nay
  | n + 1, s => bnd (c s) fun t => ifW t (bnd (b s) (whileW c b n)) (ret s)
def loopW {S : Type} (c : S → Wp Bool) (b : S → Wp S) (s : S) : Wp S := fun Q => ∃ n, whileW c b n s Q
theorem whileF_nx {S : Type} (c : S → Wp Bool) (b : S → Wp S) : ∀ (n : Nat) (s : S), whileF c (fun s => bnd (b s) fun s' => ret (.nx s')) n s = bnd (whileW c b n s) fun s' => ret (.inl s')
  | 0, s => rfl
  | n + 1, s => by
    funext Q
    show c s _ = c s _
    congr 1
    funext t
    cases t with
    | false => rfl
    | true =>
      show b s (fun s' => whileF c (fun s => bnd (b s) fun s' => ret (.nx s')) n s' Q) = b s (fun s' => bnd (whileW c b n s') (fun s' => ret (.inl s')) Q)
      congr 1
      funext s'
      rw [whileF_nx c b n s']
section
variable {S T S1 : Type} {Γ : G} {en : En} {enc : S → En} {ent : T → En} {rest body : List Stmt} {pos : Pos} {c : Expr}
theorem ms_whileF {mc : S1 → Wp Bool} {b : S1 → Wp (Fl S1 S1)} {k : S1 → Wp (Fl S T)} (en1 : S1 → En) (s0 : S1) (w0 : Wk (en1 s0) en) (hc : ∀ s, MT Γ c (en1 s) (mc s)) (hb : ∀ s, MS Γ body (en1 s) (b s) en1 en1) (hr : ∀ s, MS Γ rest (en1 s) (k s) enc ent) :
    MS Γ (.While c body [] pos :: rest) en (bnd (loopF mc b s0) (endF k)) enc ent :=
  ms_of (fun X h => pss_cons (ps_while (by rw [h.xe]; exact PassesOwn.never) (cT_pt h c) (cS_ps h body)) (cS_ps h rest)) fun bg H0 F0 σ H F r st0 bk Q hm Dn k1 k2 k3 k4 => by
    obtain ⟨n0, hm⟩ := hm
    refine ⟨fun n σ2 H2 => ∃ s F2, Rel Γ.K bg H0 (en1 s) σ2 H2 F2 ∧ Step bg H0 F0 H2 F2 ∧ whileF mc b n s (fun e => endF k e Q), ⟨n0, s0, F, r.weak w0, st0, hm⟩, ?_⟩
    rintro n σ2 H2 ⟨s, F2, r2, st2, q2⟩
    cases n with
    | zero => exact q2.elim
    | succ n =>
      refine hc s bg H0 σ2 H2 F2 r2 _ q2 _ fun t H3 F3 s3 q3 => ?_
      have r3 := r2.step s3
      have st3 := st2.trans s3
      cases t with
      | false => exact iteF (hr s bg H0 F0 σ2 H3 F3 r3 st3 bk Q q3 Dn k1 k2 k3 k4)
      | true =>
        refine iteT ⟨fun σ4 H4 => ∃ s F4, Rel Γ.K bg H0 (en1 s) σ4 H4 F4 ∧ Step bg H0 F0 H4 F4 ∧ whileF mc b n s (fun e => endF k e Q), fun σ4 H4 h => ⟨n, Nat.lt_succ_self _, h⟩, ?_⟩
        refine hb s bg H0 F0 σ2 H3 F3 r3 st3 bk _ q3 _ (fun s' σ5 H5 F5 r5 st5 q5 => ?_) (fun v d' H5 F5 st5 hd q5 => ?_) (fun s' σ5 H5 F5 r5 st5 q5 => ?_) (fun s' σ5 H5 F5 r5 st5 q5 => ?_)
        · exact ⟨s', F5, r5, st5, q5⟩
        · exact k2 v d' H5 F5 st5 hd q5
        · exact hr s' bg H0 F0 σ5 H5 F5 r5 st5 bk Q q5 Dn k1 k2 k3 k4
        · exact ⟨s', F5, r5, st5, q5⟩
theorem mr_whileF {mc : S1 → Wp Bool} {b : S1 → Wp (Fl S1 S1)} {k : S1 → Wp D} (en1 : S1 → En) (s0 : S1) (w0 : Wk (en1 s0) en) (hc : ∀ s, MT Γ c (en1 s) (mc s)) (hb : ∀ s, MS Γ body (en1 s) (b s) en1 en1) (hr : ∀ s, MR Γ rest (en1 s) (k s)) :
    MR Γ (.While c body [] pos :: rest) en (bnd (loopF mc b s0) (endR k)) := fun S T enc ent => by
  have := ms_whileF (pos := pos) en1 s0 w0 hc hb (fun s => hr s S T enc ent)
  refine cast (congrArg (fun z => MS Γ (.While c body [] pos :: rest) en z enc ent) ?_) this
  funext Q
  show loopF mc b s0 _ = loopF mc b s0 _
  congr 1
  funext e
  cases e <;> rfl
theorem ms_while {mc : S1 → Wp Bool} {b : S1 → Wp S1} {k : S1 → Wp (Fl S T)} (en1 : S1 → En) (s0 : S1) (w0 : Wk (en1 s0) en) (hc : ∀ s, MT Γ c (en1 s) (mc s)) (hb : ∀ s, MN Γ body (en1 s) (b s) en1) (hr : ∀ s, MS Γ rest (en1 s) (k s) enc ent) :
    MS Γ (.While c body [] pos :: rest) en (bnd (loopW mc b s0) k) enc ent := by
  have := ms_whileF (pos := pos) en1 s0 w0 hc (fun s => hb s S1 en1) hr
  refine cast (congrArg (fun z => MS Γ (.While c body [] pos :: rest) en z enc ent) ?_) this
  funext Q
  show (∃ n, whileF mc (fun s => bnd (b s) fun s => ret (Fl.nx s)) n s0 _) = ∃ n, whileW mc b n s0 _
  congr 1
  funext n
  rw [whileF_nx]
  rfl
theorem mn_while {mc : S1 → Wp Bool} {b : S1 → Wp S1} {k : S1 → Wp S} (en1 : S1 → En) (s0 : S1) (w0 : Wk (en1 s0) en) (hc : ∀ s, MT Γ c (en1 s) (mc s)) (hb : ∀ s, MN Γ body (en1 s) (b s) en1) (hr : ∀ s, MN Γ rest (en1 s) (k s) enc) :
    MN Γ (.While c body [] pos :: rest) en (bnd (loopW mc b s0) k) enc := fun T ent => ms_while en1 s0 w0 hc hb fun s => hr s T ent
theorem mr_while {mc : S1 → Wp Bool} {b : S1 → Wp S1} {k : S1 → Wp D} (en1 : S1 → En) (s0 : S1) (w0 : Wk (en1 s0) en) (hc : ∀ s, MT Γ c (en1 s) (mc s)) (hb : ∀ s, MN Γ body (en1 s) (b s) en1) (hr : ∀ s, MR Γ rest (en1 s) (k s)) :
    MR Γ (.While c body [] pos :: rest) en (bnd (loopW mc b s0) k) := fun S T enc ent => ms_while en1 s0 w0 hc hb fun s => hr s S T enc ent
end

/-! ### comprehensions -/
def wipeE (en : En) : List Nat → En
  | [] => en
  | v :: vs => (wipeE en vs).set v none
theorem Rel.unset {K : PySem.W.Frag} {bg : Bg} {H0 : Hp} {en : En} {σ : L2.St} {H F : Hp} (r : Rel K bg H0 en σ H F) (i : Nat) : Rel K bg H0 (en.set i none) (σ.set i none) H F := by
  obtain ⟨A, a⟩ := r.slots
  have key : ∀ (j : Nat) (x : SV), (en.set i none)[j]? = some (some x) → j ≠ i ∧ en[j]? = some (some x) := fun j x e => by
    by_cases hj : j = i
    · subst hj
      by_cases hl : j < en.length
      · rw [List.getElem?_set_self hl] at e; cases e
      · rw [List.getElem?_eq_none (by simpa using hl)] at e; cases e
    · rw [List.getElem?_set_ne (Ne.symm hj)] at e
      exact ⟨hj, e⟩
  refine ⟨r.ex, r.bag, A, by simpa using a.len, fun j x e => ?_, fun j ds e => ?_, fun j l ds es e1 e2 ne => ?_, fun j e => ?_⟩
  · obtain ⟨hj, q⟩ := key j _ e
    rw [List.getElem?_set_ne (Ne.symm hj)]
    exact a.val j x q
  · obtain ⟨hj, q⟩ := key j _ e
    rw [List.getElem?_set_ne (Ne.symm hj)]
    exact a.own j ds q
  · exact a.apart j l ds es (key j _ e1).2 (key l _ e2).2 ne
  · obtain ⟨hj, q⟩ := key j _ e
    rw [List.getElem?_set_ne (Ne.symm hj)]
    exact a.bgs j q
theorem Rel.wiped {K : PySem.W.Frag} {bg : Bg} {H0 : Hp} {en : En} {σ : L2.St} {H F : Hp} (r : Rel K bg H0 en σ H F) : ∀ vs : List Nat, Rel K bg H0 (wipeE en vs) (wipe σ vs) H F
  | [] => r
  | v :: vs => (Rel.wiped r vs).unset v
def blkG (Γ : G) (scope : Scope) : G := { Γ with sc := relS scope Γ.sc, own := fun x => scope.names.lookup x == some .cell }
theorem In.blk {Γ : G} {X : Cx} {scope : Scope} (h : Γ.In X) (s : Shared) (H : Hp) (C : Addr) (cl : List (Str × Addr)) (fp : List Addr) : (blkG Γ scope).In (X.blk s H scope (compEnvC scope cl C X.env) fp) :=
  ⟨h.prog, h.w, h.K, h.mg, h.base, h.N, by show relabel scope X.env = relS scope Γ.sc; rw [← h.sc]; rfl, h.calm, h.room, rfl, rfl, h.gd⟩
def compW (f : D → Wp (Option D)) : List D → Wp (List D)
  | [] => ret []
  | d :: ds => bnd (f d) fun o => bnd (compW f ds) fun r => ret (o.toList ++ r)
def compM (f : D → Wp D) : List D → Wp (List D)
  | [] => ret []
  | d :: ds => bnd (f d) fun x => bnd (compM f ds) fun r => ret (x :: r)
theorem compW_all (f : D → Wp D) : ∀ ds : List D, compW (fun d => bnd (f d) fun x => ret (some x)) ds = compM f ds
  | [] => rfl
  | d :: ds => by
    funext Q
    show f d (fun x => bnd (compW _ ds) (fun r => ret ([x] ++ r)) Q) = f d (fun x => bnd (compM f ds) (fun r => ret (x :: r)) Q)
    congr 1
    funext x
    rw [compW_all f ds]
    rfl
theorem wipe_sub (σ : L2.St) (vs : List Nat) : ∀ ws : List Nat, (∀ i ∈ ws, i ∈ vs) → wipe (wipe σ ws) vs = wipe σ vs
  | [], _ => rfl
  | w :: ws, h => by
    show wipe ((wipe σ ws).set w none) vs = wipe σ vs
    rw [wipe_set _ _ vs w (h w (by simp)), wipe_sub σ vs ws fun i hi => h i (by simp [hi])]
/-- the loop of a comprehension, on the heap -/
theorem fv_lc {K : PySem.W.Frag} {β : Type} {wi : TI} {g : TG} {tt : TT} {te : TE} {vs sl : List Nat} {en : En} {m : Wp (List D)} {u : D → Wp β} {st : β → En} {mt : β → Wp Bool} {me : β → Wp D}
    (hi : IV K wi en m) (hg : GV K g (wipeE en vs) u st sl) (hsl : ∀ i ∈ sl, i ∈ vs) (ht : ∀ a, TV K tt (st a) (mt a)) (he : ∀ a, EV K te (st a) (me a)) :
    FV K (tLc wi g tt te vs) en (bnd m fun ds => grd (ds.length ≤ sizeLine) (compW (fun d => bnd (u d) fun a => bnd (mt a) fun t => ifW t (bnd (me a) fun x => ret (some x)) (ret none)) ds)) := by
  intro bg H0 σ H F r Q hm QQ k
  refine hi bg H0 σ H F r _ hm _ ?_
  rintro J H1 F1 ds s1 its ⟨hlen, q1⟩ Dl hD
  have hDH : H Dl = none := s1.freshB r.bag hD
  have nbD : NotBag bg Dl := fresh_not s1.bag hD
  refine ⟨fun i n H2 => ∃ F2 xs acc, Step bg H F H2 F2 ∧ Same F1 F2 ∧ F2 Dl = none ∧ H2 Dl = some (.lst xs) ∧ DqAll K F2 xs acc ∧ acc.length ≤ i ∧ n = ds.length - i ∧ i ≤ ds.length ∧ compW (fun d => bnd (u d) fun a => bnd (mt a) fun t => ifW t (bnd (me a) fun x => ret (some x)) (ret none)) (ds.drop i) (fun rr => Q (acc ++ rr)),
    ⟨ds.length, F1, [], [], s1.trans (step_own s1.ex s1.bag hD), .refl F1, free_of s1.ex hD, upd_same, .nil, Nat.zero_le _, by omega, Nat.zero_le _, by rw [List.drop_zero]; exact q1⟩, ?_⟩
  rintro i n H2 ⟨F2, xs, acc, st2, sm, f2, h2, hd2, hacc, rfl, hle, q2⟩
  by_cases hlt : i < ds.length
  · refine .inr ⟨its.go i H2 F2 hlt sm st2.ex, fun H3 => ∃ F3 xs acc, Step bg H F H3 F3 ∧ Same F1 F3 ∧ F3 Dl = none ∧ H3 Dl = some (.lst xs) ∧ DqAll K F3 xs acc ∧ acc.length ≤ i + 1 ∧ compW (fun d => bnd (u d) fun a => bnd (mt a) fun t => ifW t (bnd (me a) fun x => ret (some x)) (ret none)) (ds.drop (i + 1)) (fun rr => Q (acc ++ rr)),
      fun H3 ⟨F3, xs, acc, h1, h2, h3, h4, h5, h6, h7⟩ => ⟨ds.length - (i + 1), by omega, F3, xs, acc, h1, h2, h3, h4, h5, h6, rfl, hlt, h7⟩, fun x H3 y => ?_⟩
    obtain ⟨F3, d, e3, s3, hx⟩ := its.yl i H2 F2 x H3 hlt sm st2.ex st2.bag y
    have ed : ds.drop i = d :: ds.drop (i + 1) := by
      obtain ⟨hl, ev⟩ := List.getElem?_eq_some_iff.mp e3
      rw [List.drop_eq_getElem_cons hl, ev]
    rw [ed] at q2
    -- the new list stays nobody's
    have stayF : ∀ {Ha Fa Hb Fb : Hp}, Step bg Ha Fa Hb Fb → Fa Dl = none → (∃ zs, Ha Dl = some (.lst zs)) → Fb Dl = none := fun {Ha Fa Hb Fb} s f ⟨zs, h⟩ => by
      cases q : Fb Dl with
      | none => rfl
      | some o =>
        have := s.new _ f (by rw [q]; simp)
        rw [h] at this
        cases this
    have st3 := st2.trans s3
    have f3 := stayF s3 f2 ⟨_, h2⟩
    have h3 := s3.kp _ _ nbD h2
    have r3 := (r.step st3).wiped vs
    refine hg bg H0 _ H3 F3 r3 x d hx _ q2 _ fun a σ4 r4 w4 q4 => ⟨w4 vs hsl |>.trans ?_, ?_⟩
    · exact wipe_sub σ vs vs fun _ h => h
    refine ht a bg H0 σ4 H3 F3 r4 _ q4 _ fun t H5 F5 s5 q5 => ?_
    have st5 := st3.trans s5
    have f5 := stayF s5 f3 ⟨_, h3⟩
    have h5 := s5.kp _ _ nbD h3
    cases t with
    | false => exact iteF ⟨F5, xs, acc, st5, (sm.trans s3.ff).trans s5.ff, f5, h5, dpa_mono (s3.ff.trans s5.ff) _ _ hd2, by omega, q5⟩
    | true =>
      refine iteT (he a bg H0 σ4 H5 F5 (r4.step s5) _ q5 _ fun v z H6 F6 s6 hz q6 => ?_)
      have st6 := st5.trans s6
      have f6 := stayF s6 f5 ⟨_, h5⟩
      have h6 := s6.kp _ _ nbD h5
      refine ⟨xs, h6, by rw [dpa_len hd2]; omega, F6, xs ++ [v], acc ++ [z], ⟨st6.ff, st6.new, fun b o n e => ?_, fun b o e => ?_, fun p q e => ?_⟩, ((sm.trans s3.ff).trans s5.ff).trans s6.ff, f6, upd_same, dpa_append (dpa_mono ((s3.ff.trans s5.ff).trans s6.ff) _ _ hd2) (.cons hz .nil), by rw [List.length_append]; show acc.length + 1 ≤ _; omega, ?_⟩
      · rw [upd_ne (ne_of_none e hDH)]; exact st6.kp b o n e
      · rw [upd_ne (ne_of_none e f6)]; exact st6.ex b o e
      · obtain ⟨g1, g2, g3, cs, c, m', g4, g5, g6⟩ := st6.bag p q e
        obtain ⟨n1, n2⟩ := nbD p q e
        exact ⟨g1, g2, g3, cs, c, m', by rw [upd_ne n1.symm]; exact g4, by rw [upd_ne n2.symm]; exact g5, g6⟩
      · have e1 : (fun rr => Q ((acc ++ [z]) ++ rr)) = fun rr => Q (acc ++ ([z] ++ rr)) := by
          funext rr; rw [List.append_assoc]
        rw [e1]
        exact q6
  · have e : i = ds.length := by omega
    subst e
    rw [List.drop_length] at q2
    refine .inl ⟨its.stop H2 F2 sm st2.ex, k Dl xs acc H2 F2 st2 hDH f2 h2 hd2 ?_⟩
    have q3 : Q (acc ++ []) := q2
    rw [List.append_nil] at q3
    exact q3
end PW

set_option Elab.async false
set_option linter.all false
set_option maxRecDepth 100000
set_option maxHeartbeats 4000000
namespace PW
open PySem PySem.Spec PyProof.Rows L2

section
variable {S T β : Type} {Γ : G} {en : En} {enc : S → En} {ent : T → En} {rest : List Stmt} {pos py spos : Pos} {elt tg iter c : Expr} {scope : Scope} {own : List (Str × Nat)} {m : Wp (List D)} {u : D → Wp β} {st : β → En} {sl : List Nat} {mt : β → Wp Bool} {me : β → Wp D}
theorem tv_yes {K : PySem.W.Frag} {en : En} : TV K tYes en (ret true) := fun bg H0 σ H F r Q hm QQ k => k _ _ _ r.refl hm
theorem lc0_eq {u : D → Wp β} {me : β → Wp D} : (fun ds : List D => grd (ds.length ≤ sizeLine) (compW (fun d => bnd (u d) fun a => bnd (ret true) fun t => ifW t (bnd (me a) fun x => ret (some x)) (ret none)) ds)) = fun ds => grd (ds.length ≤ sizeLine) (compM (fun d => bnd (u d) me) ds) := by
  funext ds
  rw [← compW_all]
  rfl
/-- [e for t in it] -/
theorem mf_lc0 (own : List (Str × Nat)) (nd : Γ.N.Nodup) (ok : blkC Γ.N Γ.sc scope own = true) (hi : MI Γ tg iter en m) (hg : MG (blkG Γ scope) tg (wipeE en (own.map (·.2))) u st sl) (he : ∀ a, ME (blkG Γ scope) elt (st a) (me a)) (hsl : ∀ i ∈ sl, i ∈ own.map (·.2) := by decide)
    (hs : ∀ (X : Cx) x, foldedSetIterable iter X.env x = pure x := by intro _ _; rfl) : MFr Γ (.ListComp elt [⟨tg, iter, [], 0⟩] scope pos) en (bnd m fun ds => grd (ds.length ≤ sizeLine) (compM (fun d => bnd (u d) me) ds)) := by
  rw [← lc0_eq]
  exact mf_of (fun X h => pe_lc h.calm (by rw [h.N]; exact nd) (cI_pi h tg iter) (blkOk_by (by rw [h.N, h.sc]; exact ok)) (fun s H C cl fp => cG_pg (In.blk h s H C cl fp) tg) (fun s H C cl fp => pts_nil) (fun s H C cl fp => cE_pe (In.blk h s H C cl fp) elt) (hs X)) (fv_lc hi hg hsl (fun _ => tv_yes) he)
/-- [e for t in it if c] -/
theorem mf_lc1 (own : List (Str × Nat)) (nd : Γ.N.Nodup) (ok : blkC Γ.N Γ.sc scope own = true) (hi : MI Γ tg iter en m) (hg : MG (blkG Γ scope) tg (wipeE en (own.map (·.2))) u st sl) (ht : ∀ a, MT (blkG Γ scope) c (st a) (mt a)) (he : ∀ a, ME (blkG Γ scope) elt (st a) (me a)) (hsl : ∀ i ∈ sl, i ∈ own.map (·.2) := by decide)
    (hs : ∀ (X : Cx) x, foldedSetIterable iter X.env x = pure x := by intro _ _; rfl) : MFr Γ (.ListComp elt [⟨tg, iter, [c], 0⟩] scope pos) en (bnd m fun ds => grd (ds.length ≤ sizeLine) (compW (fun d => bnd (u d) fun a => bnd (mt a) fun t => ifW t (bnd (me a) fun x => ret (some x)) (ret none)) ds)) :=
  mf_of (fun X h => pe_lc h.calm (by rw [h.N]; exact nd) (cI_pi h tg iter) (blkOk_by (by rw [h.N, h.sc]; exact ok)) (fun s H C cl fp => cG_pg (In.blk h s H C cl fp) tg) (fun s H C cl fp => pts_one (cT_pt (In.blk h s H C cl fp) c)) (fun s H C cl fp => cE_pe (In.blk h s H C cl fp) elt) (hs X)) (fv_lc hi hg hsl ht he)
/-- y = [..] on one line, y a plain local -/
theorem ms_setF {y : Str} {t : TE} {e : Expr} {k : List D → Wp (Fl S T)} (i : Nat) (q : FV Γ.K t en m) (h : ∀ X, Γ.In X → PS X (.Assign [.Name y py] e spos) (tAsg t (gName i))) (hr : ∀ ds, MS Γ rest (en.set i (some (.own ds))) (k ds) enc ent) : MS Γ (.Assign [.Name y py] e spos :: rest) en (bnd m k) enc ent :=
  ms_of (fun X hX => pss_cons (h X hX) (cS_ps hX rest)) fun bg H0 F0 σ H F r st b Q hm Dn k1 k2 k3 k4 =>
    q bg H0 σ H F r _ hm _ fun a xs ds H' F' s n f ha hd q => hr ds bg H0 F0 _ H' F' (r.set (v := .ref a) (sv := .own ds) s (fr_of st b) ⟨a, xs, rfl, n, f, ha, hd⟩ i) (st.trans s) b Q q Dn k1 k2 k3 k4
theorem ms_setLc0 {y : Str} {k : List D → Wp (Fl S T)} (i : Nat) (own : List (Str × Nat)) (nd : Γ.N.Nodup) (hk : Γ.sc.kind = .function) (hy : Γ.N[i]? = some y) (hyl : Γ.sc.names.lookup y = some .local) (ok : blkC Γ.N Γ.sc scope own = true) (hi : MI Γ tg iter en m) (hg : MG (blkG Γ scope) tg (wipeE en (own.map (·.2))) u st sl) (he : ∀ a, ME (blkG Γ scope) elt (st a) (me a))
    (hr : ∀ ds, MS Γ rest (en.set i (some (.own ds))) (k ds) enc ent) (hsl : ∀ i ∈ sl, i ∈ own.map (·.2) := by decide) (hl : (py.line == pos.line) = true := by rfl) (ha : (scope.names.any fun (n, k) => n == y && (k == .local || k == .cell)) = false := by decide +kernel)
    (hs : ∀ (X : Cx) x, foldedSetIterable iter X.env x = pure x := by intro _ _; rfl) : MS Γ (.Assign [.Name y py] (.ListComp elt [⟨tg, iter, [], 0⟩] scope pos) spos :: rest) en (bnd (bnd m fun ds => grd (ds.length ≤ sizeLine) (compM (fun d => bnd (u d) me) ds)) k) enc ent := by
  rw [← lc0_eq]
  exact ms_setF i (fv_lc hi hg hsl (fun _ => tv_yes) he) (fun X h => ps_setLc h.calm (by rw [h.N]; exact nd) (by rw [h.N]; exact hy) (by rw [h.sc]; exact hyl) (sw_true (by rw [h.sc]; exact hk) (by rw [h.sc]; exact hyl) hl ha) (cI_pi h tg iter) (blkOk_by (by rw [h.N, h.sc]; exact ok)) (fun s H C cl fp => cG_pg (In.blk h s H C cl fp) tg) (fun s H C cl fp => pts_nil) (fun s H C cl fp => cE_pe (In.blk h s H C cl fp) elt) (hs X)) hr
theorem ms_setLc1 {y : Str} {k : List D → Wp (Fl S T)} (i : Nat) (own : List (Str × Nat)) (nd : Γ.N.Nodup) (hk : Γ.sc.kind = .function) (hy : Γ.N[i]? = some y) (hyl : Γ.sc.names.lookup y = some .local) (ok : blkC Γ.N Γ.sc scope own = true) (hi : MI Γ tg iter en m) (hg : MG (blkG Γ scope) tg (wipeE en (own.map (·.2))) u st sl) (ht : ∀ a, MT (blkG Γ scope) c (st a) (mt a)) (he : ∀ a, ME (blkG Γ scope) elt (st a) (me a))
    (hr : ∀ ds, MS Γ rest (en.set i (some (.own ds))) (k ds) enc ent) (hsl : ∀ i ∈ sl, i ∈ own.map (·.2) := by decide) (hl : (py.line == pos.line) = true := by rfl) (ha : (scope.names.any fun (n, k) => n == y && (k == .local || k == .cell)) = false := by decide +kernel)
    (hs : ∀ (X : Cx) x, foldedSetIterable iter X.env x = pure x := by intro _ _; rfl) : MS Γ (.Assign [.Name y py] (.ListComp elt [⟨tg, iter, [c], 0⟩] scope pos) spos :: rest) en (bnd (bnd m fun ds => grd (ds.length ≤ sizeLine) (compW (fun d => bnd (u d) fun a => bnd (mt a) fun t => ifW t (bnd (me a) fun x => ret (some x)) (ret none)) ds)) k) enc ent :=
  ms_setF i (fv_lc hi hg hsl ht he) (fun X h => ps_setLc h.calm (by rw [h.N]; exact nd) (by rw [h.N]; exact hy) (by rw [h.sc]; exact hyl) (sw_true (by rw [h.sc]; exact hk) (by rw [h.sc]; exact hyl) hl ha) (cI_pi h tg iter) (blkOk_by (by rw [h.N, h.sc]; exact ok)) (fun s H C cl fp => cG_pg (In.blk h s H C cl fp) tg) (fun s H C cl fp => pts_one (cT_pt (In.blk h s H C cl fp) c)) (fun s H C cl fp => cE_pe (In.blk h s H C cl fp) elt) (hs X)) hr
theorem mn_setLc0 {y : Str} {k : List D → Wp S} (i : Nat) (own : List (Str × Nat)) (nd : Γ.N.Nodup) (hk : Γ.sc.kind = .function) (hy : Γ.N[i]? = some y) (hyl : Γ.sc.names.lookup y = some .local) (ok : blkC Γ.N Γ.sc scope own = true) (hi : MI Γ tg iter en m) (hg : MG (blkG Γ scope) tg (wipeE en (own.map (·.2))) u st sl) (he : ∀ a, ME (blkG Γ scope) elt (st a) (me a))
    (hr : ∀ ds, MN Γ rest (en.set i (some (.own ds))) (k ds) enc) (hsl : ∀ i ∈ sl, i ∈ own.map (·.2) := by decide) (hl : (py.line == pos.line) = true := by rfl) (ha : (scope.names.any fun (n, k) => n == y && (k == .local || k == .cell)) = false := by decide +kernel)
    (hs : ∀ (X : Cx) x, foldedSetIterable iter X.env x = pure x := by intro _ _; rfl) : MN Γ (.Assign [.Name y py] (.ListComp elt [⟨tg, iter, [], 0⟩] scope pos) spos :: rest) en (bnd (bnd m fun ds => grd (ds.length ≤ sizeLine) (compM (fun d => bnd (u d) me) ds)) k) enc := fun T ent =>
  ms_setLc0 (k := fun a => bnd (k a) fun s => ret (.nx s)) i own nd hk hy hyl ok hi hg he (fun ds => hr ds T ent) hsl hl ha hs
theorem mn_setLc1 {y : Str} {k : List D → Wp S} (i : Nat) (own : List (Str × Nat)) (nd : Γ.N.Nodup) (hk : Γ.sc.kind = .function) (hy : Γ.N[i]? = some y) (hyl : Γ.sc.names.lookup y = some .local) (ok : blkC Γ.N Γ.sc scope own = true) (hi : MI Γ tg iter en m) (hg : MG (blkG Γ scope) tg (wipeE en (own.map (·.2))) u st sl) (ht : ∀ a, MT (blkG Γ scope) c (st a) (mt a)) (he : ∀ a, ME (blkG Γ scope) elt (st a) (me a))
    (hr : ∀ ds, MN Γ rest (en.set i (some (.own ds))) (k ds) enc) (hsl : ∀ i ∈ sl, i ∈ own.map (·.2) := by decide) (hl : (py.line == pos.line) = true := by rfl) (ha : (scope.names.any fun (n, k) => n == y && (k == .local || k == .cell)) = false := by decide +kernel)
    (hs : ∀ (X : Cx) x, foldedSetIterable iter X.env x = pure x := by intro _ _; rfl) : MN Γ (.Assign [.Name y py] (.ListComp elt [⟨tg, iter, [c], 0⟩] scope pos) spos :: rest) en (bnd (bnd m fun ds => grd (ds.length ≤ sizeLine) (compW (fun d => bnd (u d) fun a => bnd (mt a) fun t => ifW t (bnd (me a) fun x => ret (some x)) (ret none)) ds)) k) enc := fun T ent =>
  ms_setLc1 (k := fun a => bnd (k a) fun s => ret (.nx s)) i own nd hk hy hyl ok hi hg ht he (fun ds => hr ds T ent) hsl hl ha hs
theorem mr_setLc0 {y : Str} {k : List D → Wp D} (i : Nat) (own : List (Str × Nat)) (nd : Γ.N.Nodup) (hk : Γ.sc.kind = .function) (hy : Γ.N[i]? = some y) (hyl : Γ.sc.names.lookup y = some .local) (ok : blkC Γ.N Γ.sc scope own = true) (hi : MI Γ tg iter en m) (hg : MG (blkG Γ scope) tg (wipeE en (own.map (·.2))) u st sl) (he : ∀ a, ME (blkG Γ scope) elt (st a) (me a))
    (hr : ∀ ds, MR Γ rest (en.set i (some (.own ds))) (k ds)) (hsl : ∀ i ∈ sl, i ∈ own.map (·.2) := by decide) (hl : (py.line == pos.line) = true := by rfl) (ha : (scope.names.any fun (n, k) => n == y && (k == .local || k == .cell)) = false := by decide +kernel)
    (hs : ∀ (X : Cx) x, foldedSetIterable iter X.env x = pure x := by intro _ _; rfl) : MR Γ (.Assign [.Name y py] (.ListComp elt [⟨tg, iter, [], 0⟩] scope pos) spos :: rest) en (bnd (bnd m fun ds => grd (ds.length ≤ sizeLine) (compM (fun d => bnd (u d) me) ds)) k) := fun S T enc ent =>
  ms_setLc0 (k := fun a => bnd (k a) fun s => ret (.rt s)) i own nd hk hy hyl ok hi hg he (fun ds => hr ds S T enc ent) hsl hl ha hs
theorem mr_setLc1 {y : Str} {k : List D → Wp D} (i : Nat) (own : List (Str × Nat)) (nd : Γ.N.Nodup) (hk : Γ.sc.kind = .function) (hy : Γ.N[i]? = some y) (hyl : Γ.sc.names.lookup y = some .local) (ok : blkC Γ.N Γ.sc scope own = true) (hi : MI Γ tg iter en m) (hg : MG (blkG Γ scope) tg (wipeE en (own.map (·.2))) u st sl) (ht : ∀ a, MT (blkG Γ scope) c (st a) (mt a)) (he : ∀ a, ME (blkG Γ scope) elt (st a) (me a))
    (hr : ∀ ds, MR Γ rest (en.set i (some (.own ds))) (k ds)) (hsl : ∀ i ∈ sl, i ∈ own.map (·.2) := by decide) (hl : (py.line == pos.line) = true := by rfl) (ha : (scope.names.any fun (n, k) => n == y && (k == .local || k == .cell)) = false := by decide +kernel)
    (hs : ∀ (X : Cx) x, foldedSetIterable iter X.env x = pure x := by intro _ _; rfl) : MR Γ (.Assign [.Name y py] (.ListComp elt [⟨tg, iter, [c], 0⟩] scope pos) spos :: rest) en (bnd (bnd m fun ds => grd (ds.length ≤ sizeLine) (compW (fun d => bnd (u d) fun a => bnd (mt a) fun t => ifW t (bnd (me a) fun x => ret (some x)) (ret none)) ds)) k) := fun S T enc ent =>
  ms_setLc1 (k := fun a => bnd (k a) fun s => ret (.rt s)) i own nd hk hy hyl ok hi hg ht he (fun ds => hr ds S T enc ent) hsl hl ha hs
end

/-! ### a, b = e; a, b = x, y -/
section
variable {S T : Type} {Γ : G} {en : En} {enc : S → En} {ent : T → En} {rest : List Stmt} {pos : Pos} {tg e : Expr}
/-- names taken from a value -/
theorem ms_unp {β : Type} {m : Wp D} {u : D → Wp β} {st : β → En} {sl : List Nat} {k : β → Wp (Fl S T)} (he : ME Γ e en m) (hg : MG Γ tg en u st sl) (hr : ∀ b, MS Γ rest (st b) (k b) enc ent)
    (hs : ∀ X : Cx, swapsWithSole [tg] e pos.line X.env = pure false := by intro _; rfl) (hw : ∀ v : PySem.Env, v.scope = Γ.sc → swappedStores [tg] e v = pure none := by intro _ _; rfl) (h1 : ∀ X : Cx, (assignEach [tg] X.env).map (·.2) = [assign tg X.env] := by intro _; rfl) :
    MS Γ (.Assign [tg] e pos :: rest) en (bnd m fun d => bnd (u d) k) enc ent :=
  ms_of (fun X h => pss_cons (ps_asg (cE_pe h e) (cG_pg h tg) (hs X) (hw _ h.sc) (h1 X)) (cS_ps h rest)) fun bg H0 F0 σ H F r st0 b Q hm Dn k1 k2 k3 k4 =>
    he bg H0 σ H F r _ hm _ fun v d H' F' s hd q => hg bg H0 σ H' F' (r.step s) v d hd _ q _ fun b2 σ2 r2 _ q2 => hr b2 bg H0 F0 σ2 H' F' r2 (st0.trans s) b Q q2 Dn k1 k2 k3 k4
theorem mn_unp {β : Type} {m : Wp D} {u : D → Wp β} {st : β → En} {sl : List Nat} {k : β → Wp S} (he : ME Γ e en m) (hg : MG Γ tg en u st sl) (hr : ∀ b, MN Γ rest (st b) (k b) enc)
    (hs : ∀ X : Cx, swapsWithSole [tg] e pos.line X.env = pure false := by intro _; rfl) (hw : ∀ v : PySem.Env, v.scope = Γ.sc → swappedStores [tg] e v = pure none := by intro _ _; rfl) (h1 : ∀ X : Cx, (assignEach [tg] X.env).map (·.2) = [assign tg X.env] := by intro _; rfl) :
    MN Γ (.Assign [tg] e pos :: rest) en (bnd m fun d => bnd (u d) k) enc := fun T ent => ms_unp (k := fun a => bnd (k a) fun s => ret (.nx s)) he hg (fun b => hr b T ent) hs hw h1
theorem mr_unp {β : Type} {m : Wp D} {u : D → Wp β} {st : β → En} {sl : List Nat} {k : β → Wp D} (he : ME Γ e en m) (hg : MG Γ tg en u st sl) (hr : ∀ b, MR Γ rest (st b) (k b))
    (hs : ∀ X : Cx, swapsWithSole [tg] e pos.line X.env = pure false := by intro _; rfl) (hw : ∀ v : PySem.Env, v.scope = Γ.sc → swappedStores [tg] e v = pure none := by intro _ _; rfl) (h1 : ∀ X : Cx, (assignEach [tg] X.env).map (·.2) = [assign tg X.env] := by intro _; rfl) :
    MR Γ (.Assign [tg] e pos :: rest) en (bnd m fun d => bnd (u d) k) := fun S T enc ent => ms_unp (k := fun a => bnd (k a) fun s => ret (.rt s)) he hg (fun b => hr b S T enc ent) hs hw h1
end
section
variable {S T : Type} {Γ : G} {en : En} {enc : S → En} {ent : T → En} {rest : List Stmt} {pos : Pos}
theorem ms_par2 {A0 A1 : Type} {jA0 : A0 → SV} {jA1 : A1 → SV} {m0 : Wp A0} {m1 : Wp A1} {x0 x1 : Str} {px0 px1 pt pt2 : Pos} {e0 e1 : Expr} {kt k2 : Nat} {k : A0 → A1 → Wp (Fl S T)} (i0 i1 : Nat) (nd : Γ.N.Nodup) (hi0 : Γ.N[i0]? = some x0) (hi1 : Γ.N[i1]? = some x1) (hx0 : Γ.sc.names.lookup x0 = some .local) (hx1 : Γ.sc.names.lookup x1 = some .local) (h0 : MX Γ e0 en jA0 m0) (h1 : MX Γ e1 en jA1 m1) (hr : ∀ u0 u1, MS Γ rest ((en.set i0 (some (jA0 u0))).set i1 (some (jA1 u1))) (k u0 u1) enc ent) (hne : i0 ≠ i1) (hw : ∀ v : PySem.Env, v.scope = Γ.sc → swappedStores [.Tuple [.Name x0 px0, .Name x1 px1] kt pt] (.Tuple [e0, e1] k2 pt2) v = pure (some [x0, x1])) (hst : ∀ X : Cx, starEach [e0, e1] X.env = (false, eval e0 X.env) :: starEach [e1] X.env ∧ starEach [e1] X.env = (false, eval e1 X.env) :: starEach [] X.env := by intro _; exact ⟨rfl, rfl⟩) (hs : ∀ X : Cx, swapsWithSole [.Tuple [.Name x0 px0, .Name x1 px1] kt pt] (.Tuple [e0, e1] k2 pt2) pos.line X.env = pure false := by intro _; rfl) : MS Γ (.Assign [.Tuple [.Name x0 px0, .Name x1 px1] kt pt] (.Tuple [e0, e1] k2 pt2) pos :: rest) en (bnd m0 fun u0 => bnd m1 fun u1 => k u0 u1) enc ent :=
  ms_of (t := tSeq (tPar i0 i1 (tCons (cE Γ e0) (tCons (cE Γ e1) tNil))) (cS Γ rest)) (fun X h => pss_cons (ps_par h.calm (by rw [h.N]; exact nd) (by rw [h.N]; exact hi0) (by rw [h.N]; exact hi1) hne (by rw [h.sc]; exact hx0) (by rw [h.sc]; exact hx1) (pa_cons (cE_pe h e0) (pa_cons (cE_pe h e1) pa_nil (hst X).2) (hst X).1) (hw _ h.sc) (hs X)) (cS_ps h rest)) fun bg H0 F0 σ H F r st b Q hm Dn k1 k2 k3 k4 => by
    have fr := fr_of st b
    refine h0 bg H0 σ H F r _ hm _ fun v0 u0 H1 F1 s1 c1 q1 => ?_
    have r1 := r.step s1
    have w1 := r.set s1 fr c1 i0
    have st1 := st.trans s1
    refine h1 bg H0 σ H1 F1 r1 _ q1 _ fun v1 u1 H2 F2 s2 c2 q2 => ?_
    have r2 := r1.step s2
    have w2 := w1.set s2 (fr_of st1 b) c2 i1
    have st2 := st1.trans s2
    exact ⟨v0, v1, rfl, hr u0 u1 bg H0 F0 _ H2 F2 w2 st2 b Q q2 Dn k1 k2 k3 k4⟩
theorem mn_par2 {A0 A1 : Type} {jA0 : A0 → SV} {jA1 : A1 → SV} {m0 : Wp A0} {m1 : Wp A1} {x0 x1 : Str} {px0 px1 pt pt2 : Pos} {e0 e1 : Expr} {kt k2 : Nat} {k : A0 → A1 → Wp S} (i0 i1 : Nat) (nd : Γ.N.Nodup) (hi0 : Γ.N[i0]? = some x0) (hi1 : Γ.N[i1]? = some x1) (hx0 : Γ.sc.names.lookup x0 = some .local) (hx1 : Γ.sc.names.lookup x1 = some .local) (h0 : MX Γ e0 en jA0 m0) (h1 : MX Γ e1 en jA1 m1) (hr : ∀ u0 u1, MN Γ rest ((en.set i0 (some (jA0 u0))).set i1 (some (jA1 u1))) (k u0 u1) enc) (hne : i0 ≠ i1) (hw : ∀ v : PySem.Env, v.scope = Γ.sc → swappedStores [.Tuple [.Name x0 px0, .Name x1 px1] kt pt] (.Tuple [e0, e1] k2 pt2) v = pure (some [x0, x1])) (hst : ∀ X : Cx, starEach [e0, e1] X.env = (false, eval e0 X.env) :: starEach [e1] X.env ∧ starEach [e1] X.env = (false, eval e1 X.env) :: starEach [] X.env := by intro _; exact ⟨rfl, rfl⟩) (hs : ∀ X : Cx, swapsWithSole [.Tuple [.Name x0 px0, .Name x1 px1] kt pt] (.Tuple [e0, e1] k2 pt2) pos.line X.env = pure false := by intro _; rfl) : MN Γ (.Assign [.Tuple [.Name x0 px0, .Name x1 px1] kt pt] (.Tuple [e0, e1] k2 pt2) pos :: rest) en (bnd m0 fun u0 => bnd m1 fun u1 => k u0 u1) enc := fun T ent =>
  ms_par2 (k := fun u0 u1 => bnd (k u0 u1) fun s => ret (.nx s)) i0 i1 nd hi0 hi1 hx0 hx1 h0 h1 (fun u0 u1 => hr u0 u1 T ent) hne hw hst hs
theorem mr_par2 {A0 A1 : Type} {jA0 : A0 → SV} {jA1 : A1 → SV} {m0 : Wp A0} {m1 : Wp A1} {x0 x1 : Str} {px0 px1 pt pt2 : Pos} {e0 e1 : Expr} {kt k2 : Nat} {k : A0 → A1 → Wp D} (i0 i1 : Nat) (nd : Γ.N.Nodup) (hi0 : Γ.N[i0]? = some x0) (hi1 : Γ.N[i1]? = some x1) (hx0 : Γ.sc.names.lookup x0 = some .local) (hx1 : Γ.sc.names.lookup x1 = some .local) (h0 : MX Γ e0 en jA0 m0) (h1 : MX Γ e1 en jA1 m1) (hr : ∀ u0 u1, MR Γ rest ((en.set i0 (some (jA0 u0))).set i1 (some (jA1 u1))) (k u0 u1)) (hne : i0 ≠ i1) (hw : ∀ v : PySem.Env, v.scope = Γ.sc → swappedStores [.Tuple [.Name x0 px0, .Name x1 px1] kt pt] (.Tuple [e0, e1] k2 pt2) v = pure (some [x0, x1])) (hst : ∀ X : Cx, starEach [e0, e1] X.env = (false, eval e0 X.env) :: starEach [e1] X.env ∧ starEach [e1] X.env = (false, eval e1 X.env) :: starEach [] X.env := by intro _; exact ⟨rfl, rfl⟩) (hs : ∀ X : Cx, swapsWithSole [.Tuple [.Name x0 px0, .Name x1 px1] kt pt] (.Tuple [e0, e1] k2 pt2) pos.line X.env = pure false := by intro _; rfl) : MR Γ (.Assign [.Tuple [.Name x0 px0, .Name x1 px1] kt pt] (.Tuple [e0, e1] k2 pt2) pos :: rest) en (bnd m0 fun u0 => bnd m1 fun u1 => k u0 u1)  := fun S T enc ent =>
  ms_par2 (k := fun u0 u1 => bnd (k u0 u1) fun s => ret (.rt s)) i0 i1 nd hi0 hi1 hx0 hx1 h0 h1 (fun u0 u1 => hr u0 u1 S T enc ent) hne hw hst hs
theorem ms_par3 {A0 A1 A2 : Type} {jA0 : A0 → SV} {jA1 : A1 → SV} {jA2 : A2 → SV} {m0 : Wp A0} {m1 : Wp A1} {m2 : Wp A2} {x0 x1 x2 : Str} {px0 px1 px2 pt pt2 : Pos} {e0 e1 e2 : Expr} {kt k2 : Nat} {k : A0 → A1 → A2 → Wp (Fl S T)} (i0 i1 i2 : Nat) (nd : Γ.N.Nodup) (hi0 : Γ.N[i0]? = some x0) (hi1 : Γ.N[i1]? = some x1) (hi2 : Γ.N[i2]? = some x2) (hx0 : Γ.sc.names.lookup x0 = some .local) (hx1 : Γ.sc.names.lookup x1 = some .local) (hx2 : Γ.sc.names.lookup x2 = some .local) (h0 : MX Γ e0 en jA0 m0) (h1 : MX Γ e1 en jA1 m1) (h2 : MX Γ e2 en jA2 m2) (hr : ∀ u0 u1 u2, MS Γ rest (((en.set i0 (some (jA0 u0))).set i1 (some (jA1 u1))).set i2 (some (jA2 u2))) (k u0 u1 u2) enc ent) (hne : i0 ≠ i1 ∧ i0 ≠ i2 ∧ i1 ≠ i2) (hw : ∀ v : PySem.Env, v.scope = Γ.sc → swappedStores [.Tuple [.Name x0 px0, .Name x1 px1, .Name x2 px2] kt pt] (.Tuple [e0, e1, e2] k2 pt2) v = pure (some [x0, x1, x2])) (hst : ∀ X : Cx, starEach [e0, e1, e2] X.env = (false, eval e0 X.env) :: starEach [e1, e2] X.env ∧ starEach [e1, e2] X.env = (false, eval e1 X.env) :: starEach [e2] X.env ∧ starEach [e2] X.env = (false, eval e2 X.env) :: starEach [] X.env := by intro _; exact ⟨rfl, rfl, rfl⟩) (hs : ∀ X : Cx, swapsWithSole [.Tuple [.Name x0 px0, .Name x1 px1, .Name x2 px2] kt pt] (.Tuple [e0, e1, e2] k2 pt2) pos.line X.env = pure false := by intro _; rfl) : MS Γ (.Assign [.Tuple [.Name x0 px0, .Name x1 px1, .Name x2 px2] kt pt] (.Tuple [e0, e1, e2] k2 pt2) pos :: rest) en (bnd m0 fun u0 => bnd m1 fun u1 => bnd m2 fun u2 => k u0 u1 u2) enc ent :=
  ms_of (t := tSeq (tPar3 i0 i1 i2 (tCons (cE Γ e0) (tCons (cE Γ e1) (tCons (cE Γ e2) tNil)))) (cS Γ rest)) (fun X h => pss_cons (ps_par3 h.calm (by rw [h.N]; exact nd) (by rw [h.N]; exact hi0) (by rw [h.N]; exact hi1) (by rw [h.N]; exact hi2) hne.1 hne.2.1 hne.2.2 (by rw [h.sc]; exact hx0) (by rw [h.sc]; exact hx1) (by rw [h.sc]; exact hx2) (pa_cons (cE_pe h e0) (pa_cons (cE_pe h e1) (pa_cons (cE_pe h e2) pa_nil (hst X).2.2) (hst X).2.1) (hst X).1) (hw _ h.sc) (hs X)) (cS_ps h rest)) fun bg H0 F0 σ H F r st b Q hm Dn k1 k2 k3 k4 => by
    have fr := fr_of st b
    refine h0 bg H0 σ H F r _ hm _ fun v0 u0 H1 F1 s1 c1 q1 => ?_
    have r1 := r.step s1
    have w1 := r.set s1 fr c1 i0
    have st1 := st.trans s1
    refine h1 bg H0 σ H1 F1 r1 _ q1 _ fun v1 u1 H2 F2 s2 c2 q2 => ?_
    have r2 := r1.step s2
    have w2 := w1.set s2 (fr_of st1 b) c2 i1
    have st2 := st1.trans s2
    refine h2 bg H0 σ H2 F2 r2 _ q2 _ fun v2 u2 H3 F3 s3 c3 q3 => ?_
    have r3 := r2.step s3
    have w3 := w2.set s3 (fr_of st2 b) c3 i2
    have st3 := st2.trans s3
    exact ⟨v0, v1, v2, rfl, hr u0 u1 u2 bg H0 F0 _ H3 F3 w3 st3 b Q q3 Dn k1 k2 k3 k4⟩
theorem mn_par3 {A0 A1 A2 : Type} {jA0 : A0 → SV} {jA1 : A1 → SV} {jA2 : A2 → SV} {m0 : Wp A0} {m1 : Wp A1} {m2 : Wp A2} {x0 x1 x2 : Str} {px0 px1 px2 pt pt2 : Pos} {e0 e1 e2 : Expr} {kt k2 : Nat} {k : A0 → A1 → A2 → Wp S} (i0 i1 i2 : Nat) (nd : Γ.N.Nodup) (hi0 : Γ.N[i0]? = some x0) (hi1 : Γ.N[i1]? = some x1) (hi2 : Γ.N[i2]? = some x2) (hx0 : Γ.sc.names.lookup x0 = some .local) (hx1 : Γ.sc.names.lookup x1 = some .local) (hx2 : Γ.sc.names.lookup x2 = some .local) (h0 : MX Γ e0 en jA0 m0) (h1 : MX Γ e1 en jA1 m1) (h2 : MX Γ e2 en jA2 m2) (hr : ∀ u0 u1 u2, MN Γ rest (((en.set i0 (some (jA0 u0))).set i1 (some (jA1 u1))).set i2 (some (jA2 u2))) (k u0 u1 u2) enc) (hne : i0 ≠ i1 ∧ i0 ≠ i2 ∧ i1 ≠ i2) (hw : ∀ v : PySem.Env, v.scope = Γ.sc → swappedStores [.Tuple [.Name x0 px0, .Name x1 px1, .Name x2 px2] kt pt] (.Tuple [e0, e1, e2] k2 pt2) v = pure (some [x0, x1, x2])) (hst : ∀ X : Cx, starEach [e0, e1, e2] X.env = (false, eval e0 X.env) :: starEach [e1, e2] X.env ∧ starEach [e1, e2] X.env = (false, eval e1 X.env) :: starEach [e2] X.env ∧ starEach [e2] X.env = (false, eval e2 X.env) :: starEach [] X.env := by intro _; exact ⟨rfl, rfl, rfl⟩) (hs : ∀ X : Cx, swapsWithSole [.Tuple [.Name x0 px0, .Name x1 px1, .Name x2 px2] kt pt] (.Tuple [e0, e1, e2] k2 pt2) pos.line X.env = pure false := by intro _; rfl) : MN Γ (.Assign [.Tuple [.Name x0 px0, .Name x1 px1, .Name x2 px2] kt pt] (.Tuple [e0, e1, e2] k2 pt2) pos :: rest) en (bnd m0 fun u0 => bnd m1 fun u1 => bnd m2 fun u2 => k u0 u1 u2) enc := fun T ent =>
  ms_par3 (k := fun u0 u1 u2 => bnd (k u0 u1 u2) fun s => ret (.nx s)) i0 i1 i2 nd hi0 hi1 hi2 hx0 hx1 hx2 h0 h1 h2 (fun u0 u1 u2 => hr u0 u1 u2 T ent) hne hw hst hs
theorem mr_par3 {A0 A1 A2 : Type} {jA0 : A0 → SV} {jA1 : A1 → SV} {jA2 : A2 → SV} {m0 : Wp A0} {m1 : Wp A1} {m2 : Wp A2} {x0 x1 x2 : Str} {px0 px1 px2 pt pt2 : Pos} {e0 e1 e2 : Expr} {kt k2 : Nat} {k : A0 → A1 → A2 → Wp D} (i0 i1 i2 : Nat) (nd : Γ.N.Nodup) (hi0 : Γ.N[i0]? = some x0) (hi1 : Γ.N[i1]? = some x1) (hi2 : Γ.N[i2]? = some x2) (hx0 : Γ.sc.names.lookup x0 = some .local) (hx1 : Γ.sc.names.lookup x1 = some .local) (hx2 : Γ.sc.names.lookup x2 = some .local) (h0 : MX Γ e0 en jA0 m0) (h1 : MX Γ e1 en jA1 m1) (h2 : MX Γ e2 en jA2 m2) (hr : ∀ u0 u1 u2, MR Γ rest (((en.set i0 (some (jA0 u0))).set i1 (some (jA1 u1))).set i2 (some (jA2 u2))) (k u0 u1 u2)) (hne : i0 ≠ i1 ∧ i0 ≠ i2 ∧ i1 ≠ i2) (hw : ∀ v : PySem.Env, v.scope = Γ.sc → swappedStores [.Tuple [.Name x0 px0, .Name x1 px1, .Name x2 px2] kt pt] (.Tuple [e0, e1, e2] k2 pt2) v = pure (some [x0, x1, x2])) (hst : ∀ X : Cx, starEach [e0, e1, e2] X.env = (false, eval e0 X.env) :: starEach [e1, e2] X.env ∧ starEach [e1, e2] X.env = (false, eval e1 X.env) :: starEach [e2] X.env ∧ starEach [e2] X.env = (false, eval e2 X.env) :: starEach [] X.env := by intro _; exact ⟨rfl, rfl, rfl⟩) (hs : ∀ X : Cx, swapsWithSole [.Tuple [.Name x0 px0, .Name x1 px1, .Name x2 px2] kt pt] (.Tuple [e0, e1, e2] k2 pt2) pos.line X.env = pure false := by intro _; rfl) : MR Γ (.Assign [.Tuple [.Name x0 px0, .Name x1 px1, .Name x2 px2] kt pt] (.Tuple [e0, e1, e2] k2 pt2) pos :: rest) en (bnd m0 fun u0 => bnd m1 fun u1 => bnd m2 fun u2 => k u0 u1 u2)  := fun S T enc ent =>
  ms_par3 (k := fun u0 u1 u2 => bnd (k u0 u1 u2) fun s => ret (.rt s)) i0 i1 i2 nd hi0 hi1 hi2 hx0 hx1 hx2 h0 h1 h2 (fun u0 u1 u2 => hr u0 u1 u2 S T enc ent) hne hw hst hs
theorem ms_unx2 {A0 A1 : Type} {jA0 : A0 → SV} {jA1 : A1 → SV} {m0 : Wp A0} {m1 : Wp A1} {x0 x1 : Str} {px0 px1 pt pt2 : Pos} {e0 e1 : Expr} {kt k2 : Nat} {k : A0 → A1 → Wp (Fl S T)} (i0 i1 : Nat) (nd : Γ.N.Nodup) (hi0 : Γ.N[i0]? = some x0) (hi1 : Γ.N[i1]? = some x1) (hx0 : Loc Γ.sc x0) (hx1 : Loc Γ.sc x1) (h0 : MX Γ e0 en jA0 m0) (h1 : MX Γ e1 en jA1 m1) (hr : ∀ u0 u1, MS Γ rest ((en.set i0 (some (jA0 u0))).set i1 (some (jA1 u1))) (k u0 u1) enc ent) (hw : ∀ v : PySem.Env, v.scope = Γ.sc → swappedStores [.Tuple [.Name x0 px0, .Name x1 px1] kt pt] (.Tuple [e0, e1] k2 pt2) v = pure none) (hf : ∀ x, Γ.own x = true) (hst : ∀ X : Cx, starEach [e0, e1] X.env = (false, eval e0 X.env) :: starEach [e1] X.env ∧ starEach [e1] X.env = (false, eval e1 X.env) :: starEach [] X.env := by intro _; exact ⟨rfl, rfl⟩) (hs : ∀ X : Cx, swapsWithSole [.Tuple [.Name x0 px0, .Name x1 px1] kt pt] (.Tuple [e0, e1] k2 pt2) pos.line X.env = pure false := by intro _; rfl) : MS Γ (.Assign [.Tuple [.Name x0 px0, .Name x1 px1] kt pt] (.Tuple [e0, e1] k2 pt2) pos :: rest) en (bnd m0 fun u0 => bnd m1 fun u1 => k u0 u1) enc ent :=
  ms_of (t := tSeq (tAsg (tTup (tCons (cE Γ e0) (tCons (cE Γ e1) tNil))) (gTup Γ.K 2 (gCons (gName i0) (gCons (gName i1) gNil)))) (cS Γ rest)) (fun X h => pss_cons (by have := ps_asg (pos := pos) (pe_tup (x1 := k2) (pos := pt2) (pa_cons (cE_pe h e0) (pa_cons (cE_pe h e1) pa_nil (hst X).2) (hst X).1)) (pg_tup (k := kt) (pos := pt) h.calm (pgs_cons (pg_name (by rw [h.N]; exact nd) (by rw [h.N]; exact hi0) (by rw [h.sc]; exact hx0) (Or.inl (by rw [h.fn]; exact hf _))) (pgs_cons (pg_name (by rw [h.N]; exact nd) (by rw [h.N]; exact hi1) (by rw [h.sc]; exact hx1) (Or.inl (by rw [h.fn]; exact hf _))) pgs_nil))) (hs X) (hw _ h.sc); rw [h.K] at this; exact this) (cS_ps h rest)) fun bg H0 F0 σ H F r st b Q hm Dn k1 k2 k3 k4 => by
    have fr := fr_of st b
    refine h0 bg H0 σ H F r _ hm _ fun v0 u0 H1 F1 s1 c1 q1 => ?_
    have r1 := r.step s1
    have w1 := r.set s1 fr c1 i0
    have st1 := st.trans s1
    refine h1 bg H0 σ H1 F1 r1 _ q1 _ fun v1 u1 H2 F2 s2 c2 q2 => ?_
    have r2 := r1.step s2
    have w2 := w1.set s2 (fr_of st1 b) c2 i1
    have st2 := st1.trans s2
    refine ⟨by show 2 ≤ sizeLine; decide, fun p hp => ⟨p, _, rfl, .inl (.inl upd_same), rfl, ?_⟩⟩
    have s9 := step_own (o := .tup [v0, v1]) w2.ex w2.bag hp
    exact ⟨_, _, rfl, _, _, rfl, rfl, hr u0 u1 bg H0 F0 _ _ F2 (w2.step s9) (st2.trans s9) b Q q2 Dn k1 k2 k3 k4⟩
theorem mn_unx2 {A0 A1 : Type} {jA0 : A0 → SV} {jA1 : A1 → SV} {m0 : Wp A0} {m1 : Wp A1} {x0 x1 : Str} {px0 px1 pt pt2 : Pos} {e0 e1 : Expr} {kt k2 : Nat} {k : A0 → A1 → Wp S} (i0 i1 : Nat) (nd : Γ.N.Nodup) (hi0 : Γ.N[i0]? = some x0) (hi1 : Γ.N[i1]? = some x1) (hx0 : Loc Γ.sc x0) (hx1 : Loc Γ.sc x1) (h0 : MX Γ e0 en jA0 m0) (h1 : MX Γ e1 en jA1 m1) (hr : ∀ u0 u1, MN Γ rest ((en.set i0 (some (jA0 u0))).set i1 (some (jA1 u1))) (k u0 u1) enc) (hw : ∀ v : PySem.Env, v.scope = Γ.sc → swappedStores [.Tuple [.Name x0 px0, .Name x1 px1] kt pt] (.Tuple [e0, e1] k2 pt2) v = pure none) (hf : ∀ x, Γ.own x = true) (hst : ∀ X : Cx, starEach [e0, e1] X.env = (false, eval e0 X.env) :: starEach [e1] X.env ∧ starEach [e1] X.env = (false, eval e1 X.env) :: starEach [] X.env := by intro _; exact ⟨rfl, rfl⟩) (hs : ∀ X : Cx, swapsWithSole [.Tuple [.Name x0 px0, .Name x1 px1] kt pt] (.Tuple [e0, e1] k2 pt2) pos.line X.env = pure false := by intro _; rfl) : MN Γ (.Assign [.Tuple [.Name x0 px0, .Name x1 px1] kt pt] (.Tuple [e0, e1] k2 pt2) pos :: rest) en (bnd m0 fun u0 => bnd m1 fun u1 => k u0 u1) enc := fun T ent =>
  ms_unx2 (k := fun u0 u1 => bnd (k u0 u1) fun s => ret (.nx s)) i0 i1 nd hi0 hi1 hx0 hx1 h0 h1 (fun u0 u1 => hr u0 u1 T ent) hw hf hst hs
theorem mr_unx2 {A0 A1 : Type} {jA0 : A0 → SV} {jA1 : A1 → SV} {m0 : Wp A0} {m1 : Wp A1} {x0 x1 : Str} {px0 px1 pt pt2 : Pos} {e0 e1 : Expr} {kt k2 : Nat} {k : A0 → A1 → Wp D} (i0 i1 : Nat) (nd : Γ.N.Nodup) (hi0 : Γ.N[i0]? = some x0) (hi1 : Γ.N[i1]? = some x1) (hx0 : Loc Γ.sc x0) (hx1 : Loc Γ.sc x1) (h0 : MX Γ e0 en jA0 m0) (h1 : MX Γ e1 en jA1 m1) (hr : ∀ u0 u1, MR Γ rest ((en.set i0 (some (jA0 u0))).set i1 (some (jA1 u1))) (k u0 u1)) (hw : ∀ v : PySem.Env, v.scope = Γ.sc → swappedStores [.Tuple [.Name x0 px0, .Name x1 px1] kt pt] (.Tuple [e0, e1] k2 pt2) v = pure none) (hf : ∀ x, Γ.own x = true) (hst : ∀ X : Cx, starEach [e0, e1] X.env = (false, eval e0 X.env) :: starEach [e1] X.env ∧ starEach [e1] X.env = (false, eval e1 X.env) :: starEach [] X.env := by intro _; exact ⟨rfl, rfl⟩) (hs : ∀ X : Cx, swapsWithSole [.Tuple [.Name x0 px0, .Name x1 px1] kt pt] (.Tuple [e0, e1] k2 pt2) pos.line X.env = pure false := by intro _; rfl) : MR Γ (.Assign [.Tuple [.Name x0 px0, .Name x1 px1] kt pt] (.Tuple [e0, e1] k2 pt2) pos :: rest) en (bnd m0 fun u0 => bnd m1 fun u1 => k u0 u1)  := fun S T enc ent =>
  ms_unx2 (k := fun u0 u1 => bnd (k u0 u1) fun s => ret (.rt s)) i0 i1 nd hi0 hi1 hx0 hx1 h0 h1 (fun u0 u1 => hr u0 u1 S T enc ent) hw hf hst hs
theorem ms_unx3 {A0 A1 A2 : Type} {jA0 : A0 → SV} {jA1 : A1 → SV} {jA2 : A2 → SV} {m0 : Wp A0} {m1 : Wp A1} {m2 : Wp A2} {x0 x1 x2 : Str} {px0 px1 px2 pt pt2 : Pos} {e0 e1 e2 : Expr} {kt k2 : Nat} {k : A0 → A1 → A2 → Wp (Fl S T)} (i0 i1 i2 : Nat) (nd : Γ.N.Nodup) (hi0 : Γ.N[i0]? = some x0) (hi1 : Γ.N[i1]? = some x1) (hi2 : Γ.N[i2]? = some x2) (hx0 : Loc Γ.sc x0) (hx1 : Loc Γ.sc x1) (hx2 : Loc Γ.sc x2) (h0 : MX Γ e0 en jA0 m0) (h1 : MX Γ e1 en jA1 m1) (h2 : MX Γ e2 en jA2 m2) (hr : ∀ u0 u1 u2, MS Γ rest (((en.set i0 (some (jA0 u0))).set i1 (some (jA1 u1))).set i2 (some (jA2 u2))) (k u0 u1 u2) enc ent) (hw : ∀ v : PySem.Env, v.scope = Γ.sc → swappedStores [.Tuple [.Name x0 px0, .Name x1 px1, .Name x2 px2] kt pt] (.Tuple [e0, e1, e2] k2 pt2) v = pure none) (hf : ∀ x, Γ.own x = true) (hst : ∀ X : Cx, starEach [e0, e1, e2] X.env = (false, eval e0 X.env) :: starEach [e1, e2] X.env ∧ starEach [e1, e2] X.env = (false, eval e1 X.env) :: starEach [e2] X.env ∧ starEach [e2] X.env = (false, eval e2 X.env) :: starEach [] X.env := by intro _; exact ⟨rfl, rfl, rfl⟩) (hs : ∀ X : Cx, swapsWithSole [.Tuple [.Name x0 px0, .Name x1 px1, .Name x2 px2] kt pt] (.Tuple [e0, e1, e2] k2 pt2) pos.line X.env = pure false := by intro _; rfl) : MS Γ (.Assign [.Tuple [.Name x0 px0, .Name x1 px1, .Name x2 px2] kt pt] (.Tuple [e0, e1, e2] k2 pt2) pos :: rest) en (bnd m0 fun u0 => bnd m1 fun u1 => bnd m2 fun u2 => k u0 u1 u2) enc ent :=
  ms_of (t := tSeq (tAsg (tTup (tCons (cE Γ e0) (tCons (cE Γ e1) (tCons (cE Γ e2) tNil)))) (gTup Γ.K 3 (gCons (gName i0) (gCons (gName i1) (gCons (gName i2) gNil))))) (cS Γ rest)) (fun X h => pss_cons (by have := ps_asg (pos := pos) (pe_tup (x1 := k2) (pos := pt2) (pa_cons (cE_pe h e0) (pa_cons (cE_pe h e1) (pa_cons (cE_pe h e2) pa_nil (hst X).2.2) (hst X).2.1) (hst X).1)) (pg_tup (k := kt) (pos := pt) h.calm (pgs_cons (pg_name (by rw [h.N]; exact nd) (by rw [h.N]; exact hi0) (by rw [h.sc]; exact hx0) (Or.inl (by rw [h.fn]; exact hf _))) (pgs_cons (pg_name (by rw [h.N]; exact nd) (by rw [h.N]; exact hi1) (by rw [h.sc]; exact hx1) (Or.inl (by rw [h.fn]; exact hf _))) (pgs_cons (pg_name (by rw [h.N]; exact nd) (by rw [h.N]; exact hi2) (by rw [h.sc]; exact hx2) (Or.inl (by rw [h.fn]; exact hf _))) pgs_nil)))) (hs X) (hw _ h.sc); rw [h.K] at this; exact this) (cS_ps h rest)) fun bg H0 F0 σ H F r st b Q hm Dn k1 k2 k3 k4 => by
    have fr := fr_of st b
    refine h0 bg H0 σ H F r _ hm _ fun v0 u0 H1 F1 s1 c1 q1 => ?_
    have r1 := r.step s1
    have w1 := r.set s1 fr c1 i0
    have st1 := st.trans s1
    refine h1 bg H0 σ H1 F1 r1 _ q1 _ fun v1 u1 H2 F2 s2 c2 q2 => ?_
    have r2 := r1.step s2
    have w2 := w1.set s2 (fr_of st1 b) c2 i1
    have st2 := st1.trans s2
    refine h2 bg H0 σ H2 F2 r2 _ q2 _ fun v2 u2 H3 F3 s3 c3 q3 => ?_
    have r3 := r2.step s3
    have w3 := w2.set s3 (fr_of st2 b) c3 i2
    have st3 := st2.trans s3
    refine ⟨by show 3 ≤ sizeLine; decide, fun p hp => ⟨p, _, rfl, .inl (.inl upd_same), rfl, ?_⟩⟩
    have s9 := step_own (o := .tup [v0, v1, v2]) w3.ex w3.bag hp
    exact ⟨_, _, rfl, _, _, rfl, _, _, rfl, rfl, hr u0 u1 u2 bg H0 F0 _ _ F3 (w3.step s9) (st3.trans s9) b Q q3 Dn k1 k2 k3 k4⟩
theorem mn_unx3 {A0 A1 A2 : Type} {jA0 : A0 → SV} {jA1 : A1 → SV} {jA2 : A2 → SV} {m0 : Wp A0} {m1 : Wp A1} {m2 : Wp A2} {x0 x1 x2 : Str} {px0 px1 px2 pt pt2 : Pos} {e0 e1 e2 : Expr} {kt k2 : Nat} {k : A0 → A1 → A2 → Wp S} (i0 i1 i2 : Nat) (nd : Γ.N.Nodup) (hi0 : Γ.N[i0]? = some x0) (hi1 : Γ.N[i1]? = some x1) (hi2 : Γ.N[i2]? = some x2) (hx0 : Loc Γ.sc x0) (hx1 : Loc Γ.sc x1) (hx2 : Loc Γ.sc x2) (h0 : MX Γ e0 en jA0 m0) (h1 : MX Γ e1 en jA1 m1) (h2 : MX Γ e2 en jA2 m2) (hr : ∀ u0 u1 u2, MN Γ rest (((en.set i0 (some (jA0 u0))).set i1 (some (jA1 u1))).set i2 (some (jA2 u2))) (k u0 u1 u2) enc) (hw : ∀ v : PySem.Env, v.scope = Γ.sc → swappedStores [.Tuple [.Name x0 px0, .Name x1 px1, .Name x2 px2] kt pt] (.Tuple [e0, e1, e2] k2 pt2) v = pure none) (hf : ∀ x, Γ.own x = true) (hst : ∀ X : Cx, starEach [e0, e1, e2] X.env = (false, eval e0 X.env) :: starEach [e1, e2] X.env ∧ starEach [e1, e2] X.env = (false, eval e1 X.env) :: starEach [e2] X.env ∧ starEach [e2] X.env = (false, eval e2 X.env) :: starEach [] X.env := by intro _; exact ⟨rfl, rfl, rfl⟩) (hs : ∀ X : Cx, swapsWithSole [.Tuple [.Name x0 px0, .Name x1 px1, .Name x2 px2] kt pt] (.Tuple [e0, e1, e2] k2 pt2) pos.line X.env = pure false := by intro _; rfl) : MN Γ (.Assign [.Tuple [.Name x0 px0, .Name x1 px1, .Name x2 px2] kt pt] (.Tuple [e0, e1, e2] k2 pt2) pos :: rest) en (bnd m0 fun u0 => bnd m1 fun u1 => bnd m2 fun u2 => k u0 u1 u2) enc := fun T ent =>
  ms_unx3 (k := fun u0 u1 u2 => bnd (k u0 u1 u2) fun s => ret (.nx s)) i0 i1 i2 nd hi0 hi1 hi2 hx0 hx1 hx2 h0 h1 h2 (fun u0 u1 u2 => hr u0 u1 u2 T ent) hw hf hst hs
theorem mr_unx3 {A0 A1 A2 : Type} {jA0 : A0 → SV} {jA1 : A1 → SV} {jA2 : A2 → SV} {m0 : Wp A0} {m1 : Wp A1} {m2 : Wp A2} {x0 x1 x2 : Str} {px0 px1 px2 pt pt2 : Pos} {e0 e1 e2 : Expr} {kt k2 : Nat} {k : A0 → A1 → A2 → Wp D} (i0 i1 i2 : Nat) (nd : Γ.N.Nodup) (hi0 : Γ.N[i0]? = some x0) (hi1 : Γ.N[i1]? = some x1) (hi2 : Γ.N[i2]? = some x2) (hx0 : Loc Γ.sc x0) (hx1 : Loc Γ.sc x1) (hx2 : Loc Γ.sc x2) (h0 : MX Γ e0 en jA0 m0) (h1 : MX Γ e1 en jA1 m1) (h2 : MX Γ e2 en jA2 m2) (hr : ∀ u0 u1 u2, MR Γ rest (((en.set i0 (some (jA0 u0))).set i1 (some (jA1 u1))).set i2 (some (jA2 u2))) (k u0 u1 u2)) (hw : ∀ v : PySem.Env, v.scope = Γ.sc → swappedStores [.Tuple [.Name x0 px0, .Name x1 px1, .Name x2 px2] kt pt] (.Tuple [e0, e1, e2] k2 pt2) v = pure none) (hf : ∀ x, Γ.own x = true) (hst : ∀ X : Cx, starEach [e0, e1, e2] X.env = (false, eval e0 X.env) :: starEach [e1, e2] X.env ∧ starEach [e1, e2] X.env = (false, eval e1 X.env) :: starEach [e2] X.env ∧ starEach [e2] X.env = (false, eval e2 X.env) :: starEach [] X.env := by intro _; exact ⟨rfl, rfl, rfl⟩) (hs : ∀ X : Cx, swapsWithSole [.Tuple [.Name x0 px0, .Name x1 px1, .Name x2 px2] kt pt] (.Tuple [e0, e1, e2] k2 pt2) pos.line X.env = pure false := by intro _; rfl) : MR Γ (.Assign [.Tuple [.Name x0 px0, .Name x1 px1, .Name x2 px2] kt pt] (.Tuple [e0, e1, e2] k2 pt2) pos :: rest) en (bnd m0 fun u0 => bnd m1 fun u1 => bnd m2 fun u2 => k u0 u1 u2)  := fun S T enc ent =>
  ms_unx3 (k := fun u0 u1 u2 => bnd (k u0 u1 u2) fun s => ret (.rt s)) i0 i1 i2 nd hi0 hi1 hi2 hx0 hx1 hx2 h0 h1 h2 (fun u0 u1 u2 => hr u0 u1 u2 S T enc ent) hw hf hst hs
theorem ms_unx4 {A0 A1 A2 A3 : Type} {jA0 : A0 → SV} {jA1 : A1 → SV} {jA2 : A2 → SV} {jA3 : A3 → SV} {m0 : Wp A0} {m1 : Wp A1} {m2 : Wp A2} {m3 : Wp A3} {x0 x1 x2 x3 : Str} {px0 px1 px2 px3 pt pt2 : Pos} {e0 e1 e2 e3 : Expr} {kt k2 : Nat} {k : A0 → A1 → A2 → A3 → Wp (Fl S T)} (i0 i1 i2 i3 : Nat) (nd : Γ.N.Nodup) (hi0 : Γ.N[i0]? = some x0) (hi1 : Γ.N[i1]? = some x1) (hi2 : Γ.N[i2]? = some x2) (hi3 : Γ.N[i3]? = some x3) (hx0 : Loc Γ.sc x0) (hx1 : Loc Γ.sc x1) (hx2 : Loc Γ.sc x2) (hx3 : Loc Γ.sc x3) (h0 : MX Γ e0 en jA0 m0) (h1 : MX Γ e1 en jA1 m1) (h2 : MX Γ e2 en jA2 m2) (h3 : MX Γ e3 en jA3 m3) (hr : ∀ u0 u1 u2 u3, MS Γ rest ((((en.set i0 (some (jA0 u0))).set i1 (some (jA1 u1))).set i2 (some (jA2 u2))).set i3 (some (jA3 u3))) (k u0 u1 u2 u3) enc ent) (hw : ∀ v : PySem.Env, v.scope = Γ.sc → swappedStores [.Tuple [.Name x0 px0, .Name x1 px1, .Name x2 px2, .Name x3 px3] kt pt] (.Tuple [e0, e1, e2, e3] k2 pt2) v = pure none) (hf : ∀ x, Γ.own x = true) (hst : ∀ X : Cx, starEach [e0, e1, e2, e3] X.env = (false, eval e0 X.env) :: starEach [e1, e2, e3] X.env ∧ starEach [e1, e2, e3] X.env = (false, eval e1 X.env) :: starEach [e2, e3] X.env ∧ starEach [e2, e3] X.env = (false, eval e2 X.env) :: starEach [e3] X.env ∧ starEach [e3] X.env = (false, eval e3 X.env) :: starEach [] X.env := by intro _; exact ⟨rfl, rfl, rfl, rfl⟩) (hs : ∀ X : Cx, swapsWithSole [.Tuple [.Name x0 px0, .Name x1 px1, .Name x2 px2, .Name x3 px3] kt pt] (.Tuple [e0, e1, e2, e3] k2 pt2) pos.line X.env = pure false := by intro _; rfl) : MS Γ (.Assign [.Tuple [.Name x0 px0, .Name x1 px1, .Name x2 px2, .Name x3 px3] kt pt] (.Tuple [e0, e1, e2, e3] k2 pt2) pos :: rest) en (bnd m0 fun u0 => bnd m1 fun u1 => bnd m2 fun u2 => bnd m3 fun u3 => k u0 u1 u2 u3) enc ent :=
  ms_of (t := tSeq (tAsg (tTup (tCons (cE Γ e0) (tCons (cE Γ e1) (tCons (cE Γ e2) (tCons (cE Γ e3) tNil))))) (gTup Γ.K 4 (gCons (gName i0) (gCons (gName i1) (gCons (gName i2) (gCons (gName i3) gNil)))))) (cS Γ rest)) (fun X h => pss_cons (by have := ps_asg (pos := pos) (pe_tup (x1 := k2) (pos := pt2) (pa_cons (cE_pe h e0) (pa_cons (cE_pe h e1) (pa_cons (cE_pe h e2) (pa_cons (cE_pe h e3) pa_nil (hst X).2.2.2) (hst X).2.2.1) (hst X).2.1) (hst X).1)) (pg_tup (k := kt) (pos := pt) h.calm (pgs_cons (pg_name (by rw [h.N]; exact nd) (by rw [h.N]; exact hi0) (by rw [h.sc]; exact hx0) (Or.inl (by rw [h.fn]; exact hf _))) (pgs_cons (pg_name (by rw [h.N]; exact nd) (by rw [h.N]; exact hi1) (by rw [h.sc]; exact hx1) (Or.inl (by rw [h.fn]; exact hf _))) (pgs_cons (pg_name (by rw [h.N]; exact nd) (by rw [h.N]; exact hi2) (by rw [h.sc]; exact hx2) (Or.inl (by rw [h.fn]; exact hf _))) (pgs_cons (pg_name (by rw [h.N]; exact nd) (by rw [h.N]; exact hi3) (by rw [h.sc]; exact hx3) (Or.inl (by rw [h.fn]; exact hf _))) pgs_nil))))) (hs X) (hw _ h.sc); rw [h.K] at this; exact this) (cS_ps h rest)) fun bg H0 F0 σ H F r st b Q hm Dn k1 k2 k3 k4 => by
    have fr := fr_of st b
    refine h0 bg H0 σ H F r _ hm _ fun v0 u0 H1 F1 s1 c1 q1 => ?_
    have r1 := r.step s1
    have w1 := r.set s1 fr c1 i0
    have st1 := st.trans s1
    refine h1 bg H0 σ H1 F1 r1 _ q1 _ fun v1 u1 H2 F2 s2 c2 q2 => ?_
    have r2 := r1.step s2
    have w2 := w1.set s2 (fr_of st1 b) c2 i1
    have st2 := st1.trans s2
    refine h2 bg H0 σ H2 F2 r2 _ q2 _ fun v2 u2 H3 F3 s3 c3 q3 => ?_
    have r3 := r2.step s3
    have w3 := w2.set s3 (fr_of st2 b) c3 i2
    have st3 := st2.trans s3
    refine h3 bg H0 σ H3 F3 r3 _ q3 _ fun v3 u3 H4 F4 s4 c4 q4 => ?_
    have r4 := r3.step s4
    have w4 := w3.set s4 (fr_of st3 b) c4 i3
    have st4 := st3.trans s4
    refine ⟨by show 4 ≤ sizeLine; decide, fun p hp => ⟨p, _, rfl, .inl (.inl upd_same), rfl, ?_⟩⟩
    have s9 := step_own (o := .tup [v0, v1, v2, v3]) w4.ex w4.bag hp
    exact ⟨_, _, rfl, _, _, rfl, _, _, rfl, _, _, rfl, rfl, hr u0 u1 u2 u3 bg H0 F0 _ _ F4 (w4.step s9) (st4.trans s9) b Q q4 Dn k1 k2 k3 k4⟩
theorem mn_unx4 {A0 A1 A2 A3 : Type} {jA0 : A0 → SV} {jA1 : A1 → SV} {jA2 : A2 → SV} {jA3 : A3 → SV} {m0 : Wp A0} {m1 : Wp A1} {m2 : Wp A2} {m3 : Wp A3} {x0 x1 x2 x3 : Str} {px0 px1 px2 px3 pt pt2 : Pos} {e0 e1 e2 e3 : Expr} {kt k2 : Nat} {k : A0 → A1 → A2 → A3 → Wp S} (i0 i1 i2 i3 : Nat) (nd : Γ.N.Nodup) (hi0 : Γ.N[i0]? = some x0) (hi1 : Γ.N[i1]? = some x1) (hi2 : Γ.N[i2]? = some x2) (hi3 : Γ.N[i3]? = some x3) (hx0 : Loc Γ.sc x0) (hx1 : Loc Γ.sc x1) (hx2 : Loc Γ.sc x2) (hx3 : Loc Γ.sc x3) (h0 : MX Γ e0 en jA0 m0) (h1 : MX Γ e1 en jA1 m1) (h2 : MX Γ e2 en jA2 m2) (h3 : MX Γ e3 en jA3 m3) (hr : ∀ u0 u1 u2 u3, MN Γ rest ((((en.set i0 (some (jA0 u0))).set i1 (some (jA1 u1))).set i2 (some (jA2 u2))).set i3 (some (jA3 u3))) (k u0 u1 u2 u3) enc) (hw : ∀ v : PySem.Env, v.scope = Γ.sc → swappedStores [.Tuple [.Name x0 px0, .Name x1 px1, .Name x2 px2, .Name x3 px3] kt pt] (.Tuple [e0, e1, e2, e3] k2 pt2) v = pure none) (hf : ∀ x, Γ.own x = true) (hst : ∀ X : Cx, starEach [e0, e1, e2, e3] X.env = (false, eval e0 X.env) :: starEach [e1, e2, e3] X.env ∧ starEach [e1, e2, e3] X.env = (false, eval e1 X.env) :: starEach [e2, e3] X.env ∧ starEach [e2, e3] X.env = (false, eval e2 X.env) :: starEach [e3] X.env ∧ starEach [e3] X.env = (false, eval e3 X.env) :: starEach [] X.env := by intro _; exact ⟨rfl, rfl, rfl, rfl⟩) (hs : ∀ X : Cx, swapsWithSole [.Tuple [.Name x0 px0, .Name x1 px1, .Name x2 px2, .Name x3 px3] kt pt] (.Tuple [e0, e1, e2, e3] k2 pt2) pos.line X.env = pure false := by intro _; rfl) : MN Γ (.Assign [.Tuple [.Name x0 px0, .Name x1 px1, .Name x2 px2, .Name x3 px3] kt pt] (.Tuple [e0, e1, e2, e3] k2 pt2) pos :: rest) en (bnd m0 fun u0 => bnd m1 fun u1 => bnd m2 fun u2 => bnd m3 fun u3 => k u0 u1 u2 u3) enc := fun T ent =>
  ms_unx4 (k := fun u0 u1 u2 u3 => bnd (k u0 u1 u2 u3) fun s => ret (.nx s)) i0 i1 i2 i3 nd hi0 hi1 hi2 hi3 hx0 hx1 hx2 hx3 h0 h1 h2 h3 (fun u0 u1 u2 u3 => hr u0 u1 u2 u3 T ent) hw hf hst hs
theorem mr_unx4 {A0 A1 A2 A3 : Type} {jA0 : A0 → SV} {jA1 : A1 → SV} {jA2 : A2 → SV} {jA3 : A3 → SV} {m0 : Wp A0} {m1 : Wp A1} {m2 : Wp A2} {m3 : Wp A3} {x0 x1 x2 x3 : Str} {px0 px1 px2 px3 pt pt2 : Pos} {e0 e1 e2 e3 : Expr} {kt k2 : Nat} {k : A0 → A1 → A2 → A3 → Wp D} (i0 i1 i2 i3 : Nat) (nd : Γ.N.Nodup) (hi0 : Γ.N[i0]? = some x0) (hi1 : Γ.N[i1]? = some x1) (hi2 : Γ.N[i2]? = some x2) (hi3 : Γ.N[i3]? = some x3) (hx0 : Loc Γ.sc x0) (hx1 : Loc Γ.sc x1) (hx2 : Loc Γ.sc x2) (hx3 : Loc Γ.sc x3) (h0 : MX Γ e0 en jA0 m0) (h1 : MX Γ e1 en jA1 m1) (h2 : MX Γ e2 en jA2 m2) (h3 : MX Γ e3 en jA3 m3) (hr : ∀ u0 u1 u2 u3, MR Γ rest ((((en.set i0 (some (jA0 u0))).set i1 (some (jA1 u1))).set i2 (some (jA2 u2))).set i3 (some (jA3 u3))) (k u0 u1 u2 u3)) (hw : ∀ v : PySem.Env, v.scope = Γ.sc → swappedStores [.Tuple [.Name x0 px0, .Name x1 px1, .Name x2 px2, .Name x3 px3] kt pt] (.Tuple [e0, e1, e2, e3] k2 pt2) v = pure none) (hf : ∀ x, Γ.own x = true) (hst : ∀ X : Cx, starEach [e0, e1, e2, e3] X.env = (false, eval e0 X.env) :: starEach [e1, e2, e3] X.env ∧ starEach [e1, e2, e3] X.env = (false, eval e1 X.env) :: starEach [e2, e3] X.env ∧ starEach [e2, e3] X.env = (false, eval e2 X.env) :: starEach [e3] X.env ∧ starEach [e3] X.env = (false, eval e3 X.env) :: starEach [] X.env := by intro _; exact ⟨rfl, rfl, rfl, rfl⟩) (hs : ∀ X : Cx, swapsWithSole [.Tuple [.Name x0 px0, .Name x1 px1, .Name x2 px2, .Name x3 px3] kt pt] (.Tuple [e0, e1, e2, e3] k2 pt2) pos.line X.env = pure false := by intro _; rfl) : MR Γ (.Assign [.Tuple [.Name x0 px0, .Name x1 px1, .Name x2 px2, .Name x3 px3] kt pt] (.Tuple [e0, e1, e2, e3] k2 pt2) pos :: rest) en (bnd m0 fun u0 => bnd m1 fun u1 => bnd m2 fun u2 => bnd m3 fun u3 => k u0 u1 u2 u3)  := fun S T enc ent =>
  ms_unx4 (k := fun u0 u1 u2 u3 => bnd (k u0 u1 u2 u3) fun s => ret (.rt s)) i0 i1 i2 i3 nd hi0 hi1 hi2 hi3 hx0 hx1 hx2 hx3 h0 h1 h2 h3 (fun u0 u1 u2 u3 => hr u0 u1 u2 u3 S T enc ent) hw hf hst hs
theorem ms_unx5 {A0 A1 A2 A3 A4 : Type} {jA0 : A0 → SV} {jA1 : A1 → SV} {jA2 : A2 → SV} {jA3 : A3 → SV} {jA4 : A4 → SV} {m0 : Wp A0} {m1 : Wp A1} {m2 : Wp A2} {m3 : Wp A3} {m4 : Wp A4} {x0 x1 x2 x3 x4 : Str} {px0 px1 px2 px3 px4 pt pt2 : Pos} {e0 e1 e2 e3 e4 : Expr} {kt k2 : Nat} {k : A0 → A1 → A2 → A3 → A4 → Wp (Fl S T)} (i0 i1 i2 i3 i4 : Nat) (nd : Γ.N.Nodup) (hi0 : Γ.N[i0]? = some x0) (hi1 : Γ.N[i1]? = some x1) (hi2 : Γ.N[i2]? = some x2) (hi3 : Γ.N[i3]? = some x3) (hi4 : Γ.N[i4]? = some x4) (hx0 : Loc Γ.sc x0) (hx1 : Loc Γ.sc x1) (hx2 : Loc Γ.sc x2) (hx3 : Loc Γ.sc x3) (hx4 : Loc Γ.sc x4) (h0 : MX Γ e0 en jA0 m0) (h1 : MX Γ e1 en jA1 m1) (h2 : MX Γ e2 en jA2 m2) (h3 : MX Γ e3 en jA3 m3) (h4 : MX Γ e4 en jA4 m4) (hr : ∀ u0 u1 u2 u3 u4, MS Γ rest (((((en.set i0 (some (jA0 u0))).set i1 (some (jA1 u1))).set i2 (some (jA2 u2))).set i3 (some (jA3 u3))).set i4 (some (jA4 u4))) (k u0 u1 u2 u3 u4) enc ent) (hw : ∀ v : PySem.Env, v.scope = Γ.sc → swappedStores [.Tuple [.Name x0 px0, .Name x1 px1, .Name x2 px2, .Name x3 px3, .Name x4 px4] kt pt] (.Tuple [e0, e1, e2, e3, e4] k2 pt2) v = pure none) (hf : ∀ x, Γ.own x = true) (hst : ∀ X : Cx, starEach [e0, e1, e2, e3, e4] X.env = (false, eval e0 X.env) :: starEach [e1, e2, e3, e4] X.env ∧ starEach [e1, e2, e3, e4] X.env = (false, eval e1 X.env) :: starEach [e2, e3, e4] X.env ∧ starEach [e2, e3, e4] X.env = (false, eval e2 X.env) :: starEach [e3, e4] X.env ∧ starEach [e3, e4] X.env = (false, eval e3 X.env) :: starEach [e4] X.env ∧ starEach [e4] X.env = (false, eval e4 X.env) :: starEach [] X.env := by intro _; exact ⟨rfl, rfl, rfl, rfl, rfl⟩) (hs : ∀ X : Cx, swapsWithSole [.Tuple [.Name x0 px0, .Name x1 px1, .Name x2 px2, .Name x3 px3, .Name x4 px4] kt pt] (.Tuple [e0, e1, e2, e3, e4] k2 pt2) pos.line X.env = pure false := by intro _; rfl) : MS Γ (.Assign [.Tuple [.Name x0 px0, .Name x1 px1, .Name x2 px2, .Name x3 px3, .Name x4 px4] kt pt] (.Tuple [e0, e1, e2, e3, e4] k2 pt2) pos :: rest) en (bnd m0 fun u0 => bnd m1 fun u1 => bnd m2 fun u2 => bnd m3 fun u3 => bnd m4 fun u4 => k u0 u1 u2 u3 u4) enc ent :=
  ms_of (t := tSeq (tAsg (tTup (tCons (cE Γ e0) (tCons (cE Γ e1) (tCons (cE Γ e2) (tCons (cE Γ e3) (tCons (cE Γ e4) tNil)))))) (gTup Γ.K 5 (gCons (gName i0) (gCons (gName i1) (gCons (gName i2) (gCons (gName i3) (gCons (gName i4) gNil))))))) (cS Γ rest)) (fun X h => pss_cons (by have := ps_asg (pos := pos) (pe_tup (x1 := k2) (pos := pt2) (pa_cons (cE_pe h e0) (pa_cons (cE_pe h e1) (pa_cons (cE_pe h e2) (pa_cons (cE_pe h e3) (pa_cons (cE_pe h e4) pa_nil (hst X).2.2.2.2) (hst X).2.2.2.1) (hst X).2.2.1) (hst X).2.1) (hst X).1)) (pg_tup (k := kt) (pos := pt) h.calm (pgs_cons (pg_name (by rw [h.N]; exact nd) (by rw [h.N]; exact hi0) (by rw [h.sc]; exact hx0) (Or.inl (by rw [h.fn]; exact hf _))) (pgs_cons (pg_name (by rw [h.N]; exact nd) (by rw [h.N]; exact hi1) (by rw [h.sc]; exact hx1) (Or.inl (by rw [h.fn]; exact hf _))) (pgs_cons (pg_name (by rw [h.N]; exact nd) (by rw [h.N]; exact hi2) (by rw [h.sc]; exact hx2) (Or.inl (by rw [h.fn]; exact hf _))) (pgs_cons (pg_name (by rw [h.N]; exact nd) (by rw [h.N]; exact hi3) (by rw [h.sc]; exact hx3) (Or.inl (by rw [h.fn]; exact hf _))) (pgs_cons (pg_name (by rw [h.N]; exact nd) (by rw [h.N]; exact hi4) (by rw [h.sc]; exact hx4) (Or.inl (by rw [h.fn]; exact hf _))) pgs_nil)))))) (hs X) (hw _ h.sc); rw [h.K] at this; exact this) (cS_ps h rest)) fun bg H0 F0 σ H F r st b Q hm Dn k1 k2 k3 k4 => by
    have fr := fr_of st b
    refine h0 bg H0 σ H F r _ hm _ fun v0 u0 H1 F1 s1 c1 q1 => ?_
    have r1 := r.step s1
    have w1 := r.set s1 fr c1 i0
    have st1 := st.trans s1
    refine h1 bg H0 σ H1 F1 r1 _ q1 _ fun v1 u1 H2 F2 s2 c2 q2 => ?_
    have r2 := r1.step s2
    have w2 := w1.set s2 (fr_of st1 b) c2 i1
    have st2 := st1.trans s2
    refine h2 bg H0 σ H2 F2 r2 _ q2 _ fun v2 u2 H3 F3 s3 c3 q3 => ?_
    have r3 := r2.step s3
    have w3 := w2.set s3 (fr_of st2 b) c3 i2
    have st3 := st2.trans s3
    refine h3 bg H0 σ H3 F3 r3 _ q3 _ fun v3 u3 H4 F4 s4 c4 q4 => ?_
    have r4 := r3.step s4
    have w4 := w3.set s4 (fr_of st3 b) c4 i3
    have st4 := st3.trans s4
    refine h4 bg H0 σ H4 F4 r4 _ q4 _ fun v4 u4 H5 F5 s5 c5 q5 => ?_
    have r5 := r4.step s5
    have w5 := w4.set s5 (fr_of st4 b) c5 i4
    have st5 := st4.trans s5
    refine ⟨by show 5 ≤ sizeLine; decide, fun p hp => ⟨p, _, rfl, .inl (.inl upd_same), rfl, ?_⟩⟩
    have s9 := step_own (o := .tup [v0, v1, v2, v3, v4]) w5.ex w5.bag hp
    exact ⟨_, _, rfl, _, _, rfl, _, _, rfl, _, _, rfl, _, _, rfl, rfl, hr u0 u1 u2 u3 u4 bg H0 F0 _ _ F5 (w5.step s9) (st5.trans s9) b Q q5 Dn k1 k2 k3 k4⟩
theorem mn_unx5 {A0 A1 A2 A3 A4 : Type} {jA0 : A0 → SV} {jA1 : A1 → SV} {jA2 : A2 → SV} {jA3 : A3 → SV} {jA4 : A4 → SV} {m0 : Wp A0} {m1 : Wp A1} {m2 : Wp A2} {m3 : Wp A3} {m4 : Wp A4} {x0 x1 x2 x3 x4 : Str} {px0 px1 px2 px3 px4 pt pt2 : Pos} {e0 e1 e2 e3 e4 : Expr} {kt k2 : Nat} {k : A0 → A1 → A2 → A3 → A4 → Wp S} (i0 i1 i2 i3 i4 : Nat) (nd : Γ.N.Nodup) (hi0 : Γ.N[i0]? = some x0) (hi1 : Γ.N[i1]? = some x1) (hi2 : Γ.N[i2]? = some x2) (hi3 : Γ.N[i3]? = some x3) (hi4 : Γ.N[i4]? = some x4) (hx0 : Loc Γ.sc x0) (hx1 : Loc Γ.sc x1) (hx2 : Loc Γ.sc x2) (hx3 : Loc Γ.sc x3) (hx4 : Loc Γ.sc x4) (h0 : MX Γ e0 en jA0 m0) (h1 : MX Γ e1 en jA1 m1) (h2 : MX Γ e2 en jA2 m2) (h3 : MX Γ e3 en jA3 m3) (h4 : MX Γ e4 en jA4 m4) (hr : ∀ u0 u1 u2 u3 u4, MN Γ rest (((((en.set i0 (some (jA0 u0))).set i1 (some (jA1 u1))).set i2 (some (jA2 u2))).set i3 (some (jA3 u3))).set i4 (some (jA4 u4))) (k u0 u1 u2 u3 u4) enc) (hw : ∀ v : PySem.Env, v.scope = Γ.sc → swappedStores [.Tuple [.Name x0 px0, .Name x1 px1, .Name x2 px2, .Name x3 px3, .Name x4 px4] kt pt] (.Tuple [e0, e1, e2, e3, e4] k2 pt2) v = pure none) (hf : ∀ x, Γ.own x = true) (hst : ∀ X : Cx, starEach [e0, e1, e2, e3, e4] X.env = (false, eval e0 X.env) :: starEach [e1, e2, e3, e4] X.env ∧ starEach [e1, e2, e3, e4] X.env = (false, eval e1 X.env) :: starEach [e2, e3, e4] X.env ∧ starEach [e2, e3, e4] X.env = (false, eval e2 X.env) :: starEach [e3, e4] X.env ∧ starEach [e3, e4] X.env = (false, eval e3 X.env) :: starEach [e4] X.env ∧ starEach [e4] X.env = (false, eval e4 X.env) :: starEach [] X.env := by intro _; exact ⟨rfl, rfl, rfl, rfl, rfl⟩) (hs : ∀ X : Cx, swapsWithSole [.Tuple [.Name x0 px0, .Name x1 px1, .Name x2 px2, .Name x3 px3, .Name x4 px4] kt pt] (.Tuple [e0, e1, e2, e3, e4] k2 pt2) pos.line X.env = pure false := by intro _; rfl) : MN Γ (.Assign [.Tuple [.Name x0 px0, .Name x1 px1, .Name x2 px2, .Name x3 px3, .Name x4 px4] kt pt] (.Tuple [e0, e1, e2, e3, e4] k2 pt2) pos :: rest) en (bnd m0 fun u0 => bnd m1 fun u1 => bnd m2 fun u2 => bnd m3 fun u3 => bnd m4 fun u4 => k u0 u1 u2 u3 u4) enc := fun T ent =>
  ms_unx5 (k := fun u0 u1 u2 u3 u4 => bnd (k u0 u1 u2 u3 u4) fun s => ret (.nx s)) i0 i1 i2 i3 i4 nd hi0 hi1 hi2 hi3 hi4 hx0 hx1 hx2 hx3 hx4 h0 h1 h2 h3 h4 (fun u0 u1 u2 u3 u4 => hr u0 u1 u2 u3 u4 T ent) hw hf hst hs
theorem mr_unx5 {A0 A1 A2 A3 A4 : Type} {jA0 : A0 → SV} {jA1 : A1 → SV} {jA2 : A2 → SV} {jA3 : A3 → SV} {jA4 : A4 → SV} {m0 : Wp A0} {m1 : Wp A1} {m2 : Wp A2} {m3 : Wp A3} {m4 : Wp A4} {x0 x1 x2 x3 x4 : Str} {px0 px1 px2 px3 px4 pt pt2 : Pos} {e0 e1 e2 e3 e4 : Expr} {kt k2 : Nat} {k : A0 → A1 → A2 → A3 → A4 → Wp D} (i0 i1 i2 i3 i4 : Nat) (nd : Γ.N.Nodup) (hi0 : Γ.N[i0]? = some x0) (hi1 : Γ.N[i1]? = some x1) (hi2 : Γ.N[i2]? = some x2) (hi3 : Γ.N[i3]? = some x3) (hi4 : Γ.N[i4]? = some x4) (hx0 : Loc Γ.sc x0) (hx1 : Loc Γ.sc x1) (hx2 : Loc Γ.sc x2) (hx3 : Loc Γ.sc x3) (hx4 : Loc Γ.sc x4) (h0 : MX Γ e0 en jA0 m0) (h1 : MX Γ e1 en jA1 m1) (h2 : MX Γ e2 en jA2 m2) (h3 : MX Γ e3 en jA3 m3) (h4 : MX Γ e4 en jA4 m4) (hr : ∀ u0 u1 u2 u3 u4, MR Γ rest (((((en.set i0 (some (jA0 u0))).set i1 (some (jA1 u1))).set i2 (some (jA2 u2))).set i3 (some (jA3 u3))).set i4 (some (jA4 u4))) (k u0 u1 u2 u3 u4)) (hw : ∀ v : PySem.Env, v.scope = Γ.sc → swappedStores [.Tuple [.Name x0 px0, .Name x1 px1, .Name x2 px2, .Name x3 px3, .Name x4 px4] kt pt] (.Tuple [e0, e1, e2, e3, e4] k2 pt2) v = pure none) (hf : ∀ x, Γ.own x = true) (hst : ∀ X : Cx, starEach [e0, e1, e2, e3, e4] X.env = (false, eval e0 X.env) :: starEach [e1, e2, e3, e4] X.env ∧ starEach [e1, e2, e3, e4] X.env = (false, eval e1 X.env) :: starEach [e2, e3, e4] X.env ∧ starEach [e2, e3, e4] X.env = (false, eval e2 X.env) :: starEach [e3, e4] X.env ∧ starEach [e3, e4] X.env = (false, eval e3 X.env) :: starEach [e4] X.env ∧ starEach [e4] X.env = (false, eval e4 X.env) :: starEach [] X.env := by intro _; exact ⟨rfl, rfl, rfl, rfl, rfl⟩) (hs : ∀ X : Cx, swapsWithSole [.Tuple [.Name x0 px0, .Name x1 px1, .Name x2 px2, .Name x3 px3, .Name x4 px4] kt pt] (.Tuple [e0, e1, e2, e3, e4] k2 pt2) pos.line X.env = pure false := by intro _; rfl) : MR Γ (.Assign [.Tuple [.Name x0 px0, .Name x1 px1, .Name x2 px2, .Name x3 px3, .Name x4 px4] kt pt] (.Tuple [e0, e1, e2, e3, e4] k2 pt2) pos :: rest) en (bnd m0 fun u0 => bnd m1 fun u1 => bnd m2 fun u2 => bnd m3 fun u3 => bnd m4 fun u4 => k u0 u1 u2 u3 u4)  := fun S T enc ent =>
  ms_unx5 (k := fun u0 u1 u2 u3 u4 => bnd (k u0 u1 u2 u3 u4) fun s => ret (.rt s)) i0 i1 i2 i3 i4 nd hi0 hi1 hi2 hi3 hi4 hx0 hx1 hx2 hx3 hx4 h0 h1 h2 h3 h4 (fun u0 u1 u2 u3 u4 => hr u0 u1 u2 u3 u4 S T enc ent) hw hf hst hs
end

end PW

set_option Elab.async false
set_option linter.all false
set_option maxRecDepth 100000
set_option maxHeartbeats 4000000
namespace PW
open PySem PySem.Spec PyProof.Rows L2

/-! ### a def's promise where nothing is being shown (no guards) -/
structure FnG (P : Program) (w : World) (K : PySem.W.Frag) (mg : Str → Option Value) (base : Heap) (k : Nat) (f : Addr) (fd : FuncData) (ps : List Str) (sp : Sp) : Prop where
  len : ∀ vs H Q E, sp vs H Q E → vs.length = ps.length
  run : ∀ (A : Around) (outer : List Env) (s : Shared) (H : Hp) (args : Args) (us : List Value) (vs : List V) (Q : VK), A.guards = some [] → Room k A → Env0 P w K mg base A outer s H → BindsTo s fd args (ps.zip us) → Vals vs us → sp vs H Q E0 →
    codeAny (model P w) A (.call (.ref f) args) (CR CX0 outer P w H s Q E0) s
section
variable {X : Cx} {k : Nat} {a : Addr} {fd : FuncData} {ps ks : List Str} {sp : Sp} {x : Str} {p pos : Pos} {e : Expr} {es : List Expr} {kws : List Keyword} {t tk : TA}
theorem fnG_of {P : Program} {w : World} {K : PySem.W.Frag} {mg : Str → Option Value} {base : Heap} {x : Str} {st : Stmt} {N : List Str} (F : Fun K x x st a fd) (S : FnScope N ps (defScope st)) (len : ∀ vs H Q E, sp vs H Q E → vs.length = ps.length)
    (body : ∀ (cdv : Value) (A : Around) (outer : List Env) (s : Shared) (H : Hp) (vs : List V) (Q : VK), A.guards = some [] → Room k (A.deeper (envOfC x (defScope st) s.heap.objs.size a cdv)) → sp vs H Q E0 →
      ∃ t, PSs (cxOf CX0 P w K mg base N x (defScope st) a cdv A outer s H E0).nox (defBody st) t ∧ t { nx := fun _ H' => Q .non H', rt := Q } (L2.start N vs) H) : FnG P w K mg base (k + 1) a fd ps sp := by
  obtain ⟨oc, od, kV, doc, pm, an, cdv, ct, osl, rfl, lk, hcd⟩ := F.ex
  constructor
  · exact len
  intro A outer s H args us vs Q gd hr e0 hb r hsp
  have hl := len _ _ _ _ hsp
  have there : K.In s.heap := e0.mod.kin.keeps (fun b o e => (e0.bs b o e).1)
  have knd : ∀ y ∈ ps.zip us, (defScope st).names.lookup y.1 = some .local ∨ ((defScope st).names.lookup y.1 = some .cell ∧ ((cellsFrom (s.heap.objs.size + 1) (defScope st).names []).lookup y.1).isSome = true) := by
    rintro ⟨n, v⟩ hy
    rcases S.par n (List.of_mem_zip hy).1 with q | q
    · exact Or.inl q
    · exact Or.inr ⟨q, PySem.W.cellsFrom_some _ _ _ (Or.inl q)⟩
  apply codeAny_call_function hr.depth (there _ _ lk) rfl S.co S.gen rfl (PySem.W.codeRec_of there hcd) (hb _ _ _ _ ?_)
  apply wpAny_newFunctionEnv_cells S.kind knd
  intro env he s1 z
  subst he
  refine ⟨Heap.NoLimit.keeps (e0.mod.nolimit.keeps (fun b o e => (e0.bs b o e).1)) z.toInCall.keep, codeAny_func ?_⟩
  obtain ⟨t, ht, hq⟩ := body cdv A outer s H vs Q gd (hr.deeper _) hsp
  have I := inv_start (CX := CX0) (E := E0) (f := a) (cd := cdv) S hr.hd e0 hl r z
  refine wpAny_mono (ht.nox.run [] s1 _ H _ I hq) ?_ (fun e s' hs => hs)
  intro fl s' hs
  cases fl with
  | ret u =>
    obtain ⟨v, σ', H', J, rv, q⟩ := hs
    exact ⟨v, H', J.os, J.bare, J.base, J.hok, rv, q⟩
  | next =>
    obtain ⟨σ', H', J, q⟩ := hs
    exact ⟨.non, H', J.os, J.bare, J.base, J.hok, rfl, q⟩
  | brk => exact (hs.elim fun _ h => h.elim fun _ h => h.2 : False).elim
  | cont => exact (hs.elim fun _ h => h.elim fun _ h => h.2 : False).elim
theorem after_G {pins : List (Addr × Obj)} {σ : L2.St} {H : Hp} {s : Shared} {Q : VK} {us : List Value} {args : Args} {vs : List V} (F : FnG X.prog X.w X.K X.mg X.base k a fd ps sp) (gd : X.A.guards = some []) (hr : Room k X.A) (hb : BindsTo s fd args (ps.zip us))
    (I : Inv X pins σ H s) (r : Vals vs us) (h : sp vs H Q E0) : codeAny (model X.prog X.w) X.A (.call (.ref a) args) (fun r s' => match r with
      | .ok (.ret u) => EP X pins σ Q u s'
      | _ => False) s := by
  refine codeAny_mono (F.run X.A X.stack s H args us vs Q gd hr I.env0 hb r h) ?_
  intro r s' hq
  cases r with
  | error e => exact hq
  | ok fl =>
    cases fl with
    | ret u => exact I.after hq
    | next => exact hq
    | brk => exact hq
    | cont => exact hq
theorem wp_of_G {us : List Value} {kw : List (Str × Value)} {s : Shared} {Q : Value → Shared → Prop} {E : Value → Shared → Prop} (h : codeAny (model X.prog X.w) X.A (.call (.ref a) ⟨us, kw⟩) (fun r s' => match r with
      | .ok (.ret u) => Q u s'
      | _ => False) s) : wpAny (model X.prog X.w) X.A (call (.ref a) us kw) Q E s := by
  refine wpAny_call (codeAny_mono h ?_)
  intro r s' hq
  cases r with
  | error e => exact hq.elim
  | ok fl =>
    cases fl with
    | ret u => exact hq
    | next => exact hq.elim
    | brk => exact hq.elim
    | cont => exact hq.elim
theorem pe_callG (F : FnG X.prog X.w X.K X.mg X.base k a fd ps sp) (gd : X.A.guards = some []) (hr : Room k X.A) (hg : Gl X x) (hm : X.mg x = some (.ref a)) (hk : PySem.W.keepIn X.K (.ref a) = true) (hb : Binds X.K fd ps []) (ha : PA X (e :: es) t) (hdb : (x == ("__debug__" : Str)) = false)
    (he : starEach (e :: es) X.env = (false, eval e X.env) :: starEach es X.env) (hpl : (backTo pos (starEach es X.env)).any (·.1) = false) : PE X (.Call (.Name x p) (e :: es) [] pos) (tCall sp [] E0 t) := by
  constructor
  intro pins s σ H Q I h
  apply wpAny_Call_Name_kw
  refine ld_glob I hg hm ?_ hdb
  apply PySem.W.callWith_K (h₀ := X.base) I.ok.mod.kin hk _ he hpl
  refine thn (ha.run pos pins s σ H _ I h) ?_
  rintro us s1 ⟨vs, H1, I1, r, q⟩
  rw [List.append_nil] at q
  have hl : us.length = ps.length := by rw [← r.length]; exact F.len _ _ _ _ q
  have hb' := hb s1 us I1.kIn (by rw [List.append_nil]; exact hl)
  rw [List.append_nil] at hb'
  exact ⟨I1.kIn, wp_of_G (after_G F gd hr hb' I1 r q)⟩
theorem pe_callKG {g : List Value → List Value → List Value} {gV : List V → List V → List V} (F : FnG X.prog X.w X.K X.mg X.base k a fd ps sp) (gd : X.A.guards = some []) (hr : Room k X.A) (hg : Gl X x) (hm : X.mg x = some (.ref a)) (hk : PySem.W.keepIn X.K (.ref a) = true) (hb : KBinds X.K fd ps ks g gV)
    (ha : PA X (e :: es) t) (hkw : PK X kws tk) (hall : (backToKw pos (keywordEach kws X.env)).all (·.1.isSome) = true) (hks : (backToKw pos (keywordEach kws X.env)).filterMap (·.1) = ks) (hdb : (x == ("__debug__" : Str)) = false)
    (he : starEach (e :: es) X.env = (false, eval e X.env) :: starEach es X.env) (hpl : ((backTo pos (starEach (e :: es) X.env)).any (·.1) || (backToKw pos (keywordEach kws X.env)).any (·.1.isNone)) = false) :
    PE X (.Call (.Name x p) (e :: es) kws pos) (tCallK sp gV E0 t tk) := by
  constructor
  intro pins s σ H Q I h
  apply wpAny_Call_Name_kw
  refine ld_glob I hg hm ?_ hdb
  refine PySem.W.callWith_KW (h₀ := X.base) I.ok.mod.kin hk hall (thn (ha.run pos pins s σ H _ I h) ?_) hpl he
  rintro us s1 ⟨vs, H1, I1, r, q⟩
  refine thn (hkw.run pos pins s1 σ H1 _ I1 q) ?_
  rintro ws s2 ⟨zs, H2, I2, rz, q2⟩
  refine ⟨I2.kIn, ?_⟩
  rw [hks]
  have r2 := hb.rel r rz
  exact wp_of_G (after_G F gd hr (hb.to s2 us ws I2.kIn (by rw [← r2.length]; exact F.len _ _ _ _ q2)) I2 r2 q2)
theorem pe_callKG0 {g : List Value → List Value → List Value} {gV : List V → List V → List V} (F : FnG X.prog X.w X.K X.mg X.base k a fd ps sp) (gd : X.A.guards = some []) (hr : Room k X.A) (hg : Gl X x) (hm : X.mg x = some (.ref a)) (hk : PySem.W.keepIn X.K (.ref a) = true) (hb : KBinds X.K fd ps ks g gV)
    (hkw : PK X kws tk) (hall : (backToKw pos (keywordEach kws X.env)).all (·.1.isSome) = true) (hks : (backToKw pos (keywordEach kws X.env)).filterMap (·.1) = ks) (hdb : (x == ("__debug__" : Str)) = false)
    (hpl : ((backTo pos (starEach [] X.env)).any (·.1) || (backToKw pos (keywordEach kws X.env)).any (·.1.isNone)) = false) : PE X (.Call (.Name x p) [] kws pos) (tCallK sp gV E0 tNil tk) := by
  constructor
  intro pins s σ H Q I h
  apply wpAny_Call_Name_kw
  refine ld_glob I hg hm ?_ hdb
  refine PySem.W.callWith_KW0 (h₀ := X.base) I.ok.mod.kin hk hall (thn (hkw.run pos pins s σ H _ I h) ?_) hpl
  rintro ws s2 ⟨zs, H2, I2, rz, q2⟩
  refine ⟨I2.kIn, ?_⟩
  rw [hks]
  have r2 := hb.rel (.nil : Vals [] []) rz
  exact wp_of_G (after_G F gd hr (hb.to s2 [] ws I2.kIn (by rw [← r2.length]; exact F.len _ _ _ _ q2)) I2 r2 q2)
end
/-! ### defs -/
def spF (K : PySem.W.Frag) (hb : Bool) (n : Nat) (f : List D → Wp D) : Sp := fun vs H Q _ => ∃ (bg : Bg) (F : Hp) (ws : List V) (ds : List D) (Q0 : D → Prop), Same F H ∧ BagOk bg F H ∧ (if hb = true then ∃ p q, bg = some (p, q) ∧ vs = .ref p :: ws else bg = none ∧ vs = ws) ∧ DqAll K F ws ds ∧ ds.length = n ∧
  f ds Q0 ∧ ∀ v d H' F', Step bg H F H' F' → Dq K F' v d → Q0 d → Q v H'
/-- the def x of the text: what it hands back, by the data handed in (the bag ahead of them, where there is one) -/
structure FnS (P : Program) (w : World) (K : PySem.W.Frag) (mg : Str → Option Value) (base : Heap) (x : Str) (st : Stmt) (k : Nat) (hb : Bool) (ps : List Str) (f : List D → Wp D) : Prop where
  ex : ∃ (a : Addr) (fd : FuncData), mg x = some (.ref a) ∧ Fun K x x st a fd ∧ Binds K fd ps [] ∧ FnG P w K mg base k a fd ps (spF K hb (ps.length - (if hb = true then 1 else 0)) f)
  len : ∀ ds Q, f ds Q → ds.length = ps.length - (if hb = true then 1 else 0)
def entry (hb : Bool) (ds : List D) (m : Nat) : En := (if hb = true then [some SV.bag] else []) ++ (ds.map fun d => some (SV.val d)) ++ List.replicate m none
theorem start_eq {N : List Str} {vs : List V} {m : Nat} (h : N.length = vs.length + m) : L2.start N vs = vs.map some ++ List.replicate m none := by
  unfold L2.start
  rw [h, Nat.add_sub_cancel_left]
theorem rel_vals {K : PySem.W.Frag} {F : Hp} : ∀ {ws : List V} {ds : List D} {m : Nat} {i : Nat} {x : SV}, DqAll K F ws ds → ((ds.map fun d => some (SV.val d)) ++ List.replicate m none)[i]? = some (some x) → ∃ d v, x = .val d ∧ (ws.map some ++ List.replicate m none)[i]? = some (some v) ∧ Dq K F v d
  | _, _, m, i, x, .nil, e => by
    have e' : (List.replicate m (none : Option SV))[i]? = some (some x) := e
    rw [List.getElem?_replicate] at e'
    split at e' <;> cases e'
  | _, _, m, 0, x, .cons (v := v) (d := d) h t, e => by
    have e' : some (some (SV.val d)) = some (some x) := e
    cases e'
    exact ⟨d, v, rfl, rfl, h⟩
  | _, _, m, i + 1, x, .cons h t, e => rel_vals (i := i) t e
theorem rel_entry {K : PySem.W.Frag} {bg : Bg} {H F H0 : Hp} {vs ws : List V} {ds : List D} {hb : Bool} {m : Nat} (e : Same F H) (b : BagOk bg F H) (hv : if hb = true then ∃ p q, bg = some (p, q) ∧ vs = .ref p :: ws else bg = none ∧ vs = ws) (hd : DqAll K F ws ds) :
    Rel K bg H0 (entry hb ds m) (vs.map some ++ List.replicate m none) H F := by
  have hl := dpa_len hd
  cases hb with
  | false =>
    obtain ⟨rfl, rfl⟩ := hv
    refine ⟨e, b, fun _ => 0, by simp [entry, hl], fun i d q => ?_, fun i es q => ?_, fun i j es fs q => ?_, fun i q => ?_⟩
    · obtain ⟨d', v, h1, h2, h3⟩ := rel_vals (K := K) (F := F) (m := m) (i := i) hd q
      cases h1
      exact ⟨v, h2, h3⟩
    · obtain ⟨d', v, h1, _⟩ := rel_vals (K := K) (F := F) (m := m) (i := i) hd q
      cases h1
    · obtain ⟨d', v, h1, _⟩ := rel_vals (K := K) (F := F) (m := m) (i := i) hd q
      cases h1
    · obtain ⟨d', v, h1, _⟩ := rel_vals (K := K) (F := F) (m := m) (i := i) hd q
      cases h1
  | true =>
    obtain ⟨p, q0, rfl, rfl⟩ := hv
    have key : ∀ (i : Nat) (x : SV), (entry true ds m)[i]? = some (some x) → (i = 0 ∧ x = .bag) ∨ ∃ d v, x = .val d ∧ ((V.ref p :: ws).map some ++ List.replicate m none)[i]? = some (some v) ∧ Dq K F v d := fun i x q => by
      cases i with
      | zero =>
        have q' : some (some SV.bag) = some (some x) := q
        cases q'
        exact .inl ⟨rfl, rfl⟩
      | succ i =>
        obtain ⟨d', v, h1, h2, h3⟩ := rel_vals (K := K) (F := F) (m := m) (i := i) hd (show ((ds.map fun d => some (SV.val d)) ++ List.replicate m none)[i]? = some (some x) from q)
        exact .inr ⟨d', v, h1, h2, h3⟩
    refine ⟨e, b, fun _ => 0, by simp [entry, hl], fun i d q => ?_, fun i es q => ?_, fun i j es fs q => ?_, fun i q => ?_⟩
    · rcases key i _ q with ⟨rfl, z⟩ | ⟨d', v, h1, h2, h3⟩
      · cases z
      · cases h1
        exact ⟨v, h2, h3⟩
    · rcases key i _ q with ⟨rfl, z⟩ | ⟨d', v, h1, h2, h3⟩
      · cases z
      · cases h1
    · rcases key i _ q with ⟨rfl, z⟩ | ⟨d', v, h1, h2, h3⟩
      · cases z
      · cases h1
    · rcases key i _ q with ⟨rfl, z⟩ | ⟨d', v, h1, h2, h3⟩
      · exact ⟨p, q0, rfl, rfl⟩
      · cases h1
/-- a def by its body -/
theorem fnS_of {P : Program} {w : World} {K : PySem.W.Frag} {mg : Str → Option Value} {base : Heap} {x : Str} {st : Stmt} {a : Addr} {fd : FuncData} {N ps : List Str} {k : Nat} (hb : Bool) {f : List D → Wp D} (m : Nat)
    (F : Fun K x x st a fd) (gm : mg x = some (.ref a)) (S : FnScope N ps (defScope st)) (B : Binds K fd ps []) (hm : N.length = ps.length + m) (hp : hb = true → 1 ≤ ps.length) (len : ∀ ds Q, f ds Q → ds.length = ps.length - (if hb = true then 1 else 0))
    (body : ∀ ds : List D, ds.length = ps.length - (if hb = true then 1 else 0) → MR ⟨P, w, K, mg, base, N, defScope st, k, fun _ => true⟩ (defBody st) (entry hb ds m) (f ds)) : FnS P w K mg base x st (k + 1) hb ps f := by
  have vlen : ∀ {bg : Bg} {vs ws : List V}, (if hb = true then ∃ p q, bg = some (p, q) ∧ vs = .ref p :: ws else bg = none ∧ vs = ws) → ws.length = ps.length - (if hb = true then 1 else 0) → vs.length = ps.length := fun {bg vs ws} h1 h2 => by
    cases hb with
    | false => obtain ⟨_, rfl⟩ := h1; simpa using h2
    | true =>
      obtain ⟨_, _, _, rfl⟩ := h1
      have := hp rfl
      rw [List.length_cons, h2]
      simp
      omega
  refine ⟨⟨a, fd, gm, F, B, fnG_of F S (fun vs H Q E h => ?_) fun cdv A outer s H vs Q gd hr h => ?_⟩, len⟩
  · obtain ⟨bg, Fz, ws, ds, Q0, h1, h2, h3, h4, h5, h6, h7⟩ := h
    exact vlen h3 (by rw [dpa_len h4, h5])
  · obtain ⟨bg, Fz, ws, ds, Q0, h1, h2, h3, h4, h5, h6, h7⟩ := h
    let Γ : G := ⟨P, w, K, mg, base, N, defScope st, k, fun _ => true⟩
    have inn : Γ.In (cxOf CX0 P w K mg base N x (defScope st) a cdv A outer s H E0).nox := ⟨rfl, rfl, rfl, rfl, rfl, rfl, rfl, rfl, hr, rfl, rfl, gd⟩
    have vl := vlen h3 (by rw [dpa_len h4, h5])
    refine ⟨cS Γ (defBody st), cS_ps inn _, ?_⟩
    have es : L2.start N vs = vs.map some ++ List.replicate m none := start_eq (by rw [vl]; exact hm)
    rw [es]
    refine body ds h5 Empty Empty (fun e => nomatch e) (fun e => nomatch e) bg H Fz _ H Fz (rel_entry h1 h2 h3 h4) (.refl h1 h2) h2 (fun f => match f with | .rt d => Q0 d | .nx e => nomatch e | .bk e => nomatch e | .ct e => nomatch e) h6 _ (fun e => nomatch e) (fun v d H' F' s' hd q => h7 v d H' F' s' hd q) (fun e => nomatch e) (fun e => nomatch e)

/-! ### calls -/
theorem Step.up {bg : Bg} {H F H' F' : Hp} (b : BagOk bg F H) (s : Step none H F H' F') : Step bg H F H' F' :=
  ⟨s.ff, s.new, fun a o _ h => s.kp a o notBag_none h, s.ex, fun p q e => by
    obtain ⟨h1, h2, h3, cs, c, m, h4, h5, h6⟩ := b p q e
    have hn : ∀ z o, F z = none → H z = some o → F' z = none := fun z o f h => by
      cases y : F' z with
      | none => rfl
      | some o' =>
        have := s.new z f (by rw [y]; simp)
        rw [h] at this
        cases this
    exact ⟨h1, hn _ _ h2 h4, hn _ _ h3 h5, cs, c, m, s.kp _ _ notBag_none h4, s.kp _ _ notBag_none h5, h6⟩⟩
section
variable {Γ : G} {x : Str} {st : Stmt} {k : Nat} {ps : List Str} {f : List D → Wp D} {en : En} {e : Expr} {es : List Expr} {m : Wp (List D)} {p pos : Pos}
theorem me_call (Fn : FnS Γ.P Γ.w Γ.K Γ.mg Γ.base x st k false ps f) (hk : k ≤ Γ.k) (hg : GlS Γ.sc x) (ha : MA Γ (e :: es) en m) (hdb : (x == ("__debug__" : Str)) = false := by decide)
    (he : ∀ X : Cx, starEach (e :: es) X.env = (false, eval e X.env) :: starEach es X.env := by intro _; rfl) (hpl : ∀ X : Cx, (backTo pos (starEach es X.env)).any (·.1) = false := by intro _; rfl) :
    ME Γ (.Call (.Name x p) (e :: es) [] pos) en (bnd m f) := by
  obtain ⟨⟨a, fd, gm, F, B, ok⟩, len⟩ := Fn
  refine me_of (t := tCall (spF Γ.K false (ps.length - 0) f) [] E0 (cA Γ (e :: es))) (fun X h => pe_callG (by rw [h.prog, h.w, h.K, h.mg, h.base]; exact ok) h.gd (h.room.mono hk) (gl_of h hg) (by rw [h.mg]; exact gm) (by rw [h.K]; exact F.kp) (by rw [h.K]; exact B) (cA_pa h _) hdb (he X) (hpl X)) fun bg H0 σ H F1 r Q hm QQ kk => ?_
  refine ha bg H0 σ H F1 r _ hm _ fun vs ds H1 F2 s1 hd q1 => ?_
  exact ⟨none, F2, vs, ds, Q, s1.ex, bagOk_none, ⟨rfl, List.append_nil _⟩, hd, len _ _ q1, q1, fun v d H' F' s2 hd' q2 => kk v d H' F' (s1.trans (s2.up s1.bag)) hd' q2⟩
/-- f(bag, ..) -/
theorem me_callB {y : Str} {py : Pos} (Fn : FnS Γ.P Γ.w Γ.K Γ.mg Γ.base x st k true ps f) (i : Nat) (hk : k ≤ Γ.k) (hg : GlS Γ.sc x) (hN : Γ.N[i]? = some y) (hv : Vis Γ.sc y) (hi : en[i]? = some (some .bag)) (hp : 1 ≤ ps.length) (ha : MA Γ es en m) (hdb : (x == ("__debug__" : Str)) = false := by decide)
    (hd : (y == ("__debug__" : Str)) = false := by decide) (hcd : (y == ("__classdict__" : Str)) = false := by decide)
    (he : ∀ X : Cx, starEach (.Name y py :: es) X.env = (false, eval (.Name y py) X.env) :: starEach es X.env := by intro _; rfl) (hpl : ∀ X : Cx, (backTo pos (starEach es X.env)).any (·.1) = false := by intro _; rfl) :
    ME Γ (.Call (.Name x p) (.Name y py :: es) [] pos) en (bnd m f) := by
  obtain ⟨⟨a, fd, gm, F, B, ok⟩, len⟩ := Fn
  refine me_of (t := tCall (spF Γ.K true (ps.length - 1) f) [] E0 (tCons (tVar i) (cA Γ es))) (fun X h => pe_callG (by rw [h.prog, h.w, h.K, h.mg, h.base]; exact ok) h.gd (h.room.mono hk) (gl_of h hg) (by rw [h.mg]; exact gm) (by rw [h.K]; exact F.kp) (by rw [h.K]; exact B)
    (pa_cons (pe_var (by rw [h.N]; exact hN) (by rw [h.sc]; exact hv) hd hcd) (cA_pa h _) (he X)) hdb (he X) (hpl X)) fun bg H0 σ H F1 r Q hm QQ kk => ?_
  obtain ⟨A, ra⟩ := r.slots
  obtain ⟨p1, q1, hb, hs⟩ := ra.bgs i hi
  refine ⟨_, hs, ha bg H0 σ H F1 r _ hm _ fun vs ds H1 F2 s1 hd q2 => ?_⟩
  exact ⟨bg, F2, vs, ds, Q, s1.ex, s1.bag, ⟨p1, q1, hb, by rw [List.append_nil]⟩, hd, len _ _ q2, q2, fun v d H' F' s2 hd' q3 => kk v d H' F' (s1.trans s2) hd' q3⟩

/-! ### calls with keywords -/
def pick {α : Type} (ix : List Nat) (l : List α) : List α := ix.filterMap (l[·]?)
/-- n places, then the keywords, put in the parameters' order -/
def perm {α : Type} (n k : Nat) (ix : List Nat) (us ws : List α) : List α := if us.length = n ∧ ws.length = k then pick ix (us ++ ws) else []
theorem vals_pick {xs : List V} {us : List Value} (r : Vals xs us) : ∀ ix : List Nat, Vals (pick ix xs) (pick ix us)
  | [] => .nil
  | i :: ix => by
    unfold pick
    rw [List.filterMap_cons, List.filterMap_cons]
    cases h : xs[i]? with
    | none => rw [r.none_of h]; exact vals_pick r ix
    | some v =>
      obtain ⟨u, hu, ru⟩ := r.get h
      rw [hu]
      exact .cons ru (vals_pick r ix)
theorem dqa_pick {K : PySem.W.Frag} {F : Hp} {xs : List V} {us : List D} (r : DqAll K F xs us) : ∀ ix : List Nat, DqAll K F (pick ix xs) (pick ix us)
  | [] => .nil
  | i :: ix => by
    unfold pick
    rw [List.filterMap_cons, List.filterMap_cons]
    cases h : xs[i]? with
    | none =>
      have : us[i]? = none := by
        rw [List.getElem?_eq_none_iff] at h ⊢
        rw [← dpa_len r]
        exact h
      rw [this]; exact dqa_pick r ix
    | some v =>
      obtain ⟨u, hu, ru⟩ := dpa_get r h
      rw [hu]
      exact .cons ru (dqa_pick r ix)
theorem vals_perm {n k : Nat} {ix : List Nat} {vs zs : List V} {us ws : List Value} (r : Vals vs us) (s : Vals zs ws) : Vals (perm n k ix vs zs) (perm n k ix us ws) := by
  unfold perm
  rw [r.length, s.length]
  split
  · exact vals_pick (r.append s) ix
  · exact .nil
theorem dqa_perm {K : PySem.W.Frag} {F : Hp} {n k : Nat} {ix : List Nat} {vs zs : List V} {us ws : List D} (r : DqAll K F vs us) (s : DqAll K F zs ws) : DqAll K F (perm n k ix vs zs) (perm n k ix us ws) := by
  unfold perm
  rw [dpa_len r, dpa_len s]
  split
  · exact dqa_pick (dpa_append r s) ix
  · exact .nil
/-- how the def's parameters are bound by n places and the keywords ks -/
def KB (x : Str) (st : Stmt) (ps ks : List Str) (n : Nat) (ix : List Nat) : Prop := ∀ (kV doc pm : Value) (an : Option Addr) (cdv ct : Value) (us ws : List Value), us.length = n → ws.length = ks.length →
  bindArgs (PySem.W.fnOf x x (defArgs st) (defBody st) (defScope st) .none kV doc pm an cdv ct) ⟨us, ks.zip ws⟩ = pure (ps.zip (pick ix (us ++ ws)))
theorem kbinds_of {K : PySem.W.Frag} {a : Addr} {fd : FuncData} {ks : List Str} {n : Nat} {ix : List Nat} (F : Fun K x x st a fd) (hp : 1 ≤ ps.length) (h : KB x st ps ks n ix) : KBinds K fd ps ks (perm n ks.length ix) (perm n ks.length ix) := by
  refine ⟨fun s us ws _ hl => ?_, fun r s => vals_perm r s⟩
  obtain ⟨oc, od, kV, doc, pm, an, cdv, ct, osl, rfl, lk, hcd⟩ := F.ex
  unfold perm at hl ⊢
  by_cases c : us.length = n ∧ ws.length = ks.length
  · rw [if_pos c]
    exact .of_eq (h kV doc pm an cdv ct us ws c.1 c.2)
  · rw [if_neg c] at hl
    have : ps.length = 0 := hl.symm
    omega
def cK (Γ : G) (kws : List Keyword) : TA := fun σ H Q => ∃ t : TA, (∀ X, Γ.In X → PK X kws t) ∧ t σ H Q
theorem cK_pk (h : Γ.In X) (kws : List Keyword) : PK X kws (cK Γ kws) := ⟨fun pos pins s σ H Q I ⟨t, ht, q⟩ => (ht X h).run pos pins s σ H Q I q⟩
def MK (Γ : G) (kws : List Keyword) (en : En) (m : Wp (List D)) : Prop := AV Γ.K (cK Γ kws) en m
theorem mk_nil : MK Γ [] en (ret []) := fun bg H0 σ H F r Q hm QQ k => ⟨tNil, fun _ _ => pk_nil, k _ _ _ _ r.refl .nil hm⟩
theorem mk_cons {kws : List Keyword} {nm : Option Str} {kpos : Pos} {m : Wp D} {n : Wp (List D)} (h : ME Γ e en m) (hr : MK Γ kws en n) : MK Γ (⟨nm, e, kpos⟩ :: kws) en (bnd m fun x => bnd n fun xs => ret (x :: xs)) := fun bg H0 σ H F r Q hm QQ k =>
  ⟨tCons (cE Γ e) (cK Γ kws), fun X hX => pk_cons (cE_pe hX e) (cK_pk hX kws), h bg H0 σ H F r _ hm _ fun v d H1 F1 s1 hd q1 =>
    hr bg H0 σ H1 F1 (r.step s1) _ q1 _ fun vs ds H2 F2 s2 hds q2 => k _ _ _ _ (s1.trans s2) (.cons (dp_mono s2.ff _ _ hd) hds) q2⟩
/-- f(k = .., ..) -/
theorem me_callK0 {kws : List Keyword} {ks : List Str} (ix : List Nat) (Fn : FnS Γ.P Γ.w Γ.K Γ.mg Γ.base x st k false ps f) (hk : k ≤ Γ.k) (hg : GlS Γ.sc x) (hp : 1 ≤ ps.length) (kb : KB x st ps ks 0 ix) (ha : MK Γ kws en m) (hdb : (x == ("__debug__" : Str)) = false := by decide)
    (hall : ∀ X : Cx, (backToKw pos (keywordEach kws X.env)).all (·.1.isSome) = true := by intro _; rfl) (hks : ∀ X : Cx, (backToKw pos (keywordEach kws X.env)).filterMap (·.1) = ks := by intro _; rfl)
    (hpl : ∀ X : Cx, ((backTo pos (starEach [] X.env)).any (·.1) || (backToKw pos (keywordEach kws X.env)).any (·.1.isNone)) = false := by intro _; rfl) :
    ME Γ (.Call (.Name x p) [] kws pos) en (bnd m fun ds => f (perm 0 ks.length ix [] ds)) := by
  obtain ⟨⟨a, fd, gm, F, B, ok⟩, len⟩ := Fn
  refine me_of (t := tCallK (spF Γ.K false (ps.length - 0) f) (perm 0 ks.length ix) E0 tNil (cK Γ kws)) (fun X h => pe_callKG0 (by rw [h.prog, h.w, h.K, h.mg, h.base]; exact ok) h.gd (h.room.mono hk) (gl_of h hg) (by rw [h.mg]; exact gm) (by rw [h.K]; exact F.kp) (by rw [h.K]; exact kbinds_of F hp kb) (cK_pk h _) (hall X) (hks X) hdb (hpl X)) fun bg H0 σ H F1 r Q hm QQ kk => ?_
  refine ha bg H0 σ H F1 r _ hm _ fun vs ds H1 F2 s1 hd q1 => ?_
  exact ⟨none, F2, _, _, Q, s1.ex, bagOk_none, ⟨rfl, rfl⟩, dqa_perm .nil hd, len _ _ q1, q1, fun v d H' F' s2 hd' q2 => kk v d H' F' (s1.trans (s2.up s1.bag)) hd' q2⟩
/-- f(e, .., k = .., ..) -/
theorem me_callK {kws : List Keyword} {ks : List Str} {n : Wp (List D)} (nn : Nat) (ix : List Nat) (Fn : FnS Γ.P Γ.w Γ.K Γ.mg Γ.base x st k false ps f) (hk : k ≤ Γ.k) (hg : GlS Γ.sc x) (hp : 1 ≤ ps.length) (kb : KB x st ps ks nn ix) (ha : MA Γ (e :: es) en m) (hb : MK Γ kws en n) (hdb : (x == ("__debug__" : Str)) = false := by decide)
    (hall : ∀ X : Cx, (backToKw pos (keywordEach kws X.env)).all (·.1.isSome) = true := by intro _; rfl) (hks : ∀ X : Cx, (backToKw pos (keywordEach kws X.env)).filterMap (·.1) = ks := by intro _; rfl)
    (he : ∀ X : Cx, starEach (e :: es) X.env = (false, eval e X.env) :: starEach es X.env := by intro _; rfl)
    (hpl : ∀ X : Cx, ((backTo pos (starEach (e :: es) X.env)).any (·.1) || (backToKw pos (keywordEach kws X.env)).any (·.1.isNone)) = false := by intro _; rfl) :
    ME Γ (.Call (.Name x p) (e :: es) kws pos) en (bnd m fun us => bnd n fun ws => f (perm nn ks.length ix us ws)) := by
  obtain ⟨⟨a, fd, gm, F, B, ok⟩, len⟩ := Fn
  refine me_of (t := tCallK (spF Γ.K false (ps.length - 0) f) (perm nn ks.length ix) E0 (cA Γ (e :: es)) (cK Γ kws)) (fun X h => pe_callKG (by rw [h.prog, h.w, h.K, h.mg, h.base]; exact ok) h.gd (h.room.mono hk) (gl_of h hg) (by rw [h.mg]; exact gm) (by rw [h.K]; exact F.kp) (by rw [h.K]; exact kbinds_of F hp kb) (cA_pa h _) (cK_pk h _) (hall X) (hks X) hdb (he X) (hpl X)) fun bg H0 σ H F1 r Q hm QQ kk => ?_
  refine ha bg H0 σ H F1 r _ hm _ fun vs ds H1 F2 s1 hd q1 => ?_
  refine hb bg H0 σ H1 F2 (r.step s1) _ q1 _ fun zs es H2 F3 s2 hz q2 => ?_
  exact ⟨none, F3, _, _, Q, s2.ex, bagOk_none, ⟨rfl, rfl⟩, dqa_perm (dpa_mono s2.ff _ _ hd) hz, len _ _ q2, q2, fun v d H' F' s3 hd' q3 => kk v d H' F' (s1.trans (s2.trans (s3.up s2.bag))) hd' q3⟩
end
end PW

set_option Elab.async false
set_option linter.all false
set_option maxRecDepth 100000
set_option maxHeartbeats 4000000
namespace PW
open PySem PySem.Spec PyProof.Rows L2

/-! ### what stands in a sequence -/
def intsOf : List D → Option (List Int)
  | [] => some []
  | .int i :: r => (intsOf r).map (i :: ·)
  | _ :: _ => none
def boolsOf : List D → Option (List Bool)
  | [] => some []
  | .bool i :: r => (boolsOf r).map (i :: ·)
  | _ :: _ => none
theorem intsOf_map : ∀ ns : List Int, intsOf (ns.map .int) = some ns
  | [] => rfl
  | n :: ns => by
    show (intsOf (ns.map .int)).map (n :: ·) = _
    rw [intsOf_map ns]
    rfl
theorem boolsOf_map : ∀ ns : List Bool, boolsOf (ns.map .bool) = some ns
  | [] => rfl
  | n :: ns => by
    show (boolsOf (ns.map .bool)).map (n :: ·) = _
    rw [boolsOf_map ns]
    rfl
theorem intsOf_eq : ∀ {ds : List D} {ns : List Int}, intsOf ds = some ns → ds = ns.map .int
  | [], ns, h => by cases h; rfl
  | .int i :: r, ns, h => by
    have h' : (intsOf r).map (i :: ·) = some ns := h
    cases e : intsOf r with
    | none => rw [e] at h'; cases h'
    | some ms =>
      rw [e] at h'
      cases h'
      rw [intsOf_eq e]
      rfl
  | .none :: _, _, h => nomatch h
  | .bool _ :: _, _, h => nomatch h
  | .str _ :: _, _, h => nomatch h
  | .list _ :: _, _, h => nomatch h
  | .tuple _ :: _, _, h => nomatch h
  | .dict _ :: _, _, h => nomatch h
theorem boolsOf_eq : ∀ {ds : List D} {ns : List Bool}, boolsOf ds = some ns → ds = ns.map .bool
  | [], ns, h => by cases h; rfl
  | .bool i :: r, ns, h => by
    have h' : (boolsOf r).map (i :: ·) = some ns := h
    cases e : boolsOf r with
    | none => rw [e] at h'; cases h'
    | some ms =>
      rw [e] at h'
      cases h'
      rw [boolsOf_eq e]
      rfl
  | .none :: _, _, h => nomatch h
  | .int _ :: _, _, h => nomatch h
  | .str _ :: _, _, h => nomatch h
  | .list _ :: _, _, h => nomatch h
  | .tuple _ :: _, _, h => nomatch h
  | .dict _ :: _, _, h => nomatch h
theorem dqa_ints {K : PySem.W.Frag} {F : Hp} : ∀ {ns : List Int} {xs : List V}, DqAll K F xs (ns.map .int) → xs = ns.map V.int
  | [], _, .nil => rfl
  | n :: ns, _, .cons h t => by
    cases h
    rw [dqa_ints t]
    rfl
theorem dqa_bools {K : PySem.W.Frag} {F : Hp} : ∀ {ns : List Bool} {xs : List V}, DqAll K F xs (ns.map .bool) → xs = ns.map V.bl
  | [], _, .nil => rfl
  | n :: ns, _, .cons h t => by
    cases h
    rw [dqa_bools t]
    rfl
theorem dqa_of_ints {K : PySem.W.Frag} {F : Hp} : ∀ ns : List Int, DqAll K F (ns.map V.int) (ns.map .int)
  | [] => .nil
  | n :: ns => .cons (.int n) (dqa_of_ints ns)
def intsW {α : Type} (k : List Int → Wp α) (ds : List D) : Wp α := match intsOf ds with
  | some ns => k ns
  | none => nay
def boolsW {α : Type} (k : List Bool → Wp α) (ds : List D) : Wp α := match boolsOf ds with
  | some ns => k ns
  | none => nay
theorem intsW_map {α : Type} (k : List Int → Wp α) (ns : List Int) : intsW k (ns.map .int) = k ns := by unfold intsW; rw [intsOf_map]
theorem boolsW_map {α : Type} (k : List Bool → Wp α) (ns : List Bool) : boolsW k (ns.map .bool) = k ns := by unfold boolsW; rw [boolsOf_map]

/-! ### sum of a tuple -/
theorem preSum_take (ns : List Int) : ∀ j, j ≤ ns.length → preSum (fun i => ns.getD i 0) j = (ns.take j).sum
  | 0, _ => by rw [List.take_zero]; rfl
  | j + 1, h => by
    have e : ns[j]? = some (ns[j]'h) := List.getElem?_eq_getElem h
    rw [List.take_add_one, e, List.sum_append, ← preSum_take ns j (by omega)]
    show preSum (fun i => ns.getD i 0) j + ns.getD j 0 = preSum (fun i => ns.getD i 0) j + [ns[j]].sum
    rw [List.getD_eq_getElem?_getD, e]
    simp
theorem vals_int_at {ns : List Int} {its : List Value} (r : Vals (ns.map V.int) its) (i : Nat) (v : Value) (h : its.toArray[i]? = some v) : ∃ t, v = .int (ns.getD i 0) t := by
  have h' : its[i]? = some v := by simpa using h
  have hl := r.length
  have hi : i < ns.length := by
    have := (List.getElem?_eq_some_iff.mp h').1
    rw [List.length_map] at hl
    omega
  obtain ⟨u, hu, ru⟩ := r.get (i := i) (x := V.int ns[i]) (by rw [List.getElem?_map, List.getElem?_eq_getElem hi]; rfl)
  rw [h'] at hu
  cases hu
  obtain ⟨t, rfl⟩ := ru
  exact ⟨t, by rw [List.getD_eq_getElem?_getD, List.getElem?_eq_getElem hi]; rfl⟩
def rSumT (K : PySem.W.Frag) : List V → Hp → VK → Prop := fun vs H Q => ∃ (a : Addr) (ns : List Int), vs = [V.ref a] ∧ SqT K H a (ns.map V.int) ∧ Q (.int ns.sum) H
theorem cr_sumT {X : Cx} (hc : X.calm = true) : CallR X (.builtin "sum") (rSumT X.K) := by
  intro pins s σ H vs us Q I r h
  obtain ⟨a, ns, rfl, hs, q⟩ := h
  obtain ⟨its, rv, ht, hz⟩ := I.tuple hs
  rw [Vals.ref1 r]
  have hl := rv.length
  rw [List.length_map] at hl
  have hlt : a < s.heap.objs.size := ht.lt
  refine call_sum_walkG (wpAny_pyIter_tuple (show s.heap.IsTuple a its.toArray from ht) ?_)
  refine ⟨s.heap.objs.size, _, _, _, _, _, fun i => ns.getD i 0, rfl, Walks.tuple (A := X.A.in1) (I.ok.hd hc) _ a (Nat.ne_of_lt hlt) its.toArray, ⟨⟨_, Heap.get?_push_size _ rfl, rfl, rfl⟩, ?_⟩, ?_, fun i v hv => vals_int_at rv i v hv, fun h' tk t' hk => ?_⟩
  · exact Heap.IsTuple.at (show s.heap.IsTuple a its.toArray from ht) fun o e => Heap.get?_push_of_some _ e
  · intro b hb
    have hb' : b = s.heap.objs.size ∨ b = a := by simpa using hb
    show b < (s.heap.push _).objs.size
    rw [Heap.size_push]
    rcases hb' with e | e
    · rw [e]; exact Nat.lt_succ_self _
    · rw [e]; exact Nat.lt_succ_of_lt hlt
  · refine ⟨.int ns.sum, H, I.kept fun b o eo => hk b o (fun hmem => ?_) (Heap.get?_push_of_some _ eo), ⟨t', ?_⟩, q⟩
    · have : b = s.heap.objs.size := by simpa using hmem
      rw [this] at eo
      exact absurd (Heap.lt_size eo) (Nat.lt_irrefl _)
    · have e : preSum (fun i => ns.getD i 0) its.toArray.size = ns.sum := by
        rw [List.size_toArray, ← hl, preSum_take ns _ (Nat.le_refl _), List.take_length]
      rw [e]
section
variable {Γ : G} {x : Str} {e e2 : Expr} {en : En} {m n : Wp D} {mq : Wp (List D)} {p pos : Pos}
theorem CallR.or {X : Cx} {f : Value} {r r' : List V → Hp → VK → Prop} (h : CallR X f r) (h' : CallR X f r') : CallR X f (fun xs H Q => r xs H Q ∨ r' xs H Q) := by
  intro pins s σ H xs us Q I r q
  rcases q with q | q
  · exact h pins s σ H xs us Q I r q
  · exact h' pins s σ H xs us Q I r q
theorem peB1 {id : String} {r : List V → Hp → VK → Prop} (hc : ∀ X, Γ.In X → CallR X (.builtin id) r) (hg : GlS Γ.sc x) (hm : Γ.mg x = none) (hv : bootBuiltins x = some (.builtin id)) (hn : x ≠ "__name__" := by decide) (hdb : (x == ("__debug__" : Str)) = false := by decide)
    (hst : ∀ X : Cx, starEach [e] X.env = (false, eval e X.env) :: starEach [] X.env := by intro _; rfl) (X : Cx) (h : Γ.In X) : PE X (.Call (.Name x p) [e] [] pos) (tCB r (tCons (cE Γ e) tNil)) :=
  pe_callB (hc X h) (gl_of h hg) (by rw [h.mg]; exact hm) hv (pa_cons (cE_pe h e) pa_nil (hst X)) hn hdb (hst X) rfl
theorem peT1 {T : String} {r : List V → Hp → VK → Prop} (hc : ∀ X, Γ.In X → CallR X (.type T) r) (hg : GlS Γ.sc x) (hm : Γ.mg x = none) (hv : bootBuiltins x = some (.type T)) (hn : x ≠ "__name__" := by decide) (hdb : (x == ("__debug__" : Str)) = false := by decide)
    (hst : ∀ X : Cx, starEach [e] X.env = (false, eval e X.env) :: starEach [] X.env := by intro _; rfl) (X : Cx) (h : Γ.In X) : PE X (.Call (.Name x p) [e] [] pos) (tCB r (tCons (cE Γ e) tNil)) :=
  pe_callTy (hc X h) (gl_of h hg) (by rw [h.mg]; exact hm) hv (pa_cons (cE_pe h e) pa_nil (hst X)) hn hdb (hst X) rfl
/-- a sequence as it stands behind more steps -/
theorem sq_now {K : PySem.W.Frag} {bg : Bg} {H F H' F' : Hp} {a : Addr} {xs : List V} (h : Rdl bg H a xs ∨ SqT K F a xs) (s : Step bg H F H' F') : SqL K H' a xs ∨ SqT K H' a xs := by
  rcases h with h | h
  · exact .inl (h.keep s.kp).sq
  · exact .inr (same_t s.ex (same_t s.ff h))
theorem me_len (hg : GlS Γ.sc "len") (hm : Γ.mg "len" = none) (h : MQ Γ e en mq) (hst : ∀ X : Cx, starEach [e] X.env = (false, eval e X.env) :: starEach [] X.env := by intro _; rfl) : ME Γ (.Call (.Name "len" p) [e] [] pos) en (bnd mq fun ds => ret (.int ds.length)) :=
  me_of (t := tCB (fun xs H Q => ∃ x n, xs = [x] ∧ LenV Γ.K x H n ∧ Q (.int n) H) (tCons (cE Γ e) tNil)) (peB1 (fun X h => by have := call_len (X := X); rw [h.K] at this; exact this) hg hm PySem.boot_len (hst := hst)) fun bg H0 σ H F r Q hm QQ k => h bg H0 σ H F r _ hm _ fun a xs ds H' F' s hr hd q => by
    refine ⟨_, xs.length, rfl, ?_, k _ _ _ _ s (.int _) (by rw [dpa_len hd]; exact q)⟩
    rcases sq_now hr (.refl s.ex s.bag) with g | g
    · exact .inl ⟨xs, g, rfl⟩
    · exact .inr ⟨xs, g, rfl⟩
theorem me_abs (hg : GlS Γ.sc "abs") (hm : Γ.mg "abs" = none) (h : ME Γ e en m) (hst : ∀ X : Cx, starEach [e] X.env = (false, eval e X.env) :: starEach [] X.env := by intro _; rfl) : ME Γ (.Call (.Name "abs" p) [e] [] pos) en (bnd m fun d => bnd (intW d) fun i => ret (.int (if i < 0 then -i else i))) :=
  me_of (peB1 (fun X h => call_abs) hg hm (by decide +kernel) (hst := hst)) fun bg H0 σ H F r Q hm QQ k => h bg H0 σ H F r _ hm _ fun v d H' F' s hd q => by
    cases hd <;> first | exact q.elim | skip
    exact ⟨_, rfl, k _ _ _ _ s (.int _) q⟩
def toInt (d : D) : Wp D := match d with
  | .int i => ret (.int i)
  | .bool b => ret (.int (if b then 1 else 0))
  | _ => nay
theorem me_toInt (hg : GlS Γ.sc "int") (hm : Γ.mg "int" = none) (h : ME Γ e en m) (hst : ∀ X : Cx, starEach [e] X.env = (false, eval e X.env) :: starEach [] X.env := by intro _; rfl) : ME Γ (.Call (.Name "int" p) [e] [] pos) en (bnd m toInt) :=
  me_of (peT1 (fun X h => call_int1) hg hm (by decide +kernel) (hst := hst)) fun bg H0 σ H F r Q hm QQ k => h bg H0 σ H F r _ hm _ fun v d H' F' s hd q => by
    cases hd with
    | int i => exact .inl ⟨_, rfl, k _ _ _ _ s (.int _) q⟩
    | bl b => exact .inr ⟨_, rfl, k _ _ _ _ s (.int _) q⟩
    | non => exact q.elim
    | str => exact q.elim
    | lst => exact q.elim
    | tup => exact q.elim
theorem me_sum (hg : GlS Γ.sc "sum") (hm : Γ.mg "sum" = none) (h : MQ Γ e en mq) (hst : ∀ X : Cx, starEach [e] X.env = (false, eval e X.env) :: starEach [] X.env := by intro _; rfl) : ME Γ (.Call (.Name "sum" p) [e] [] pos) en (bnd mq (intsW fun ns => ret (.int ns.sum))) :=
  me_of (t := tCB (fun xs H Q => rSum Γ.K xs H Q ∨ rSumT Γ.K xs H Q) (tCons (cE Γ e) tNil)) (peB1 (fun X h => by have := (cr_sum (X := X) h.calm).or (cr_sumT h.calm); rw [h.K] at this; exact this) hg hm (by decide +kernel) (hst := hst)) fun bg H0 σ H F r Q hm QQ k => h bg H0 σ H F r _ hm _ fun a xs ds H' F' s hr hd q => by
    unfold intsW at q
    cases e1 : intsOf ds with
    | none => simp only [e1] at q; exact q.elim
    | some ns =>
      simp only [e1] at q
      rw [intsOf_eq e1] at hd
      rw [dqa_ints hd] at hr
      rcases sq_now hr (.refl s.ex s.bag) with g | g
      · exact Or.inl ⟨a, ns, rfl, g, k _ _ _ _ s (.int _) q⟩
      · exact Or.inr ⟨a, ns, rfl, g, k _ _ _ _ s (.int _) q⟩
theorem me_all (hg : GlS Γ.sc "all") (hm : Γ.mg "all" = none) (h : MFr Γ e en mq) (hst : ∀ X : Cx, starEach [e] X.env = (false, eval e X.env) :: starEach [] X.env := by intro _; rfl) : ME Γ (.Call (.Name "all" p) [e] [] pos) en (bnd mq (boolsW fun bs => ret (.bool (bs.all id)))) :=
  me_of (t := tCB (rAll Γ.K) (tCons (cE Γ e) tNil)) (peB1 (fun X h => by have := cr_all (X := X) h.calm; rw [h.K] at this; exact this) hg hm (by decide +kernel) (hst := hst)) fun bg H0 σ H F r Q hm QQ k => h bg H0 σ H F r _ hm _ fun a xs ds H' F' s hn hf ha hd q => by
    unfold boolsW at q
    cases e1 : boolsOf ds with
    | none => simp only [e1] at q; exact q.elim
    | some ns =>
      simp only [e1] at q
      rw [boolsOf_eq e1] at hd
      rw [dqa_bools hd] at ha
      exact ⟨a, ns, rfl, .inl (.inl ha), k _ _ _ _ s (.bl _) q⟩
theorem me_any (hg : GlS Γ.sc "any") (hm : Γ.mg "any" = none) (h : MFr Γ e en mq) (hst : ∀ X : Cx, starEach [e] X.env = (false, eval e X.env) :: starEach [] X.env := by intro _; rfl) : ME Γ (.Call (.Name "any" p) [e] [] pos) en (bnd mq (boolsW fun bs => ret (.bool (bs.any id)))) :=
  me_of (t := tCB (rAny Γ.K) (tCons (cE Γ e) tNil)) (peB1 (fun X h => by have := cr_any (X := X) h.calm; rw [h.K] at this; exact this) hg hm (by decide +kernel) (hst := hst)) fun bg H0 σ H F r Q hm QQ k => h bg H0 σ H F r _ hm _ fun a xs ds H' F' s hn hf ha hd q => by
    unfold boolsW at q
    cases e1 : boolsOf ds with
    | none => simp only [e1] at q; exact q.elim
    | some ns =>
      simp only [e1] at q
      rw [boolsOf_eq e1] at hd
      rw [dqa_bools hd] at ha
      exact ⟨a, ns, rfl, .inl (.inl ha), k _ _ _ _ s (.bl _) q⟩
def minW (ns : List Int) : Wp D := fun Q => 0 < ns.length ∧ ∀ m, m ∈ ns → (∀ y, y ∈ ns → m ≤ y) → Q (.int m)
def maxW (ns : List Int) : Wp D := fun Q => 0 < ns.length ∧ ∀ m, m ∈ ns → (∀ y, y ∈ ns → y ≤ m) → Q (.int m)
theorem me_min (hg : GlS Γ.sc "min") (hm : Γ.mg "min" = none) (h : MFr Γ e en mq) (hst : ∀ X : Cx, starEach [e] X.env = (false, eval e X.env) :: starEach [] X.env := by intro _; rfl) : ME Γ (.Call (.Name "min" p) [e] [] pos) en (bnd mq (intsW minW)) :=
  me_of (t := tCB (rMin Γ.K) (tCons (cE Γ e) tNil)) (peB1 (fun X h => by have := cr_min (X := X) h.calm; rw [h.K] at this; exact this) hg hm (by decide +kernel) (hst := hst)) fun bg H0 σ H F r Q hm QQ k => h bg H0 σ H F r _ hm _ fun a xs ds H' F' s hn hf ha hd q => by
    unfold intsW at q
    cases e1 : intsOf ds with
    | none => simp only [e1] at q; exact q.elim
    | some ns =>
      simp only [e1] at q
      rw [intsOf_eq e1] at hd
      rw [dqa_ints hd] at ha
      exact ⟨a, ns, rfl, .inl (.inl ha), q.1, fun m h1 h2 => k _ _ _ _ s (.int _) (q.2 m h1 h2)⟩
theorem me_max (hg : GlS Γ.sc "max") (hm : Γ.mg "max" = none) (h : MFr Γ e en mq) (hst : ∀ X : Cx, starEach [e] X.env = (false, eval e X.env) :: starEach [] X.env := by intro _; rfl) : ME Γ (.Call (.Name "max" p) [e] [] pos) en (bnd mq (intsW maxW)) :=
  me_of (t := tCB (rMax Γ.K) (tCons (cE Γ e) tNil)) (peB1 (fun X h => by have := cr_max (X := X) h.calm; rw [h.K] at this; exact this) hg hm (by decide +kernel) (hst := hst)) fun bg H0 σ H F r Q hm QQ k => h bg H0 σ H F r _ hm _ fun a xs ds H' F' s hn hf ha hd q => by
    unfold intsW at q
    cases e1 : intsOf ds with
    | none => simp only [e1] at q; exact q.elim
    | some ns =>
      simp only [e1] at q
      rw [intsOf_eq e1] at hd
      rw [dqa_ints hd] at ha
      exact ⟨a, ns, rfl, .inl (.inl ha), q.1, fun m h1 h2 => k _ _ _ _ s (.int _) (q.2 m h1 h2)⟩
/-- tuple(list) -/
theorem me_tuple (hg : GlS Γ.sc "tuple") (hm : Γ.mg "tuple" = none) (h : MQ Γ e en mq) (hst : ∀ X : Cx, starEach [e] X.env = (false, eval e X.env) :: starEach [] X.env := by intro _; rfl) : ME Γ (.Call (.Name "tuple" p) [e] [] pos) en (bnd mq fun ds => ret (.tuple ds)) :=
  me_of (t := tCB (fun xs H Q => ∃ p ys, xs = [.ref p] ∧ ((SqL Γ.K H p ys ∧ ∀ l, H l = none → Q (.ref l) (upd H l (.tup ys))) ∨ (SqT Γ.K H p ys ∧ Q (.ref p) H))) (tCons (cE Γ e) tNil)) (peT1 (fun X h => by have := call_tuple_of (X := X); rw [h.K] at this; exact this) hg hm (by decide +kernel) (hst := hst)) fun bg H0 σ H F r Q hm QQ k => h bg H0 σ H F r _ hm _ fun a xs ds H' F' s hr hd q => by
    rcases hr with g | g
    · exact ⟨a, xs, rfl, .inl ⟨g.sq, fun l hl => k _ _ _ _ (s.trans (step_new s.ex s.bag hl)) (.tup (.inl (.inl upd_same)) (dpa_mono (same_upd (free_of s.ex hl)) _ _ hd)) q⟩⟩
    · exact ⟨a, xs, rfl, .inr ⟨same_t s.ex g, k _ _ _ _ s (.tup g hd) q⟩⟩
/-- list(seq) -/
theorem mf_list (hg : GlS Γ.sc "list") (hm : Γ.mg "list" = none) (h : MQ Γ e en mq) (hst : ∀ X : Cx, starEach [e] X.env = (false, eval e X.env) :: starEach [] X.env := by intro _; rfl) : MFr Γ (.Call (.Name "list" p) [e] [] pos) en mq :=
  mf_of (t := tCB (fun xs H Q => ∃ p ys, xs = [.ref p] ∧ (SqL Γ.K H p ys ∨ SqT Γ.K H p ys) ∧ ∀ l, H l = none → Q (.ref l) (upd H l (.lst ys))) (tCons (cE Γ e) tNil)) (peT1 (fun X h => by have := call_list_of (X := X); rw [h.K] at this; exact this) hg hm (by decide +kernel) (hst := hst)) fun bg H0 σ H F r Q hm QQ k => h bg H0 σ H F r _ hm _ fun a xs ds H' F' s hr hd q =>
    ⟨a, xs, rfl, sq_now hr (.refl s.ex s.bag), fun l hl => k _ _ _ _ _ (s.trans (step_own s.ex s.bag hl)) (s.freshB r.bag hl) (free_of s.ex hl) upd_same hd q⟩
/-- sorted(list of ints) -/
def sortedW (ns : List Int) : Wp (List D) := fun Q => ∀ ms : List Int, ms.Perm ns → ms.Pairwise (· ≤ ·) → Q (ms.map .int)
theorem mf_sorted (hg : GlS Γ.sc "sorted") (hm : Γ.mg "sorted" = none) (h : MFr Γ e en mq) (hst : ∀ X : Cx, starEach [e] X.env = (false, eval e X.env) :: starEach [] X.env := by intro _; rfl) : MFr Γ (.Call (.Name "sorted" p) [e] [] pos) en (bnd mq (intsW sortedW)) :=
  mf_of (t := tCB (rSortedI Γ.K) (tCons (cE Γ e) tNil)) (peB1 (fun X h => by have := cr_sortedI (X := X); rw [h.K] at this; exact this) hg hm (by decide +kernel) (hst := hst)) fun bg H0 σ H F r Q hm QQ k => h bg H0 σ H F r _ hm _ fun a xs ds H' F' s hn hf ha hd q => by
    unfold intsW at q
    cases e1 : intsOf ds with
    | none => simp only [e1] at q; exact q.elim
    | some ns =>
      simp only [e1] at q
      rw [intsOf_eq e1] at hd
      rw [dqa_ints hd] at ha
      exact ⟨a, ns, rfl, .inl (.inl ha), fun ms p h1 h2 hp => k _ _ _ _ _ (s.trans (step_own s.ex s.bag hp)) (s.freshB r.bag hp) (free_of s.ex hp) upd_same (dqa_of_ints ms) (q ms h1 h2)⟩
/-- repr(data) -/
def reprW (d : D) : Wp D := grd (PyData.showable d = true ∧ PyData.depth d ≤ 64 ∧ (PyData.shown d).length ≤ sizeLine) (ret (.str (PyData.shown d)))
mutual
theorem noDict {K : PySem.W.Frag} {F : Hp} : ∀ (d : PyData) (v : V), Dq K F v d → PyData.hasDict d = false
  | .none, _, _ => by simp only [PyData.hasDict]
  | .bool _, _, _ => by simp only [PyData.hasDict]
  | .int _, _, _ => by simp only [PyData.hasDict]
  | .str _, _, _ => by simp only [PyData.hasDict]
  | .list ds, _, h => by
    cases h with
    | lst h1 h2 => simp only [PyData.hasDict]; exact noDictAll ds _ h2
  | .tuple ds, _, h => by
    cases h with
    | tup h1 h2 => simp only [PyData.hasDict]; exact noDictAll ds _ h2
  | .dict _, _, h => by cases h
theorem noDictAll {K : PySem.W.Frag} {F : Hp} : ∀ (ds : List PyData) (vs : List V), DqAll K F vs ds → PyData.hasDictAll ds = false
  | [], _, _ => by simp only [PyData.hasDictAll]
  | d :: ds, _, h => by
    cases h with
    | cons h1 h2 => simp only [PyData.hasDictAll, noDict d _ h1, noDictAll ds _ h2]; rfl
end
def rReprD (K : PySem.W.Frag) : List V → Hp → VK → Prop := fun vs H Q => ∃ (v : V) (d : D), vs = [v] ∧ Dp K H v d ∧ PyData.hasDict d = false ∧ PyData.showable d = true ∧ PyData.depth d ≤ 64 ∧ (PyData.shown d).length ≤ sizeLine ∧ Q (.str (PyData.shown d)) H
theorem cr_repr {X : Cx} (gd : X.A.guards = some []) (hu : X.A.units + 100 < cLine) : CallR X (.builtin "repr") (rReprD X.K) := by
  intro pins s σ H vs us Q I r h
  obtain ⟨v, d, rfl, hd, hn, hs, hdp, hz, q⟩ := h
  cases r with
  | cons rv rt =>
    rename_i u ut
    cases rt
    obtain ⟨as, rd⟩ := Dp.reads I d v u hd rv
    have hno : PyData.hasDict d = true → sysModules ∉ as := fun e => by rw [hn] at e; cases e
    have hr : ∀ (a : Addr), u = .ref a → wpAny (model X.prog X.w) X.A (call (.builtin "repr") [u]) (EP X pins σ Q) X.xe s := fun a e => by
      subst e
      exact repr_of_reads' rd hs hno gd (by omega) (fun _ _ e => e) (fun h' t tk hk => ⟨.str (PyData.shown d), H, I.kept hk, ⟨t, rfl⟩, q⟩) hz
    cases d with
    | none =>
      cases hd
      cases rv
      simp only [PyData.shown] at q
      exact PySem.P.repr_of_none ⟨.str _, H, I.tok _, ⟨_, rfl⟩, q⟩
    | bool b =>
      cases hd
      cases rv
      simp only [PyData.shown] at q
      exact PySem.P.repr_of_bool ⟨.str _, H, I.tok _, ⟨_, rfl⟩, q⟩
    | int i =>
      cases hd
      obtain ⟨t, rfl⟩ := rv
      simp only [PyData.shown] at q
      exact PySem.P.repr_of_int (by simpa [PyData.showable] using hs) ⟨.str _, H, I.tok _, ⟨_, rfl⟩, q⟩
    | str x =>
      cases hd
      obtain ⟨t, rfl⟩ := rv
      simp only [PyData.shown] at q hz
      exact PySem.P.repr_of_str ⟨.str _, H, I.tok _, ⟨_, rfl⟩, q⟩ hz
    | list ds =>
      cases hd
      cases rv
      exact hr _ rfl
    | tuple ds =>
      cases hd
      cases rv
      exact hr _ rfl
    | dict kv => cases hd
theorem me_repr (hg : GlS Γ.sc "repr") (hm : Γ.mg "repr" = none) (h : ME Γ e en m) (hst : ∀ X : Cx, starEach [e] X.env = (false, eval e X.env) :: starEach [] X.env := by intro _; rfl) : ME Γ (.Call (.Name "repr" p) [e] [] pos) en (bnd m reprW) :=
  me_of (t := tCB (rReprD Γ.K) (tCons (cE Γ e) tNil)) (peB1 (fun X h => by have := cr_repr (X := X) h.gd (units64 h); rw [h.K] at this; exact this) hg hm (by decide +kernel) (hst := hst)) fun bg H0 σ H F r Q hm QQ k => h bg H0 σ H F r _ hm _ fun v d H' F' s hd q =>
    ⟨v, d, rfl, dq_dp _ _ (dp_mono s.ex _ _ hd), noDict d v hd, q.1.1, q.1.2.1, q.1.2.2, k _ _ _ _ s (.str _) q.2⟩
end
end PW

set_option Elab.async false
set_option linter.all false
set_option maxRecDepth 100000
set_option maxHeartbeats 4000000
namespace PW
open PySem PySem.Spec PyProof.Rows L2
open AutoSeq1 (wpAny_loadPart')
/-! ### a tuple repeated no time, or once -/
theorem mul_none (l : Addr) (items : Array Value) (n : Nat) (dd : Option Addr) (sl : Array (Option Value)) (x : Int) (u : Tok) (z0 : (decide (x < -(2 ^ 63)) || decide (x ≥ 2 ^ 63)) = false) (z1 : (items.isEmpty || x == 1) = false) (z2 : (decide (x ≤ 0) || items.isEmpty) = true) :
    Meets (Builtin.«tuple.__mul__» ⟨[.ref l, .int x u], []⟩) (fun _ R s => s.heap.get? l = some { cls := .type "tuple", dict := dd, data := .seq items n, slots := sl } ∧ R (.ok (.ret (Value.ref s.heap.objs.size))) { s with heap := s.heap.push { cls := Value.type "tuple", data := Data.seq #[] }, toks := s.toks }) :=
  .of_wp fun prog w A R s h => by
    obtain ⟨hp, g, d, tk, os⟩ := s
    obtain ⟨hl, h⟩ := h
    have f1 := AutoSeq1.idx_int
    have y0 : ¬ (decide (x < -(2 ^ 63)) || decide (x ≥ 2 ^ 63)) = true := by rw [z0]; exact Bool.false_ne_true
    have y1 : ¬ (items.isEmpty || x == 1) = true := by rw [z1]; exact Bool.false_ne_true
    wp_walk using wpAny_loadPart' hl
    repeat (first
      | (refine wpAny_ite_false (decide_eq_false y0) ?_
         wp_walk using wpAny_loadPart' hl)
      | (refine wpAny_ite_false (decide_eq_false y1) ?_
         wp_walk using wpAny_loadPart' hl)
      | (refine wpAny_ite_true (decide_eq_true z2) ?_
         wp_walk using wpAny_loadPart' hl))
    exact ⟨_, rfl, h⟩
theorem mul_once (l : Addr) (items : Array Value) (n : Nat) (dd : Option Addr) (sl : Array (Option Value)) (x : Int) (u : Tok) (z0 : (decide (x < -(2 ^ 63)) || decide (x ≥ 2 ^ 63)) = false) (z1 : (items.isEmpty || x == 1) = true) :
    Meets (Builtin.«tuple.__mul__» ⟨[.ref l, .int x u], []⟩) (fun _ R s => s.heap.get? l = some { cls := .type "tuple", dict := dd, data := .seq items n, slots := sl } ∧ R (.ok (.ret (Value.ref l))) s) :=
  .of_wp fun prog w A R s h => by
    obtain ⟨hp, g, d, tk, os⟩ := s
    obtain ⟨hl, h⟩ := h
    have f1 := AutoSeq1.idx_int
    have y0 : ¬ (decide (x < -(2 ^ 63)) || decide (x ≥ 2 ^ 63)) = true := by rw [z0]; exact Bool.false_ne_true
    wp_walk using wpAny_loadPart' hl
    repeat (first
      | (refine wpAny_ite_false (decide_eq_false y0) ?_
         wp_walk using wpAny_loadPart' hl)
      | (refine wpAny_ite_true (decide_eq_true z1) ?_
         wp_walk using wpAny_loadPart' hl))
    exact ⟨_, rfl, h⟩
/-- t * k, any k up to 1000 -/
def rRepQ (K : PySem.W.Frag) : R2 := fun x y H Q => ∃ l k xs, x = .ref l ∧ y = .int k ∧ SqT K H l xs ∧ -(2 ^ 63) ≤ k ∧ k ≤ 1000 ∧ xs.length ≤ 1000 ∧ (k = 1 ∨ xs = [] → Q (.ref l) H) ∧ (k ≠ 1 → xs ≠ [] → ∀ p, H p = none → Q (.ref p) (upd H p (.tup (List.replicate k.toNat xs).flatten)))
theorem op_repQ {X : Cx} : OpR X (binaryOp .Mult) (rRepQ X.K) := by
  intro pins s σ H x y v u Q I rx ry h
  obtain ⟨l, k, xs, rfl, rfl, hT, h1, h2, hz, q1, q2⟩ := h
  by_cases c : 2 ≤ k ∧ xs ≠ []
  · exact op_repT pins s σ H _ _ v u Q I rx ry ⟨l, k, xs, rfl, rfl, hT, c.2, c.1, h2, hz, q2 (by omega) c.2⟩
  cases rx
  obtain ⟨t, rfl⟩ := ry
  obtain ⟨its, r, ⟨⟨cls, dd, data, sl⟩, ho, hc, n, hd⟩, hs⟩ := I.tuple hT
  simp only at hc hd
  subst hc hd
  have hemp : its.toArray.isEmpty = xs.isEmpty := by cases r <;> simp
  have z0 : (decide (k < -(2 ^ 63)) || decide (k ≥ 2 ^ 63)) = false := by
    rw [decide_eq_false (by omega), decide_eq_false (by omega)]; rfl
  by_cases c1 : k = 1 ∨ xs = []
  · have z1 : (its.toArray.isEmpty || k == 1) = true := by
      rw [hemp]
      rcases c1 with e | e
      · rw [e]; simp
      · rw [e]; simp
    refine wpAny_binaryOp_repeat_ref (T := "tuple") (U := "int") (by decide) ⟨_, ho, rfl⟩ (fun s' => typeIs_int s' k t) noFill_tuple_mul F.fills_int_mul F.slot_int_rmul repeat_tuple F.slot_int_index.lookup ?_
    refine call_meets F.slot_int_rmul (typeIs_int s k t) F.entry_int_rmul (F.args_int_rmul_2 _ _) (int_rmul_tuple k t l its.toArray n dd sl) ⟨ho, rfl, ⟨_, ho, rfl⟩, ?_⟩
    exact call_meets F.slot_tuple_mul ⟨_, ho, rfl⟩ F.entry_tuple_mul (F.args_tuple_mul_2 _ _) (mul_once l its.toArray n dd sl k t z0 z1) ⟨ho, .ref l, H, I, rfl, q1 c1⟩
  · have hk : k ≤ 0 := by
      by_cases e : xs = []
      · exact absurd (.inr e) c1
      · by_cases e1 : k = 1
        · exact absurd (.inl e1) c1
        · have : ¬ 2 ≤ k := fun z => c ⟨z, e⟩
          omega
    have hne : xs ≠ [] := fun e => c1 (.inr e)
    have hnb : xs.isEmpty = false := by cases xs with
      | nil => exact absurd rfl hne
      | cons _ _ => rfl
    have z1 : (its.toArray.isEmpty || k == 1) = false := by
      rw [hemp, hnb, Bool.false_or]
      exact beq_eq_false_iff_ne.mpr fun e => c1 (.inl e)
    have z2 : (decide (k ≤ 0) || its.toArray.isEmpty) = true := by rw [decide_eq_true hk]; rfl
    refine wpAny_binaryOp_repeat_ref (T := "tuple") (U := "int") (by decide) ⟨_, ho, rfl⟩ (fun s' => typeIs_int s' k t) noFill_tuple_mul F.fills_int_mul F.slot_int_rmul repeat_tuple F.slot_int_index.lookup ?_
    refine call_meets F.slot_int_rmul (typeIs_int s k t) F.entry_int_rmul (F.args_int_rmul_2 _ _) (int_rmul_tuple k t l its.toArray n dd sl) ⟨ho, rfl, ⟨_, ho, rfl⟩, ?_⟩
    refine call_meets F.slot_tuple_mul ⟨_, ho, rfl⟩ F.entry_tuple_mul (F.args_tuple_mul_2 _ _) (mul_none l its.toArray n dd sl k t z0 z1 z2) ⟨ho, ?_⟩
    have e0 : (List.replicate k.toNat xs).flatten = [] := by rw [show k.toNat = 0 by omega]; rfl
    have q3 := q2 (fun e => c1 (.inl e)) hne
    rw [e0] at q3
    exact ⟨.ref s.heap.objs.size, _, I.laid (t' := s.toks) (o := .tup []) (fun b ob q => Heap.get?_push_of_some _ q) (Nat.le_refl _) ⟨Nat.zero_le _, [], .nil, IsTup.new _ _⟩, rfl, q3 _ (I.hok.fresh (Nat.le_refl _))⟩

/-! ### + and * by kinds -/
def addD (x y : D) : Wp D := match x, y with
  | .int i, .int j => ret (.int (i + j))
  | .tuple a, .tuple b => grd (a.length + b.length ≤ sizeLine) (ret (.tuple (a ++ b)))
  | .list a, .list b => grd (a.length + b.length ≤ sizeLine) (ret (.list (a ++ b)))
  | .str a, .str b => grd (a.length + b.length ≤ sizeLine) (ret (.str (a ++ b)))
  | _, _ => nay
def rAddD (K : PySem.W.Frag) : R2 := fun x y H Q => rI0 (fun i j => .int (i + j)) x y H Q ∨ rCatA K x y H Q ∨ rCat x y H Q ∨ ∃ i j, x = .str i ∧ y = .str j ∧ i.length + j.length ≤ sizeLine ∧ Q (.str (i ++ j)) H
theorem op_addD {X : Cx} : OpR X (binaryOp .Add) (rAddD X.K) := op_add.or (op_catA.or (op_cat.or op_add_str))
theorem rv_addD {K : PySem.W.Frag} : RV K (rAddD K) addD := fun bg H F x y d e ex bk hx hy Q q QQ k => by
  cases hx <;> cases hy <;> first | exact q.elim | skip
  · exact .inl ⟨_, _, rfl, rfl, k _ _ _ _ (.refl ex bk) (.int _) q⟩
  · exact .inr (.inr (.inr ⟨_, _, rfl, rfl, q.1, k _ _ _ _ (.refl ex bk) (.str _) q.2⟩))
  · rename_i a xs ds h1 h2 b ys es h3 h4
    exact .inr (.inr (.inl ⟨_, _, _, _, rfl, rfl, ex _ _ h1, ex _ _ h3, by rw [dpa_len h2, dpa_len h4]; exact q.1, fun p hp => k _ _ _ _ (step_new ex bk hp) (.lst upd_same (dpa_mono (same_upd (free_of ex hp)) _ _ (dpa_append h2 h4))) q.2⟩))
  · rename_i a xs ds h1 h2 b ys es h3 h4
    refine .inr (.inl ⟨_, _, _, _, rfl, rfl, same_t ex h1, same_t ex h3, by rw [dpa_len h2, dpa_len h4]; exact q.1, fun e => ?_, fun _ e => ?_, fun _ _ p hp => k _ _ _ _ (step_new ex bk hp) (.tup (.inl (.inl upd_same)) (dpa_mono (same_upd (free_of ex hp)) _ _ (dpa_append h2 h4))) q.2⟩)
    · subst e
      cases h2
      exact k _ _ _ _ (.refl ex bk) (.tup h3 h4) q.2
    · subst e
      cases h4
      have q2 := q.2
      rw [List.append_nil] at q2
      exact k _ _ _ _ (.refl ex bk) (.tup h1 h2) q2
def mulD (x y : D) : Wp D := match x, y with
  | .int i, .int j => grd (CMulX i j) (ret (.int (i * j)))
  | .tuple a, .int k => grd (-(2 ^ 63) ≤ k ∧ k ≤ 1000 ∧ a.length ≤ 1000) (ret (.tuple (List.replicate k.toNat a).flatten))
  | _, _ => nay
def rMulD (K : PySem.W.Frag) : R2 := fun x y H Q => rI CMulX (fun i j => .int (i * j)) x y H Q ∨ rRepQ K x y H Q
theorem op_mulD {X : Cx} : OpR X (binaryOp .Mult) (rMulD X.K) := op_mulX.or op_repQ
theorem dqa_rep {K : PySem.W.Frag} {F : Hp} {xs : List V} {ds : List D} (h : DqAll K F xs ds) : ∀ n : Nat, DqAll K F (List.replicate n xs).flatten (List.replicate n ds).flatten
  | 0 => .nil
  | n + 1 => by
    rw [List.replicate_succ, List.replicate_succ, List.flatten_cons, List.flatten_cons]
    exact dpa_append h (dqa_rep h n)
theorem rv_mulD {K : PySem.W.Frag} : RV K (rMulD K) mulD := fun bg H F x y d e ex bk hx hy Q q QQ k => by
  cases hx <;> cases hy <;> first | exact q.elim | skip
  · exact .inl ⟨_, _, rfl, rfl, q.1, k _ _ _ _ (.refl ex bk) (.int _) q.2⟩
  · rename_i a xs ds h1 h2 i
    refine .inr ⟨_, _, xs, rfl, rfl, same_t ex h1, q.1.1, q.1.2.1, by rw [dpa_len h2]; exact q.1.2.2, fun e => ?_, fun _ _ p hp => k _ _ _ _ (step_new ex bk hp) (.tup (.inl (.inl upd_same)) (dpa_mono (same_upd (free_of ex hp)) _ _ (dqa_rep h2 _))) q.2⟩
    have e2 : (List.replicate i.toNat ds).flatten = ds := by
      rcases e with e | e
      · subst e
        show (List.replicate 1 ds).flatten = ds
        simp
      · subst e
        cases h2
        simp
    have q2 := q.2
    rw [e2] at q2
    exact k _ _ _ _ (.refl ex bk) (.tup h1 h2) q2
section
variable {Γ : G} {a b c : Expr} {pos : Pos} {en : En} {m n o : Wp D} {ma mb : Wp (List D)}
theorem me_addD (ha : ME Γ a en m) (hb : ME Γ b en n) : ME Γ (.BinOp a .Add b pos) en (bnd m fun x => bnd n fun y => addD x y) := me_op (fun X h => by have := op_addD (X := X); rw [h.K] at this; exact this) rv_addD ha hb
theorem me_mulD (ha : ME Γ a en m) (hb : ME Γ b en n) : ME Γ (.BinOp a .Mult b pos) en (bnd m fun x => bnd n fun y => mulD x y) := me_op (fun X h => by have := op_mulD (X := X); rw [h.K] at this; exact this) rv_mulD ha hb
/-- list + list, a new one -/
theorem mf_cat (ha : ME Γ a en m) (hb : MFr Γ b en mb) : MFr Γ (.BinOp a .Add b pos) en (bnd m fun x => bnd mb fun ys => match x with
    | .list xs => grd (xs.length + ys.length ≤ sizeLine) (ret (xs ++ ys))
    | _ => nay) :=
  mf_of (fun X h => pe_op op_cat (cE_pe h a) (cE_pe h b)) fun bg H0 σ H F r Q hm QQ k => ha bg H0 σ H F r _ hm _ fun v d H1 F1 s1 hd q1 => hb bg H0 σ H1 F1 (r.step s1) _ q1 _ fun p ys es H2 F2 s2 hn hf hp he q2 => by
    cases hd <;> first | exact q2.elim | skip
    rename_i h1 h2
    have f1 := s2.ff _ _ h1
    exact ⟨_, p, _, ys, rfl, rfl, s2.ex _ _ f1, hp, by rw [dpa_len h2, dpa_len he]; exact q2.1, fun l hl => k _ _ _ _ _ ((s1.trans s2).trans (step_own s2.ex s2.bag hl)) ((s1.trans s2).freshB r.bag hl) (free_of s2.ex hl) upd_same (dpa_append (dpa_mono s2.ff _ _ h2) he) q2.2⟩
/-- list * int, a new one -/
theorem mf_rep (ha : MFr Γ a en ma) (hb : ME Γ b en n) : MFr Γ (.BinOp a .Mult b pos) en (bnd ma fun xs => bnd n fun y => match y with
    | .int k => grd (-(2 ^ 63) ≤ k ∧ k < 2 ^ 63 ∧ xs.length * k.toNat ≤ sizeLine) (ret (List.replicate k.toNat xs).flatten)
    | _ => nay) :=
  mf_of (fun X h => pe_op op_rep (cE_pe h a) (cE_pe h b)) fun bg H0 σ H F r Q hm QQ k => ha bg H0 σ H F r _ hm _ fun p xs ds H1 F1 s1 hn hf hp hx q1 => hb bg H0 σ H1 F1 (r.step s1) _ q1 _ fun v d H2 F2 s2 hd q2 => by
    cases hd <;> first | exact q2.elim | skip
    exact ⟨p, _, xs, rfl, rfl, s2.kp _ _ (fresh_not r.bag hn) hp, q2.1.1, q2.1.2.1, by rw [dpa_len hx]; exact q2.1.2.2, fun l hl => k _ _ _ _ _ ((s1.trans s2).trans (step_own s2.ex s2.bag hl)) ((s1.trans s2).freshB r.bag hl) (free_of s2.ex hl) upd_same (dqa_rep (dpa_mono s2.ff _ _ hx) _) q2.2⟩

/-! ### slices -/
def OV (K : PySem.W.Frag) (to : TO) (en : En) (m : Wp (Option Int)) : Prop := ∀ (bg : Bg) (H0 : Hp) (σ : L2.St) (H F : Hp), Rel K bg H0 en σ H F → ∀ Q : Option Int → Prop, m Q → ∀ QQ : Option Int → Hp → Prop, (∀ o H' F', Step bg H F H' F' → Q o → QQ o H') → to σ H QQ
def cO (Γ : G) (e : Option Expr) : TO := fun σ H Q => ∃ t : TO, (∀ X, Γ.In X → PO X e t) ∧ t σ H Q
theorem cO_po {X : Cx} (h : Γ.In X) (e : Option Expr) : PO X e (cO Γ e) := ⟨fun pins s σ H Q I ⟨t, ht, q⟩ => (ht X h).run pins s σ H Q I q⟩
def MOp (Γ : G) (e : Option Expr) (en : En) (m : Wp (Option Int)) : Prop := OV Γ.K (cO Γ e) en m
theorem mo_none : MOp Γ none en (ret none) := fun bg H0 σ H F r Q hm QQ k => ⟨tNoPart, fun _ _ => po_none, k _ _ _ r.refl hm⟩
theorem mo_some (h : ME Γ a en m) : MOp Γ (some a) en (bnd m fun d => bnd (intW d) fun i => ret (some i)) := fun bg H0 σ H F r Q hm QQ k => ⟨tPart (cE Γ a), fun _ hX => po_some (cE_pe hX a), h bg H0 σ H F r _ hm _ fun v d H' F' s hd q => by
    cases hd <;> first | exact q.elim | skip
    exact ⟨_, rfl, k _ _ _ s q⟩⟩
def cutD (ds : List D) (lo hi : Option Int) : List D := (ds.drop (HT.sIx ds.length 0 lo)).take (HT.sIx ds.length ds.length hi - HT.sIx ds.length 0 lo)
theorem dqa_cut {K : PySem.W.Frag} {F : Hp} {xs : List V} {ds : List D} (h : DqAll K F xs ds) (lo hi : Option Int) : DqAll K F (cutV xs lo hi) (cutD ds lo hi) := by
  unfold cutV cutD
  rw [dpa_len h]
  exact dpa_take _ (dpa_drop _ h)
def sliceD (d : D) (lo hi : Option Int) : Wp D := match d with
  | .list ds => ret (.list (cutD ds lo hi))
  | .tuple ds => ret (.tuple (cutD ds lo hi))
  | _ => nay
theorem me_slice {p2 : Pos} {lo hi : Option Expr} {ml mh : Wp (Option Int)} (ha : ME Γ a en m) (hl : MOp Γ lo en ml) (hh : MOp Γ hi en mh) : ME Γ (.Subscript a (.Slice lo hi none p2) pos) en (bnd m fun d => bnd ml fun l => bnd mh fun h => sliceD d l h) :=
  me_of (t := tSl (fun x lo hi H Q => rSlL Γ.K x lo hi H Q ∨ rSlA Γ.K x lo hi H Q) (cE Γ a) (cO Γ lo) (cO Γ hi)) (fun X h => by have := pe_slice (p2 := p2) (pos := pos) (sl_list.or sl_tupA) (cE_pe h a) (cO_po h lo) (cO_po h hi); rw [h.K] at this; exact this) fun bg H0 σ H F r Q hm QQ k => ha bg H0 σ H F r _ hm _ fun v d H1 F1 s1 hd q1 =>
    hl bg H0 σ H1 F1 (r.step s1) _ q1 _ fun l H2 F2 s2 q2 => hh bg H0 σ H2 F2 ((r.step s1).step s2) _ q2 _ fun h H3 F3 s3 q3 => by
      have hd3 := dp_mono (s2.ff.trans s3.ff) _ _ hd
      have s13 := s1.trans (s2.trans s3)
      cases hd3 <;> first | exact q3.elim | skip
      · rename_i h1 h2
        exact Or.inl ⟨_, _, rfl, .inl (.inl (s3.ex _ _ h1)), fun p hp => k _ _ _ _ (s13.trans (step_new s3.ex s3.bag hp)) (.lst upd_same (dpa_mono (same_upd (free_of s3.ex hp)) _ _ (dqa_cut h2 l h))) q3⟩
      · rename_i b xs ds h1 h2
        refine Or.inr ⟨_, _, rfl, same_t s3.ex h1, fun e => ?_, fun _ p hp => k _ _ _ _ (s13.trans (step_new s3.ex s3.bag hp)) (.tup (.inl (.inl upd_same)) (dpa_mono (same_upd (free_of s3.ex hp)) _ _ (dqa_cut h2 l h))) q3⟩
        have e2 : cutD ds l h = ds := by
          unfold cutD
          rw [← dpa_len h2, e.1, e.2, List.drop_zero, Nat.sub_zero, dpa_len h2, List.take_length]
        have q4 : Q (.tuple (cutD ds l h)) := q3
        rw [e2] at q4
        exact k _ _ _ _ s13 (.tup h1 h2) q4
end
end PW

set_option Elab.async false
set_option linter.all false
set_option maxRecDepth 100000
set_option maxHeartbeats 4000000
namespace PW
open PySem PySem.Spec PyProof.Rows L2
/-! ### enumerate of a tuple -/
theorem enum_made {v : Value} {o : Obj} {Hh : Heap → Prop} (B : Begins v o Hh) :
    Meets (Builtin.«enumerate.__new__» ⟨[.type "enumerate", v], []⟩) (fun _ R s => Hh s.heap ∧ R (.ok (.ret (.ref (s.heap.push o).objs.size))) { s with heap := (s.heap.push o).push { cls := .type "enumerate", data := .fields #[.none, .bool false, .ref s.heap.objs.size, rawInt 0, .none, .none] } }) :=
  .of_wp fun prog w A R s h => by
    obtain ⟨hp, g, d, tk, os⟩ := s
    obtain ⟨h1, h⟩ := h
    have hsub := sub_enumerate
    have it1 : ∀ {A' : Around} {E : Value → Shared → Prop} {Q : Value → Shared → Prop}, Q (.ref hp.objs.size) ⟨hp.push o, g, d, tk, os⟩ → wpAny (model prog w) A' (pyIter v) Q E ⟨hp, g, d, tk, os⟩ := fun q => B.iter prog w _ _ ⟨hp, g, d, tk, os⟩ _ h1 q
    wp_walk using it1
    refine wpAny_stack_any fun st => ?_
    apply wpAny_pure
    split
    · rename_i c _ _ _ _ _
      cases (c == Value.type "enumerate") <;>
      · wp_walk using it1
        exact ⟨_, rfl, h⟩
    · wp_walk using it1
      exact ⟨_, rfl, h⟩
theorem enum_call {prog : Program} {w : World} {A : Around} {E : Value → Shared → Prop} {s : Shared} {v : Value} {o : Obj} {Hh : Heap → Prop} {Q : Value → Shared → Prop} (B : Begins v o Hh) (h1 : Hh s.heap)
    (h : ∀ h', IsEnum h' (s.heap.objs.size + 1) s.heap.objs.size 0 .none → h'.get? s.heap.objs.size = some o → h'.objs.size = s.heap.objs.size + 2 → (∀ b o, s.heap.get? b = some o → h'.get? b = some o) → Q (.ref (s.heap.objs.size + 1)) { s with heap := h' }) :
    wpAny (model prog w) A (call (.type "enumerate") [v]) Q E s := by
  apply callType_new F.called_enumerate (by decide) (F.typeCall_enumerate_1 _) (F.newCall_enumerate_1 _) (fun obj => F.args_object_init_2 obj _) F.entry_enumerate_new (enum_made B)
  have hz : (s.heap.push o).objs.size = s.heap.objs.size + 1 := Heap.size_push ..
  refine ⟨h1, ?_⟩
  show _ ∧ _
  rw [hz]
  have he : IsEnum ((s.heap.push o).push { cls := .type "enumerate", data := .fields #[.none, .bool false, .ref s.heap.objs.size, rawInt 0, .none, .none] }) (s.heap.objs.size + 1) s.heap.objs.size 0 .none := by
    have q := Heap.get?_push_size (s.heap.push o) (o := { cls := .type "enumerate", data := .fields #[.none, .bool false, .ref s.heap.objs.size, rawInt 0, .none, .none] }) rfl
    rw [hz] at q
    exact q
  exact ⟨⟨_, he, rfl⟩, h _ he (Heap.get?_push_of_some _ (Heap.get?_push_size _ B.free)) (by rw [Heap.size_push, hz]) fun b o x => Heap.get?_push_of_some _ (Heap.get?_push_of_some _ x)⟩
/-- the tuple at a, each item in a new pair -/
def IteT (K : PySem.W.Frag) (a : Addr) : It :=
  ⟨fun i H => ∃ (xs : List V) (x : V), SqT K H a xs ∧ xs[i]? = some x, fun i H v H' => ∃ T x, v = .ref T ∧ H T = none ∧ H' = upd H T (.tup [.int (i : Nat), x]) ∧ ∀ xs, SqT K H a xs → xs[i]? = some x, fun i H => ∃ xs : List V, SqT K H a xs ∧ xs.length ≤ i⟩
theorem turn_enumT {P : Program} {w : World} {K : PySem.W.Frag} {elts : List Expr} {kk : Nat} {tpos : Pos} (a e it : Addr) :
    Turn P w K (.Tuple elts kk tpos) (IteT K a) [e, it] e (fun i h => (∃ old, IsEnum h e it ((i : Nat) : Int) old) ∧ h.IsTupleIter it a i ∧ e ≠ it ∧ a ≠ it ∧ a ≠ e) where
  mem := List.mem_cons_self
  obj := fun i h st b hb => by
    obtain ⟨⟨old, he⟩, ⟨o, ho, hc, hd⟩, _⟩ := st
    rcases List.mem_cons.mp hb with z | z
    · subst z
      exact ⟨_, he, fun v q => nomatch q⟩
    · rw [List.mem_singleton.mp z]
      exact ⟨o, ho, fun v q => by rw [hd] at q; cases q⟩
  keep := fun i h h' st k => by
    obtain ⟨⟨old, he⟩, hi, hne⟩ := st
    exact ⟨⟨old, k e (by simp) _ he⟩, hi.at fun o q => k it (by simp) o q, hne⟩
  item := by
    intro X hP hw hK hc i pins s σ H E I hf st hg
    subst hP hw hK
    obtain ⟨⟨old, he⟩, hit, hne, na, nb⟩ := st
    obtain ⟨xs, x, hq, hx⟩ := hg
    obtain ⟨its, rv, p, hz⟩ := I.tuple hq
    obtain ⟨u, hu, ru⟩ := rv.get hx
    have hlt : i < its.toArray.size := by
      have q : its[i]? = some u := by simpa using hu
      rw [List.size_toArray]
      exact (List.getElem?_eq_some_iff.mp q).1
    have hel : e < s.heap.objs.size := Heap.lt_size he
    have hil : it < s.heap.objs.size := by
      obtain ⟨_, q, _⟩ := hit
      exact Heap.lt_size q
    have hT : s.heap.IsTuple a its.toArray := p
    refine wpAny_pyNext_enum_itemD (Draws.tuple (A := X.A.in1) (I.ok.hd hc) it a na its.toArray) he ⟨hit, hT⟩ hlt hne (by simp [hne, Ne.symm nb]) ?_
    intro x' h' tk hP' ho st' hN hsz hk
    have hx' : x' = u := by
      have q : its[i]? = some x' := by simpa using hP'
      have q2 : its[i]? = some u := by simpa using hu
      rw [q2] at q
      exact (Option.some.inj q).symm
    subst hx'
    refine ⟨_, rfl, ?_⟩
    apply wpAny_letOwnedTupleGo_enum (s := { s with heap := h', toks := tk + 1 }) ho
    intro h'' he' sb
    have hT2 : h''.get? s.heap.objs.size = some { cls := .type "tuple", data := .seq #[.int i tk, x'] } := (sb.2 _ (Nat.ne_of_gt hel)).trans hN
    have new : ObjOk X.prog X.w (upd H s.heap.objs.size (.tup [.int (i : Nat), x])) h'' s.heap.objs.size (.tup [.int (i : Nat), x]) :=
      ⟨by show 2 ≤ sizeLine; decide, [.int i tk, x'], .cons ⟨_, rfl⟩ (.cons ru .nil), ⟨_, hT2, rfl, _, rfl⟩⟩
    have I1 : Inv X pins σ (upd H s.heap.objs.size (.tup [.int (i : Nat), x])) { s with heap := h'', toks := tk + 1 } := by
      refine I.turnedNew (ch := [e, it]) ?_ hf (Nat.le_refl _) new
      intro b ob hb q
      have n1 : b ≠ e := fun z => hb (by simp [z])
      have n2 : b ≠ it := fun z => hb (by simp [z])
      exact (sb.2 b n1).trans (hk b ob n1 n2 q)
    refine ⟨.ref s.heap.objs.size, _, I1, rfl, ⟨_, x, rfl, I.hok.fresh (Nat.le_refl _), rfl, ?_⟩, ⟨⟨x', ?_⟩, ?_, hne, na, nb⟩, ?_⟩
    · intro ys hy
      rw [I.tuple_inj hy hq]
      exact hx
    · have e1 : ((i + 1 : Nat) : Int) = (i : Int) + 1 := by omega
      rw [e1]
      exact he'
    · exact st'.1.at fun o q => (sb.2 it (Ne.symm hne)).trans q
    · intro b hb
      have hb' : b < s.heap.objs.size := by
        rcases List.mem_cons.mp hb with z | z
        · rw [z]; exact hel
        · rw [List.mem_singleton.mp z]; exact hil
      rw [upd_ne (Nat.ne_of_lt hb')]
      exact (hf b hb).1
  done := by
    intro X hP hw hK hc i pins s σ H E I hf st hg
    subst hP hw hK
    obtain ⟨⟨old, he⟩, hit, hne, na, nb⟩ := st
    obtain ⟨xs, hq, hx⟩ := hg
    obtain ⟨its, rv, p, hz⟩ := I.tuple hq
    obtain ⟨f0, f1, f2, f3, f4, f5⟩ := hf it (by simp)
    have hl := rv.length
    have e1 : i = its.toArray.size ∨ its.toArray.size < i := by
      rw [List.size_toArray]
      omega
    have hlast : wpAny (model X.prog X.w) X.A (pyNext (.ref e)) (fun r s1 => r = none ∧ Inv X pins σ H s1) E s := by
      have hTy : s.TypeIs (.ref e) "enumerate" := ⟨_, he, rfl⟩
      unfold pyNext
      refine wpAny_bind (wpAny_attempt (wpAny_callSpecial?_slot (name := Str.ofString "__next__") hTy F.slot_enumerate_next (wpAny_call_entry F.slot_enumerate_next hTy F.entry_enumerate_next ?_ (F.args_enumerate_next_1 _))))
      show wpAny _ _ (field (.ref e) 2 >>= _) _ _ _
      refine wpAny_bind (wpAny_field he rfl (x := .ref it) rfl ?_)
      refine wpAny_bind (wpAny_nextOf_tuple_end (I.ok.hd hc) hit (show s.heap.IsTuple a its.toArray from p) (by simp; omega) ?_)
      rintro h' x eb ⟨o, ho, hc'⟩
      refine wpAny_bind (wpAny_isInstance (T := "StopIteration") (b := true) ⟨o, ho, hc'⟩ isSubtype_stop ?_)
      exact wpAny_pure ⟨rfl, I.turned (t' := s.toks) (fun b o hb q => eb b o hb q) f0 f1 f3 f4 f5⟩
    exact hlast
  self := fun A i s Q E st h => by
    obtain ⟨⟨_, he⟩, _⟩ := st
    exact wpAny_pyIter_enum he h
def iEnumQ (K : PySem.W.Frag) (te : TE) : TI := fun σ H R => te σ H fun v H1 => ∃ a, v = .ref a ∧ ((∃ xs, SqL K H1 a xs ∧ R (Ite K a) H1) ∨ ∃ xs, SqT K H1 a xs ∧ R (IteT K a) H1)
theorem pi_enumQ {X : Cx} {e : Expr} {te : TE} {p pos tpos : Pos} {elts : List Expr} {kk : Nat} (hg : Gl X "enumerate") (hm : X.mg "enumerate" = none) (he : PE X e te) (hs : starEach [e] X.env = (false, eval e X.env) :: starEach [] X.env) :
    PI X (.Tuple elts kk tpos) (.Call (.Name "enumerate" p) [e] [] pos) (iEnumQ X.K te) := by
  constructor
  intro pins s σ H R I h
  refine Call_ (ld_blt I hg hm boot_enumerate (PyProof.Rows.callWith_type1 (thn ((pa_cons he pa_nil hs).run pos pins s σ H (fun vs H1 => match vs with
    | [v] => ∃ a, v = .ref a ∧ ((∃ xs, SqL X.K H1 a xs ∧ R (Ite X.K a) H1) ∨ ∃ xs, SqT X.K H1 a xs ∧ R (IteT X.K a) H1)
    | _ => False) I h) ?_) hs rfl))
  rintro us s1 ⟨vs, H1, I1, r1, q1⟩
  cases r1 with
  | nil => exact q1.elim
  | cons r rr =>
    cases rr with
    | cons _ _ => exact q1.elim
    | nil =>
      obtain ⟨a, rfl, q1⟩ := q1
      cases r
      have fresh2 : ∀ b, b ∈ [s1.heap.objs.size + 1, s1.heap.objs.size] → FpOk X pins H1 b := by
        intro b hb
        have hle : s1.heap.objs.size ≤ b := by
          rcases List.mem_cons.mp hb with z | z
          · rw [z]; exact Nat.le_add_right _ _
          · rw [List.mem_singleton.mp z]; exact Nat.le_refl _
        exact I1.fpOk hle (I1.hok.fresh hle)
      rcases q1 with ⟨xs, hq, q⟩ | ⟨xs, hq, q⟩
      · obtain ⟨its, rv, p', hz⟩ := I1.list hq
        apply call_enumerate_list p'.isList
        intro h' he hit hsz hk
        apply wpAny_pyIter_enum he
        exact ⟨s1.heap.objs.size + 1, [s1.heap.objs.size + 1, s1.heap.objs.size], _, Ite X.K a, H1, rfl, I1.kept (t' := s1.toks) hk, turn_enum a (s1.heap.objs.size + 1) s1.heap.objs.size, ⟨⟨.none, he⟩, hit, Nat.succ_ne_self _⟩, fresh2, q⟩
      · obtain ⟨its, rv, p', hz⟩ := I1.tuple hq
        have hal : a < s1.heap.objs.size := p'.lt
        apply enum_call (begins_tuple a its.toArray) (show s1.heap.IsTuple a its.toArray from p')
        intro h' he hit hsz hk
        apply wpAny_pyIter_enum he
        exact ⟨s1.heap.objs.size + 1, [s1.heap.objs.size + 1, s1.heap.objs.size], _, IteT X.K a, H1, rfl, I1.kept (t' := s1.toks) hk, turn_enumT a (s1.heap.objs.size + 1) s1.heap.objs.size, ⟨⟨.none, he⟩, ⟨_, hit, rfl, rfl⟩, Nat.succ_ne_self _, Nat.ne_of_lt hal, Nat.ne_of_lt (Nat.lt_succ_of_lt hal)⟩, fresh2, q⟩
/-- the pairs of places and items -/
def enumD (ds : List D) : List D := (List.range ds.length).map fun i => .tuple [.int (i : Nat), ds.getD i .none]
theorem enumD_len (ds : List D) : (enumD ds).length = ds.length := by unfold enumD; rw [List.length_map, List.length_range]
theorem enumD_get {ds : List D} {i : Nat} {d : D} (h : ds[i]? = some d) : (enumD ds)[i]? = some (.tuple [.int (i : Nat), d]) := by
  have hi : i < ds.length := (List.getElem?_eq_some_iff.mp h).1
  unfold enumD
  rw [List.getElem?_map, List.getElem?_range hi, Option.map_some, List.getD_eq_getElem?_getD, h]
  rfl
/-- a new pair is handed out -/
theorem its_pair {K : PySem.W.Frag} {bg : Bg} {H F : Hp} {T : Addr} {vs : List V} {ds : List D} (e : Same F H) (b : BagOk bg F H) (hn : H T = none) (hd : DqAll K F vs ds) : ∃ F' , Step bg H F (upd H T (.tup vs)) F' ∧ Dq K F' (.ref T) (.tuple ds) :=
  ⟨_, step_new e b hn, .tup (.inl (.inl upd_same)) (dpa_mono (same_upd (free_of e hn)) _ _ hd)⟩
theorem mi_enum {Γ : G} {e : Expr} {en : En} {m' : Wp D} {p pos tpos : Pos} {elts : List Expr} {kk : Nat} (hg : GlS Γ.sc "enumerate") (hm : Γ.mg "enumerate" = none) (h : ME Γ e en m') (hs : ∀ X : Cx, starEach [e] X.env = (false, eval e X.env) :: starEach [] X.env := by intro _; rfl) :
    MI Γ (.Tuple elts kk tpos) (.Call (.Name "enumerate" p) [e] [] pos) en (bnd (bnd m' seqD) fun ds => ret (enumD ds)) :=
  mi_of (t := iEnumQ Γ.K (cE Γ e)) (fun X hX => by have := pi_enumQ (elts := elts) (kk := kk) (tpos := tpos) (p := p) (pos := pos) (gl_of hX hg) (by rw [hX.mg]; exact hm) (cE_pe hX e) (hs X); rw [hX.K] at this; exact this) fun bg H0 σ H F r Q hm QQ k => h bg H0 σ H F r _ hm _ fun v d H' F' s hd q => by
    cases hd with
    | lst h1 h2 =>
      rename_i a xs ds
      refine ⟨a, rfl, .inl ⟨xs, .inl (.inl (s.ex _ _ h1)), k _ _ _ _ s ⟨fun i H F hi s1 s2 => ?_, fun H F s1 s2 => ?_, fun i H F x H' hi s1 s2 b y => ?_⟩ q⟩⟩
      · rw [enumD_len] at hi
        have hi' : i < xs.length := by rw [dpa_len h2]; exact hi
        exact ⟨xs, xs[i], .inl (.inl (s2 _ _ (s1 _ _ h1))), List.getElem?_eq_getElem hi'⟩
      · exact ⟨xs, .inl (.inl (s2 _ _ (s1 _ _ h1))), by rw [enumD_len, dpa_len h2]; exact Nat.le_refl _⟩
      · obtain ⟨T, z, rfl, hn, rfl, hz⟩ := y
        obtain ⟨dz, e1, e2⟩ := dpa_get h2 (hz xs (.inl (.inl (s2 _ _ (s1 _ _ h1)))))
        obtain ⟨F', st, dq⟩ := its_pair (ds := [.int (i : Nat), dz]) s2 b hn (.cons (.int _) (.cons (dp_mono s1 _ _ e2) .nil))
        exact ⟨F', _, enumD_get e1, st, dq⟩
    | tup h1 h2 =>
      rename_i a xs ds
      refine ⟨a, rfl, .inr ⟨xs, same_t s.ex h1, k _ _ _ _ s ⟨fun i H F hi s1 s2 => ?_, fun H F s1 s2 => ?_, fun i H F x H' hi s1 s2 b y => ?_⟩ q⟩⟩
      · rw [enumD_len] at hi
        have hi' : i < xs.length := by rw [dpa_len h2]; exact hi
        exact ⟨xs, xs[i], same_t s2 (same_t s1 h1), List.getElem?_eq_getElem hi'⟩
      · exact ⟨xs, same_t s2 (same_t s1 h1), by rw [enumD_len, dpa_len h2]; exact Nat.le_refl _⟩
      · obtain ⟨T, z, rfl, hn, rfl, hz⟩ := y
        obtain ⟨dz, e1, e2⟩ := dpa_get h2 (hz xs (same_t s2 (same_t s1 h1)))
        obtain ⟨F', st, dq⟩ := its_pair (ds := [.int (i : Nat), dz]) s2 b hn (.cons (.int _) (.cons (dp_mono s1 _ _ e2) .nil))
        exact ⟨F', _, enumD_get e1, st, dq⟩
    | non => exact q.elim
    | bl => exact q.elim
    | int => exact q.elim
    | str => exact q.elim
/-- reversed(seq) -/
theorem mi_rev {Γ : G} {e tg : Expr} {en : En} {m : Wp D} {p pos : Pos} (hg : GlS Γ.sc "reversed") (hm : Γ.mg "reversed" = none) (h : ME Γ e en m) (hs : ∀ X : Cx, starEach [e] X.env = (false, eval e X.env) :: starEach [] X.env := by intro _; rfl) :
    MI Γ tg (.Call (.Name "reversed" p) [e] [] pos) en (bnd (bnd m seqD) fun ds => ret ds.reverse) :=
  mi_of (t := RT.iRevA Γ.K (cE Γ e)) (fun X hX => by have := RT.pi_revA (tg := tg) (p := p) (pos := pos) (gl_of hX hg) (by rw [hX.mg]; exact hm) (cE_pe hX e) (hs X); rw [hX.K] at this; exact this) fun bg H0 σ H F r Q hm QQ k => h bg H0 σ H F r _ hm _ fun v d H' F' s hd q => by
    have rev_get : ∀ {xs : List V} {ds : List D} {F : Hp} {i : Nat} {x : V}, DqAll Γ.K F xs ds → i < ds.length → xs[xs.length - 1 - i]? = some x → ∃ d, ds.reverse[i]? = some d ∧ Dq Γ.K F x d := fun {xs ds F i x} h1 h2 h3 => by
      obtain ⟨d, e1, e2⟩ := dpa_get h1 h3
      refine ⟨d, ?_, e2⟩
      rw [List.getElem?_reverse h2, ← dpa_len h1]
      exact e1
    cases hd with
    | lst h1 h2 =>
      rename_i a xs ds
      have hl := dpa_len h2
      refine ⟨a, xs, rfl, .inl ⟨.inl (.inl (s.ex _ _ h1)), k _ _ _ _ s ⟨fun i H F hi s1 s2 => ?_, fun H F s1 s2 => ?_, fun i H F x H' hi s1 s2 b y => ?_⟩ q⟩⟩
      · rw [List.length_reverse] at hi
        exact ⟨by omega, xs, _, .inl (.inl (s2 _ _ (s1 _ _ h1))), List.getElem?_eq_getElem (by omega)⟩
      · show xs.length ≤ _
        rw [List.length_reverse, hl]
        exact Nat.le_refl _
      · rw [List.length_reverse] at hi
        obtain ⟨rfl, y⟩ := y
        obtain ⟨dz, e1, e2⟩ := rev_get h2 hi (y xs (.inl (.inl (s2 _ _ (s1 _ _ h1)))))
        exact ⟨F, dz, e1, .refl s2 b, dp_mono s1 _ _ e2⟩
    | tup h1 h2 =>
      rename_i a xs ds
      have hl := dpa_len h2
      refine ⟨a, xs, rfl, .inr ⟨same_t s.ex h1, k _ _ _ _ s ⟨fun i H F hi s1 s2 => ?_, fun H F s1 s2 => ?_, fun i H F x H' hi s1 s2 b y => ?_⟩ q⟩⟩
      · rw [List.length_reverse] at hi
        exact ⟨by omega, xs, _, same_t s2 (same_t s1 h1), List.getElem?_eq_getElem (by omega)⟩
      · show xs.length ≤ _
        rw [List.length_reverse, hl]
        exact Nat.le_refl _
      · rw [List.length_reverse] at hi
        obtain ⟨rfl, y⟩ := y
        obtain ⟨dz, e1, e2⟩ := rev_get h2 hi (y xs (same_t s2 (same_t s1 h1)))
        exact ⟨F, dz, e1, .refl s2 b, dp_mono s1 _ _ e2⟩
    | non => exact q.elim
    | bl => exact q.elim
    | int => exact q.elim
    | str => exact q.elim
/-- n.bit_length() -/
theorem me_bits {Γ : G} {e : Expr} {en : En} {m : Wp D} {apos pos : Pos} (h : ME Γ e en m) (hb : ∀ X : Cx, attributeBase e "bit_length" X.env (eval e X.env) = eval e X.env := by intro _; rfl) (hline : (apos.endLine == pos.line) = true := by rfl) :
    ME Γ (.Call (.Attribute e "bit_length" apos) [] [] pos) en (bnd m fun d => bnd (intW d) fun i => ret (.int (Builtin.Int.intBits i : Nat))) :=
  me_of (fun X hX => pe_bits (cE_pe hX e) (hb X) hline) fun bg H0 σ H F r Q hm QQ k => h bg H0 σ H F r _ hm _ fun v d H' F' s hd q => by
    cases hd <;> first | exact q.elim | skip
    exact ⟨_, rfl, k _ _ _ _ s (.int _) q⟩
end PW

set_option Elab.async false
set_option linter.all false
set_option maxRecDepth 100000
set_option maxHeartbeats 4000000
namespace PW
open PySem PySem.Spec PyProof.Rows L2
/-! ### list(reversed(list)) -/
theorem lri_no_len : typeLookup (.type "list_reverseiterator") "__len__" = pure none := am_miss_of_fast (by decide +kernel)
theorem lri_hint : typeLookup (.type "list_reverseiterator") "__length_hint__" = pure (some (.builtin "list_reverseiterator.__length_hint__")) := by
  rw [typeLookup_type, builtinLookup_eq_fast]
  kernel_rfl
theorem lri_self : isSubtype (.type "list_reverseiterator") (.type "list_reverseiterator") = pure true := by
  rw [isSubtype_type]
  kernel_rfl
section
variable {prog : Program} {w : World} {A : Around} {E : Value → Shared → Prop} {s : Shared}
theorem hint_rev {it l : Addr} {i : Int} {Q : Bool → Shared → Prop} (hit : s.heap.IsRevIter it l i) (h : Q false s) : wpAny (model prog w) A (Builtin.List.listLengthHint (.ref it)) Q E s := by
  unfold Builtin.List.listLengthHint
  refine wpAny_bind (wpAny_specialOf hit.typeIs lri_no_len ?_)
  show wpAny _ _ (do
      let some f ← specialOf (Value.ref it) (Str.ofString "__length_hint__") | return true
      _) _ _ _
  refine wpAny_bind (wpAny_specialOf hit.typeIs lri_hint ?_)
  generalize hid : ("list_reverseiterator.__length_hint__" : String) = id0
  wp_delta
  rw [show splitId id0 = some ("list_reverseiterator", "__length_hint__") from by subst hid; decide +kernel]
  subst hid
  refine wpAny_bind (wpAny_isInstance (T := "list_reverseiterator") (b := true) hit.typeIs lri_self ?_)
  apply wpAny_ite_split (fun hab => absurd hab (by decide))
  intro _
  apply wpAny_ite_split _ (fun hab => absurd (by decide +kernel) hab)
  intro _
  apply wpAny_ite_split (fun hab => absurd hab (by decide +kernel))
  intro _
  exact wpAny_pure h
theorem extend_rev {R : Result → Shared → Prop} {it l : Addr} {items : Array Value} (hh : A.handled = none) (hit : s.heap.IsRevIter it l ((items.size : Int) - 1)) (hl : s.heap.IsList l items) (hne : l ≠ it) (hn : items.size ≤ sizeLine) (S : Addr) (res : Value) (c₀ : Nat)
    (hS : s.heap.get? S = some { cls := .type "list", data := .seq #[] c₀ }) (hSl : S ≠ l) (hSi : S ≠ it)
    (hR : ∀ h' tk acc' c', (∀ b o, b ≠ S → b ≠ it → s.heap.get? b = some o → h'.get? b = some o) → h'.get? S = some { cls := .type "list", dict := none, data := .seq acc' c', slots := #[] } → ItemsOf (fun i v => items[items.size - 1 - i]? = some v) acc' items.size → R (.ok (.ret res)) { s with heap := h', toks := tk }) :
    wpAny (model prog w) A.in1 (Builtin.List.listExtendWith (.ref S) (.ref it) res)
      (fun fin s' => match fin with | .done f => R (.ok f) s' | .again c' => c'.quiet = true ∧ codeAny (model prog w) A c' R s') (fun e s' => R (.error e) s') s := by
  have hSf : S ∉ [it, l] := by
    intro hm
    rcases List.mem_cons.mp hm with e | e
    · exact hSi e
    · exact hSl (List.mem_singleton.mp e)
  have W := (Walks.listRev (prog := prog) (w := w) (A := A.in1) hh it l hne items).toS
  unfold Builtin.List.listExtendWith
  refine wpAny_bind (wpAny_typeOf hit.typeIs ?_)
  have k1 : Builtin.List.listSameRef (.ref S) (.ref it) = false := by simp [Builtin.List.listSameRef, hSi]
  have k2 : (Value.type "list_reverseiterator" == Value.type "list") = false := by decide
  have k3 : (Value.type "list_reverseiterator" == Value.type "tuple") = false := by decide
  simp only [k1, k2, k3, Bool.or_false, Bool.false_eq_true, if_false]
  refine wpAny_bind (wpAny_pyIter_revIter hit ?_)
  refine wpAny_bind (wpAny_holding (hint_rev hit ?_))
  apply wpAny_ite_split (fun hab => absurd hab (by decide +kernel))
  intro _
  refine wpAny_pure ⟨plainId_quiet F.plain_extend_loop _, ?_⟩
  have hit0 : s.heap.IsRevIter it l ((items.size : Int) - 1 - ((0 : Nat) : Int)) := by
    rw [show (items.size : Int) - 1 - ((0 : Nat) : Int) = (items.size : Int) - 1 by omega]
    exact hit
  refine codeAny_extend_loopS W hn S hSf res items.size 0 _ #[] c₀ rfl (Nat.zero_le _) ⟨Nat.zero_le _, hit0, hl⟩ hS (ItemsOf.nil _) ?_
  intro s' acc' c' hm hS' hacc
  rw [Moved.eq_with hm]
  refine hR s'.heap s'.toks acc' c' (fun b o hb hb2 e => hm.heap b o (fun hmem => ?_) e) hS' hacc
  rcases List.mem_cons.mp hmem with e' | hmem
  · exact hb e'
  · exact hb2 (List.mem_singleton.mp hmem)
theorem call_list_rev {it l : Addr} {items : Array Value} {Q : Value → Shared → Prop} (hh : A.handled = none) (hit : s.heap.IsRevIter it l ((items.size : Int) - 1)) (hl : s.heap.IsList l items) (hne : l ≠ it) (hn : items.size ≤ sizeLine)
    (hQ : ∀ h' tk acc' c', (∀ b o, b ≠ it → s.heap.get? b = some o → h'.get? b = some o) → h'.get? s.heap.objs.size = some { cls := .type "list", dict := none, data := .seq acc' c', slots := #[] } → ItemsOf (fun i v => items[items.size - 1 - i]? = some v) acc' items.size → Q (.ref s.heap.objs.size) { s with heap := h', toks := tk }) :
    wpAny (model prog w) A (call (.type "list") [.ref it]) Q E s := by
  apply callType_codes (Q₁ := fun obj s₁ => obj = .ref s.heap.objs.size ∧ s₁ = { s with heap := s.heap.push { cls := .type "list", data := .seq #[] } }) F.called_list (F.typeCall_list_1 _) F.entry_list_init (code_list_new _ ⟨rfl, rfl⟩)
  rintro obj s₁ ⟨rfl, rfl⟩
  have hS : (s.heap.push { cls := .type "list", data := .seq #[] }).get? s.heap.objs.size = some { cls := .type "list", data := .seq #[] } := Heap.get?_push_size _ rfl
  have hil : it < s.heap.objs.size := by
    obtain ⟨o, ho, _⟩ := hit
    exact Heap.lt_size ho
  have hll : l < s.heap.objs.size := by
    obtain ⟨o, ho, _⟩ := hl
    exact Heap.lt_size ho
  refine ⟨⟨_, hS, rfl⟩, F.args_list_init_2 _ _, ?_⟩
  show wpAny _ _ (do let old ← Builtin.List.listItems (.ref s.heap.objs.size); Builtin.List.listUpdate (.ref s.heap.objs.size) (fun _ => #[]); letGo old.toList.reverse; Builtin.List.listExtendWith (.ref s.heap.objs.size) (.ref it) .none) _ _ _
  refine wpAny_bind ?_
  unfold Builtin.List.listItems
  refine wpAny_bind (wpAny_seqItems hS rfl (wpAny_pure ?_))
  show wpAny _ _ (updateSeq s.heap.objs.size (fun _ => #[]) >>= fun _ => letGo (#[] : Array Value).toList.reverse >>= fun _ => Builtin.List.listExtendWith (.ref s.heap.objs.size) (.ref it) .none) _ _ _
  refine wpAny_bind (wpAny_updateSeq hS rfl ?_)
  have hS₂ := Heap.get?_update_self (Obj.mapSeq (fun _ => (#[] : Array Value))) hS rfl
  have oth : ∀ b o, s.heap.get? b = some o → ((s.heap.push { cls := .type "list", data := .seq #[] }).update s.heap.objs.size (Obj.mapSeq (fun _ => (#[] : Array Value)))).get? b = some o := by
    intro b o e
    have nb : s.heap.objs.size ≠ b := Ne.symm (Nat.ne_of_lt (Heap.lt_size e))
    exact (Heap.get?_update_other _ _ nb).trans (Heap.get?_push_of_some _ e)
  refine wpAny_bind (wpAny_letGo ?_)
  obtain ⟨oi, hoi, hci, hdi⟩ := hit
  refine extend_rev (s := { s with heap := (s.heap.push { cls := .type "list", data := .seq #[] }).update s.heap.objs.size (Obj.mapSeq (fun _ => (#[] : Array Value))) }) (A := A.in1) (R := wants (fun r s₂ => r = .none ∧ Q (.ref s.heap.objs.size) s₂) E) hh ⟨oi, oth _ _ hoi, hci, hdi⟩ (hl.at fun o e => oth _ _ e) hne hn _ .none 0 hS₂ (Ne.symm (Nat.ne_of_lt hll)) (Ne.symm (Nat.ne_of_lt hil)) ?_
  intro h' tk acc' c' hk hS' hacc
  refine ⟨rfl, hQ h' tk acc' c' ?_ hS' hacc⟩
  intro b o hb e
  exact hk b o (Nat.ne_of_lt (Heap.lt_size e)) hb (oth b o e)
end
/-- list(reversed(e)), e a list -/
def tListRev (K : PySem.W.Frag) (te : TE) : TE := fun σ H Q => te σ H fun v H1 => ∃ (a : Addr) (xs : List V), v = .ref a ∧ SqL K H1 a xs ∧ ∀ q, H1 q = none → Q (.ref q) (upd H1 q (.lst xs.reverse))
theorem pe_listRev {X : Cx} {e : Expr} {te : TE} {p p2 pos pos2 : Pos} (hc : X.calm = true) (hg : Gl X "list") (hm : X.mg "list" = none) (hg2 : Gl X "reversed") (hm2 : X.mg "reversed" = none) (he : PE X e te)
    (hs : starEach [e] X.env = (false, eval e X.env) :: starEach [] X.env := by rfl) (hs2 : starEach [.Call (.Name "reversed" p2) [e] [] pos2] X.env = (false, eval (.Call (.Name "reversed" p2) [e] [] pos2) X.env) :: starEach [] X.env := by rfl) :
    PE X (.Call (.Name "list" p) [.Call (.Name "reversed" p2) [e] [] pos2] [] pos) (tListRev X.K te) := by
  constructor
  intro pins s σ H Q I h
  refine Call_ (ld_blt I hg hm boot_list (PyProof.Rows.callWith_type1 (args_cons (Call_ (ld_blt I hg2 hm2 PyProof.Rows.boot_reversed (PyProof.Rows.callWith_type1 (args_cons (thn (he.run pins s σ H _ I h) ?_) hs) hs rfl))) hs2) hs2 rfl))
  rintro u s1 ⟨v, H1, I1, r1, a, xs, ev, hq, q⟩
  apply args_nil
  subst ev
  obtain rfl : u = Value.ref a := r1
  obtain ⟨its, rv, p', hz⟩ := I1.list hq
  apply call_reversed_list p'.isList
  apply args_nil
  have k0 : ∀ b o, s1.heap.get? b = some o → (s1.heap.push (revObj a ((its.toArray.size : Int) - 1))).get? b = some o := fun b o e => Heap.get?_push_of_some _ e
  have I2 : Inv X pins σ H1 { s1 with heap := s1.heap.push (revObj a ((its.toArray.size : Int) - 1)) } := I1.kept (t' := s1.toks) k0
  obtain ⟨f0, f1, f2, f3, f4, f5⟩ := I1.fpOk (H' := H1) (b := s1.heap.objs.size) (Nat.le_refl _) (I1.hok.fresh (Nat.le_refl _))
  have hl := p'.isList
  have hne : a ≠ s1.heap.objs.size := by
    obtain ⟨ol, hol, _⟩ := id hl
    exact Nat.ne_of_lt (Heap.lt_size hol)
  have hn : its.toArray.size ≤ sizeLine := by rw [List.size_toArray, ← rv.length]; exact hz
  refine call_list_rev (s := { s1 with heap := s1.heap.push (revObj a ((its.toArray.size : Int) - 1)) }) (I1.ok.hd hc) ⟨_, Heap.get?_push_size _ rfl, rfl, rfl⟩ (hl.push _) hne hn ?_
  intro h' tk acc c' hk hS hi
  generalize hL : (s1.heap.push (revObj a ((its.toArray.size : Int) - 1))).objs.size = L at hS
  have hle : (s1.heap.push (revObj a ((its.toArray.size : Int) - 1))).objs.size ≤ L := Nat.le_of_eq hL
  have hfr : H1 L = none := I2.hok.fresh hle
  refine ⟨.ref L, upd H1 L (.lst xs.reverse), ?_, by rw [← hL]; rfl, q _ hfr⟩
  refine I2.turnedNew (t' := tk) (ch := [s1.heap.objs.size]) ?_ ?_ hle ⟨by rw [List.length_reverse]; exact hz, acc.toList, c', RT.vals_rev rv hi, ?_⟩
  · intro b o hb e
    exact hk b o (fun z => hb (by simp [z])) e
  · intro b hb
    rw [List.mem_singleton.mp hb]
    exact ⟨f0, f1, f2, f3, f4, f5⟩
  · rw [Array.toArray_toList]
    exact hS
end PW

set_option Elab.async false
set_option linter.all false
set_option maxRecDepth 100000
set_option maxHeartbeats 4000000
namespace PW
open PySem PySem.Spec PyProof.Rows L2
/-! ### the law's own call -/
section
variable {P : Program} {w : World} {K : PySem.W.Frag} {mg mb : Str → Option Value} {k : Nat} {fa a : Addr} {fd : FuncData} {x : Str} {sp : Sp} {sh : Shared} {vs : List Value} {ns : List Int} {H : Hp}
/-- no namespace is followed -/
def NoNs (h : Heap) (H : Hp) : Prop := ∀ b o, h.get? b = some o → (∃ es ep, o.data = .dict es ep) → H b = none
theorem hid_ns {b : Addr} {m : Str → Option Value} {h : Heap} (c : NoNs h H) (n : h.Ns b m) : (hidT h H).Ns b m := by
  obtain ⟨o, es, ep, e, d, r⟩ := n
  exact ⟨o, es, ep, hidT_get e (c b o e ⟨es, ep, d⟩), d, r⟩
theorem hid_in {h : Heap} (i : K.In h) (c : ∀ b, H b ≠ none → K.lookup b = none) : K.In (hidT h H) := by
  intro b o e
  refine hidT_get (i b o e) (Classical.byContradiction fun z => ?_)
  rw [c b z] at e
  exact nomatch e
/-- the call, where only frozen things are followed -/
theorem enter_at (kin : K.In sh.heap) (n1 : sh.heap.Ns mainGlobals mg) (n2 : sh.heap.Ns builtinsNs mb) (n3 : ∀ x : Str, x ≠ "__name__" → mb x = bootBuiltins x) (n4 : sh.heap.NoLimit) (g0 : sh.gens = #[]) (room : Room k callerA)
    (fn : ∀ base : Heap, K.In base → base.Ns mainGlobals mg → FnG P w K mg base k fa fd [x] sp) (bd : ∀ (s : Shared) (u : Value), BindsTo s fd ⟨[u], []⟩ [(x, u)])
    (only : Only H) (hok : HOk P w H sh.heap) (nn : NoNs sh.heap H) (nk : ∀ b, H b ≠ none → K.lookup b = none) (says : sp [.ref a] H (fun v _ => v = .bl true) E0) :
    codeAny (model P w) callerA (.call (.ref fa) ⟨[.ref a], []⟩) (fun r s' => r = .ok (.ret (.bool true)) ∧ OldK sh.heap s'.heap ∧ s'.os = sh.os ∧ AllBare s'.gens) sh := by
  have kin' := hid_in kin nk
  have env : Env0 P w K mg (hidT sh.heap H) callerA [] sh H :=
    ⟨rfl, ⟨kin', hid_ns nn n1, ⟨mb, hid_ns nn n2, n3⟩, by obtain ⟨mc, q1, q2⟩ := n4; exact ⟨mc, hid_ns nn q1, q2⟩⟩, fun b o e => of_hidT e, by rw [hidT_size]; exact Nat.le_refl _, trivial, fun b hb => absurd (show b ∈ ([] : List Addr) from hb) List.not_mem_nil, hok, .of_eq g0⟩
  have run := (fn _ kin' (hid_ns nn n1)).run callerA [] sh H ⟨[.ref a], []⟩ [.ref a] [.ref a] _ rfl room env (bd sh (.ref a)) (.cons rfl .nil) says
  refine codeAny_mono run fun r s' q => ?_
  match r, q with
  | .error _, q => exact False.elim q
  | .ok .next, q => exact False.elim q
  | .ok .brk, q => exact False.elim q
  | .ok .cont, q => exact False.elim q
  | .ok (.ret u), q =>
    obtain ⟨v, H', os, bare, un, hok', rv, qv⟩ := q
    have qv' : v = .bl true := qv
    cases qv'
    have ru : u = Value.bool true := rv
    refine ⟨by rw [ru], OldK.of_keep fun b o e => ?_, os, bare⟩
    rcases hb : H b with _ | t
    · exact un.keep b o e hb (fun z => absurd (show b ∈ ([] : List Addr) from z) List.not_mem_nil) (by simp)
    · rcases only b with z | ⟨ob, xs, z⟩
      · exact absurd (hb.symm.trans z) (by simp)
      · have before := (hok b _ z).1
        have after := (hok' b _ (un.frzs b ob _ z)).1
        rw [Option.some.inj (e.symm.trans before)]
        exact after
/-- the script alone is followed, if it isn't the module's own -/
def onlyAt (a : Addr) (vs : List Value) (ns : List Int) : Hp := fun b => if b = a then some (.frz { cls := .type "list", data := .seq vs.toArray } (.lst (ns.map V.int))) else none
theorem law_enter (kin : K.In sh.heap) (n1 : sh.heap.Ns mainGlobals mg) (n2 : sh.heap.Ns builtinsNs mb) (n3 : ∀ x : Str, x ≠ "__name__" → mb x = bootBuiltins x) (n4 : sh.heap.NoLimit) (g0 : sh.gens = #[]) (room : Room k callerA)
    (fn : ∀ base : Heap, K.In base → base.Ns mainGlobals mg → FnG P w K mg base k fa fd [x] sp) (bd : ∀ (s : Shared) (u : Value), BindsTo s fd ⟨[u], []⟩ [(x, u)])
    (at_ : sh.heap.get? a = some { cls := .type "list", data := .seq vs.toArray }) (int : IntsAre vs ns) (few : ns.length ≤ sizeLine)
    (says : ∀ H : Hp, Only H → SqL K H a (ns.map V.int) → sp [.ref a] H (fun v _ => v = .bl true) E0) :
    codeAny (model P w) callerA (.call (.ref fa) ⟨[.ref a], []⟩) (fun r s' => r = .ok (.ret (.bool true)) ∧ OldK sh.heap s'.heap ∧ s'.os = sh.os ∧ AllBare s'.gens) sh := by
  have vi := vals_ints int
  rcases lk : K.lookup a with _ | o
  · have self : onlyAt a vs ns a = some (.frz { cls := .type "list", data := .seq vs.toArray } (.lst (ns.map V.int))) := if_pos rfl
    have off : ∀ b, b ≠ a → onlyAt a vs ns b = none := fun b n => if_neg n
    have back : ∀ b, onlyAt a vs ns b ≠ none → b = a := fun b z => Classical.byContradiction fun n => z (off b n)
    have lone : Only (onlyAt a vs ns) := fun b => by
      rcases Classical.em (b = a) with rfl | n
      · exact .inr ⟨_, _, self⟩
      · exact .inl (off b n)
    refine enter_at kin n1 n2 n3 n4 g0 room fn bd lone (fun b t z => ?_) (fun b o e d => ?_) (fun b z => by rw [back b z]; exact lk) (says _ lone (.inl (.inr ⟨_, self⟩)))
    · have hb := back b (by rw [z]; simp)
      subst hb
      cases self.symm.trans z
      exact ⟨at_, by rw [List.length_map]; exact few, vs, _, vi, at_⟩
    · refine off b fun hb => ?_
      subst hb
      obtain ⟨es, ep, d⟩ := d
      cases at_.symm.trans e
      exact nomatch d
  · cases at_.symm.trans (kin a o lk)
    have lone : Only fun _ => none := fun _ => .inl rfl
    have size : vs.toArray.size ≤ sizeLine := by rw [List.size_toArray, int.length]; exact few
    exact enter_at kin n1 n2 n3 n4 g0 room fn bd lone (fun b t z => nomatch (show (none : Option HO) = some t from z)) (fun _ _ _ _ => rfl) (fun b z => absurd rfl z) (says _ lone (.inr ⟨_, vs.toArray, _, lk, rfl, rfl, rfl, size, by simpa using vi⟩))
end
/-- what the top's end asks for, of a promise without guards -/
theorem walkG {l : PySem.W.OpenLaw} {n k : Nat} {q : Program} {loose : List Str} {XP : (Str → Option Value) → Heap → Prop} {YP : World → Heap → Prop} {d : DefRec} {K : Params → PySem.W.Frag} {sp : PySem.W.Frag → Sp} {x : Str}
    (most : l.most = some n) (few : n ≤ sizeLine) (plain : d.params.defaults = []) (room : Room k callerA) (kin : ∀ (w : World) (h : Heap), YP w h → (K w.params).In h)
    (fn : ∀ (w : World) (mg : Str → Option Value) (fa : Addr) (h : Heap), (K w.params).In h → h.Ns mainGlobals mg → mg d.name = some (.ref fa) →
      ∃ fd : FuncData, (∀ (s : Shared) (u : Value), BindsTo s fd ⟨[u], []⟩ [(x, u)]) ∧ ∀ base : Heap, (K w.params).In base → base.Ns mainGlobals mg → FnG l.prog w (K w.params) mg base k fa fd [x] (sp (K w.params)))
    (says : ∀ (K : PySem.W.Frag) (H : Hp) (a : Addr) (ns : List Int), ns.length ≤ n → Only H → SqL K H a (ns.map V.int) → sp K [.ref a] H (fun v _ => v = .bl true) E0) :
    PySem.W.WalkO q loose XP YP l.row.toRowW d [] (fun f vs => PySem.call f vs) :=
  Att.attach_call most plain fun w _ s1 mg mb fa _ _ _ _ a vs ns G Y _ _ _ gm at_ int hl g0 => by
    obtain ⟨fd, bd, run⟩ := fn w mg fa _ (kin w _ Y) G.T.g gm
    exact law_enter (kin w _ Y) G.T.g G.T.b G.T.builtins G.T.nolimit g0 room run bd at_ int (Nat.le_trans hl few) fun H o s => says _ H a ns hl o s
end PW

set_option Elab.async false
set_option linter.all false
set_option maxRecDepth 100000
set_option maxHeartbeats 4000000
namespace PW
open PySem PySem.Spec PyProof.Rows L2
/-! ### short forms -/
abbrev op2 {α β γ : Type} (f : α → β → Wp γ) (m : Wp α) (n : Wp β) : Wp γ := bnd m fun x => bnd n fun y => f x y
abbrev notW (m : Wp D) : Wp D := bnd m fun d => bnd (boolD d) fun x => ret (.bool (!x))
abbrev andW (m n : Wp D) : Wp D := bnd m fun d => bnd (boolD d) fun x => ifW x n (ret (.bool false))
abbrev orW (m n : Wp D) : Wp D := bnd m fun d => bnd (boolD d) fun x => ifW x (ret (.bool true)) n
abbrev tnot (m : Wp Bool) : Wp Bool := bnd m fun x => ret (!x)
abbrev tand (m n : Wp Bool) : Wp Bool := bnd m fun x => ifW x n (ret false)
abbrev tor (m n : Wp Bool) : Wp Bool := bnd m fun x => ifW x (ret true) n
abbrev consW (m : Wp D) (n : Wp (List D)) : Wp (List D) := bnd m fun x => bnd n fun xs => ret (x :: xs)
abbrev tupW (n : Wp (List D)) : Wp D := bnd n fun ds => grd (ds.length ≤ sizeLine) (ret (.tuple ds))
abbrev lstW (n : Wp (List D)) : Wp (List D) := bnd n fun ds => grd (ds.length ≤ sizeLine) (ret ds)
abbrev partW (m : Wp D) : Wp (Option Int) := bnd m fun d => bnd (intW d) fun i => ret (some i)
abbrev sliW (m : Wp D) (l h : Wp (Option Int)) : Wp D := bnd m fun d => bnd l fun x => bnd h fun y => sliceD d x y
abbrev atW (m : Wp (List D)) (n : Wp D) : Wp D := bnd m fun ds => bnd n fun i => ixW ds i
abbrev bitsW (m : Wp D) : Wp D := bnd m fun d => bnd (intW d) fun i => ret (.int (Builtin.Int.intBits i : Nat))
abbrev lenW (m : Wp (List D)) : Wp D := bnd m fun ds => ret (.int ds.length)
abbrev absW (m : Wp D) : Wp D := bnd m fun d => bnd (intW d) fun i => ret (.int (if i < 0 then -i else i))
abbrev sumW (m : Wp (List D)) : Wp D := bnd m (intsW fun ns => ret (.int ns.sum))
abbrev allW (m : Wp (List D)) : Wp D := bnd m (boolsW fun bs => ret (.bool (bs.all id)))
abbrev anyW (m : Wp (List D)) : Wp D := bnd m (boolsW fun bs => ret (.bool (bs.any id)))
abbrev tuW (m : Wp (List D)) : Wp D := bnd m fun ds => ret (.tuple ds)
abbrev repW (m : Wp (List D)) (n : Wp D) : Wp (List D) := bnd m fun xs => bnd n fun y => match y with
  | .int k => grd (-(2 ^ 63) ≤ k ∧ k < 2 ^ 63 ∧ xs.length * k.toNat ≤ sizeLine) (ret (List.replicate k.toNat xs).flatten)
  | _ => nay
abbrev catW (m : Wp D) (n : Wp (List D)) : Wp (List D) := bnd m fun x => bnd n fun ys => match x with
  | .list xs => grd (xs.length + ys.length ≤ sizeLine) (ret (xs ++ ys))
  | _ => nay
abbrev comp0 {β : Type} (m : Wp (List D)) (u : D → Wp β) (f : β → Wp D) : Wp (List D) := bnd m fun ds => grd (ds.length ≤ sizeLine) (compM (fun d => bnd (u d) f) ds)
abbrev comp1 {β : Type} (m : Wp (List D)) (u : D → Wp β) (t : β → Wp Bool) (f : β → Wp D) : Wp (List D) := bnd m fun ds => grd (ds.length ≤ sizeLine) (compW (fun d => bnd (u d) fun a => bnd (t a) fun z => ifW z (bnd (f a) fun x => ret (some x)) (ret none)) ds)
abbrev enuW (m : Wp D) : Wp (List D) := bnd (bnd m seqD) fun ds => ret (enumD ds)
abbrev revW (m : Wp D) : Wp (List D) := bnd (bnd m seqD) fun ds => ret ds.reverse
abbrev op2R (m n : Wp D) : Wp (List D) := bnd m fun x => bnd n fun y => range2W x y
abbrev appW {β : Type} (m : Wp D) (ds : List D) (k : D → Wp β) : Wp β := bnd m fun d => grd (ds.length < sizeLine) (k d)
abbrev extW {β : Type} (m : Wp (List D)) (ds : List D) (k : List D → Wp β) : Wp β := bnd m fun es => grd (ds.length + es.length ≤ sizeLine) (k es)
abbrev retF {S T : Type} (m : Wp D) : Wp (Fl S T) := bnd m fun d => ret (.rt d)
def thenR {S' : Type} (k : S' → Wp D) : Fl S' Empty → Wp D
  | .nx s => k s
  | .rt d => ret d
  | .bk t => nomatch t
  | .ct t => nomatch t
/-! ### defs by name; free names -/
def Has (K : PySem.W.Frag) (mg : Str → Option Value) (x : Str) (st : Stmt) : Prop := ∃ (a : Addr) (fd : FuncData), mg x = some (.ref a) ∧ Fun K x x st a fd
theorem len0 {ds : List D} (h : ds.length = 0) : ds = [] := List.length_eq_zero_iff.mp h
theorem len1 {ds : List D} (h : ds.length = 1) : ∃ a, ds = [a] := match ds, h with
  | [a], _ => ⟨a, rfl⟩
theorem len2 {ds : List D} (h : ds.length = 2) : ∃ a b, ds = [a, b] := match ds, h with
  | [a, b], _ => ⟨a, b, rfl⟩
theorem len3 {ds : List D} (h : ds.length = 3) : ∃ a b c, ds = [a, b, c] := match ds, h with
  | [a, b, c], _ => ⟨a, b, c, rfl⟩
theorem len4 {ds : List D} (h : ds.length = 4) : ∃ a b c d, ds = [a, b, c, d] := match ds, h with
  | [a, b, c, d], _ => ⟨a, b, c, d, rfl⟩
theorem len5 {ds : List D} (h : ds.length = 5) : ∃ a b c d e, ds = [a, b, c, d, e] := match ds, h with
  | [a, b, c, d, e], _ => ⟨a, b, c, d, e, rfl⟩
theorem len6 {ds : List D} (h : ds.length = 6) : ∃ a b c d e f, ds = [a, b, c, d, e, f] := match ds, h with
  | [a, b, c, d, e, f], _ => ⟨a, b, c, d, e, f, rfl⟩
/-! ### what is never reached -/
theorem ms_nay {S T : Type} {Γ : G} {en : En} {enc : S → En} {ent : T → En} {ss : List Stmt} : MS Γ ss en nay enc ent := fun _ _ _ _ _ _ _ _ _ Q hm _ _ _ _ _ => False.elim hm
theorem mr_nay {Γ : G} {en : En} {ss : List Stmt} : MR Γ ss en nay := fun _ _ _ _ => ms_nay
/-- if c: .. (may return), then the rest, in a block that always returns -/
theorem mr_ifx {S' : Type} {Γ : G} {en : En} {rest : List Stmt} {pos : Pos} {c : Expr} {a b : List Stmt} {mc : Wp Bool} {ma mb : Wp (Fl S' Empty)} {k : S' → Wp D} (en1 : S' → En) (hc : MT Γ c en mc) (ha : MS Γ a en ma en1 (fun e : Empty => nomatch e)) (hb : MS Γ b en mb en1 (fun e : Empty => nomatch e)) (hr : ∀ s, MR Γ rest (en1 s) (k s)) :
    MR Γ (.If c a b pos :: rest) en (bnd mc fun x => bnd (ifW x ma mb) (thenR k)) := fun S T enc ent => by
  have up : ∀ {ss : List Stmt} {en : En} {m : Wp (Fl S' Empty)}, MS Γ ss en m en1 (fun e : Empty => nomatch e) → MS Γ ss en (bnd m fun f => match f with
      | .nx s => ret (.nx s)
      | .rt d => ret (.rt d)
      | .bk t => nomatch t
      | .ct t => nomatch t) en1 ent := fun h bg H0 F0 σ H F r s b Q hm Dn k1 k2 k3 k4 => h bg H0 F0 σ H F r s b _ hm Dn (fun s σ' H' F' r' st' q => k1 s σ' H' F' r' st' q) (fun v d H' F' st' hd q => k2 v d H' F' st' hd q) (fun t => nomatch t) (fun t => nomatch t)
  have := ms_if (pos := pos) en1 hc (up ha) (up hb) (fun s => hr s S T enc ent)
  refine cast (congrArg (fun z => MS Γ (.If c a b pos :: rest) en z enc ent) ?_) this
  funext Q
  refine congrArg mc (funext fun x => ?_)
  cases x
  · refine congrArg mb (funext fun f => ?_)
    cases f <;> first | rfl | (rename_i t; exact nomatch t)
  · refine congrArg ma (funext fun f => ?_)
    cases f <;> first | rfl | (rename_i t; exact nomatch t)
/-! ### x in s -/
def inQ (d : D) (ds : List D) : Wp D := grd (SeqAt.shaped d = true ∧ PyData.canLayAll0 ds = true) (ret (.bool (ds.any fun z => PyData.eqv z d)))
def ninQ (d : D) (ds : List D) : Wp D := grd (SeqAt.shaped d = true ∧ PyData.canLayAll0 ds = true) (ret (.bool (!ds.any fun z => PyData.eqv z d)))
def rInQ (K : PySem.W.Frag) (f : Bool → Bool) : R2 := fun x y H Q => ∃ d ds, Dp K H x d ∧ (Dp K H y (.list ds) ∨ Dp K H y (.tuple ds)) ∧ SeqAt.shaped d = true ∧ PyData.canLayAll0 ds = true ∧ Q (.bl (f (ds.any fun z => PyData.eqv z d))) H
theorem op_inQ {X : Cx} (hu : X.A.units + 65 < cLine) : OpR X (compareOp .In) (rInQ X.K id) := by
  rintro pins s σ H x y v u Q I rx ry ⟨d, ds, hd, he | he, sd, se, q⟩
  all_goals
    obtain ⟨as, r1⟩ := Dp.reads I d x v hd rx
    obtain ⟨bs, r2⟩ := Dp.reads I _ y u he ry
  · exact SeqAt.in_list_reads r2 r1 se (SeqAt.canLay_of_shaped sd) (room_in_shaped sd hu) ⟨.bl _, H, I, rfl, q⟩
  · exact SeqAt.in_tuple_reads r2 r1 se (SeqAt.canLay_of_shaped sd) (room_in_shaped sd hu) ⟨.bl _, H, I, rfl, q⟩
theorem op_ninQ {X : Cx} (hu : X.A.units + 65 < cLine) : OpR X (compareOp .NotIn) (rInQ X.K not) := by
  rintro pins s σ H x y v u Q I rx ry ⟨d, ds, hd, he | he, sd, se, q⟩
  all_goals
    obtain ⟨as, r1⟩ := Dp.reads I d x v hd rx
    obtain ⟨bs, r2⟩ := Dp.reads I _ y u he ry
  · exact SeqAt.notIn_list_reads r2 r1 se (SeqAt.canLay_of_shaped sd) (room_in_shaped sd hu) ⟨.bl _, H, I, rfl, q⟩
  · exact SeqAt.notIn_tuple_reads r2 r1 se (SeqAt.canLay_of_shaped sd) (room_in_shaped sd hu) ⟨.bl _, H, I, rfl, q⟩
theorem ev_inQ {K : PySem.W.Frag} {ta tb : TE} {en : En} {m : Wp D} {n : Wp (List D)} (g : Bool → Bool) (ha : EV K ta en m) (hb : QV K tb en n) : EV K (tOp (rInQ K g) ta tb) en (bnd m fun x => bnd n fun ys => grd (SeqAt.shaped x = true ∧ PyData.canLayAll0 ys = true) (ret (.bool (g (ys.any fun z => PyData.eqv z x))))) := fun bg H0 σ H F r Q hm QQ k =>
  ha bg H0 σ H F r _ hm _ fun v d H1 F1 s1 hd q1 => hb bg H0 σ H1 F1 (r.step s1) _ q1 _ fun a xs ds H2 F2 s2 hs hds q2 =>
    ⟨d, ds, dq_dp _ _ (dp_mono s2.ex _ _ (dp_mono s2.ff _ _ hd)), hs.elim (fun h => .inl (.lst h.sq (dqa_dpa _ _ (dpa_mono s2.ex _ _ hds)))) (fun h => .inr (.tup (same_t s2.ex h) (dqa_dpa _ _ (dpa_mono s2.ex _ _ hds)))), q2.1.1, q2.1.2, k _ _ _ _ (s1.trans s2) (.bl _) q2.2⟩
section
variable {Γ : G} {a b : Expr} {pos : Pos} {en : En} {m : Wp D} {n : Wp (List D)}
theorem in_inQ : ∀ X, Γ.In X → OpR X (compareOp .In) (rInQ Γ.K id) := fun X h => by have := op_inQ (X := X) (by have := units64 h; omega); rw [h.K] at this; exact this
theorem in_ninQ : ∀ X, Γ.In X → OpR X (compareOp .NotIn) (rInQ Γ.K not) := fun X h => by have := op_ninQ (X := X) (by have := units64 h; omega); rw [h.K] at this; exact this
theorem me_in (ha : ME Γ a en m) (hb : MQ Γ b en n) (hm : behindInMarks .In b = false := by with_unfolding_all rfl) : ME Γ (.Compare a [.In] [b] pos) en (op2 inQ m n) :=
  me_of (fun X h => pe_cmpR (in_inQ X h) (cE_pe h a) (cE_pe h b) hm) (ev_inQ id ha hb)
theorem me_nin (ha : ME Γ a en m) (hb : MQ Γ b en n) (hm : behindInMarks .NotIn b = false := by with_unfolding_all rfl) : ME Γ (.Compare a [.NotIn] [b] pos) en (op2 ninQ m n) :=
  me_of (fun X h => pe_cmpR (in_ninQ X h) (cE_pe h a) (cE_pe h b) hm) (ev_inQ not ha hb)
theorem mt_in (ha : ME Γ a en m) (hb : MQ Γ b en n) (hm : behindInMarks .In b = false := by with_unfolding_all rfl) : MT Γ (.Compare a [.In] [b] pos) en (bnd (op2 inQ m n) boolD) :=
  mt_of (fun X h => pt_cmpR (in_inQ X h) (cE_pe h a) (cE_pe h b) hm) fun bg H0 σ H F r Q hm QQ k => ev_inQ id ha hb bg H0 σ H F r _ hm _ fun v d H' F' s hd q => by
    cases hd <;> first | exact q.elim | skip
    exact ⟨_, rfl, k _ _ _ s q⟩
theorem mt_nin (ha : ME Γ a en m) (hb : MQ Γ b en n) (hm : behindInMarks .NotIn b = false := by with_unfolding_all rfl) : MT Γ (.Compare a [.NotIn] [b] pos) en (bnd (op2 ninQ m n) boolD) :=
  mt_of (fun X h => pt_cmpR (in_ninQ X h) (cE_pe h a) (cE_pe h b) hm) fun bg H0 σ H F r Q hm QQ k => ev_inQ not ha hb bg H0 σ H F r _ hm _ fun v d H' F' s hd q => by
    cases hd <;> first | exact q.elim | skip
    exact ⟨_, rfl, k _ _ _ s q⟩
end
end PW

set_option Elab.async false
set_option linter.all false
set_option maxRecDepth 100000
set_option maxHeartbeats 4000000
namespace PW
open PySem PySem.Spec PyProof.Rows L2
/-! ### the bag -/
def drawF : List D → Wp D
  | [.int b] => grd (0 < b ∧ b < 2 ^ 64) fun Q => ∀ d : Int, 0 ≤ d → d < b → Q (.int d)
  | _ => nay
theorem ints_lay : ∀ cs : List Int, PyData.canLayAll0 (cs.map .int) = true
  | [] => by simp [PyData.canLayAll0]
  | c :: cs => by simp [PyData.canLayAll0, PyData.canLay0, ints_lay cs]
theorem ints_depth : ∀ cs : List Int, PyData.depthAll (cs.map .int) ≤ 1
  | [] => by simp [PyData.depthAll]
  | c :: cs => by
    have := ints_depth cs
    simp [PyData.depthAll, PyData.depth]
    omega
theorem ints_shaped (cs : List Int) : SeqAt.shaped (.list (cs.map .int)) = true := by
  have := ints_depth cs
  simp [SeqAt.shaped, PyData.canLay0, PyData.depth, ints_lay cs]
  omega
structure BJ (H Hc : Hp) (p q : Addr) (cs : List Int) (c m : Int) : Prop where
  hp : Hc p = some (.lst [.ref q, .int c, .int m])
  hq : Hc q = some (.lst (cs.map V.int))
  nn : ∀ x ∈ cs, 0 ≤ x
  c0 : 0 ≤ c
  m0 : 0 ≤ m
  m1 : m < 2147483647
  few : cs.length ≤ 63
  kp : ∀ a o, a ≠ p → a ≠ q → H a = some o → Hc a = some o
theorem BJ.step {bg : Bg} {H F Hc : Hp} {p q : Addr} {cs : List Int} {c m : Int} (j : BJ H Hc p q cs c m) (e : Same F H) (b : BagOk bg F H) (hb : bg = some (p, q)) : Step bg H F Hc F := by
  obtain ⟨h1, h2, h3, _⟩ := b p q hb
  refine ⟨.refl F, fun a x y => absurd x y, fun a o n h => j.kp a o (n p q hb).1 (n p q hb).2 h, fun a o h => j.kp a o (ne_of_none h h2) (ne_of_none h h3) (e a o h), fun p' q' hb' => ?_⟩
  rw [hb] at hb'
  cases hb'
  exact ⟨h1, h2, h3, cs, c, m, j.hp, j.hq, j.nn, j.c0, j.m0, j.m1, j.few⟩
theorem BJ.new {H Hc : Hp} {p q l : Addr} {cs : List Int} {c m : Int} {o : HO} (j : BJ H Hc p q cs c m) (hl : Hc l = none) : BJ H (upd Hc l o) p q cs c m :=
  ⟨by rw [upd_ne (ne_of_none j.hp hl)]; exact j.hp, by rw [upd_ne (ne_of_none j.hq hl)]; exact j.hq, j.nn, j.c0, j.m0, j.m1, j.few, fun a o h1 h2 h => by
    have := j.kp a o h1 h2 h
    rw [upd_ne (ne_of_none this hl)]; exact this⟩
theorem BJ.setP {H Hc : Hp} {p q : Addr} {cs : List Int} {c m c' m' : Int} (j : BJ H Hc p q cs c m) (ne : p ≠ q) (h1 : 0 ≤ c') (h2 : 0 ≤ m') (h3 : m' < 2147483647) : BJ H (upd Hc p (.lst [.ref q, .int c', .int m'])) p q cs c' m' :=
  ⟨upd_same, by rw [upd_ne ne.symm]; exact j.hq, j.nn, h1, h2, h3, j.few, fun a o n1 n2 h => by rw [upd_ne n1]; exact j.kp a o n1 n2 h⟩
theorem BJ.setQ {H Hc : Hp} {p q : Addr} {cs cs' : List Int} {c m : Int} (j : BJ H Hc p q cs c m) (ne : p ≠ q) (h1 : ∀ x ∈ cs', 0 ≤ x) (h2 : cs'.length ≤ 63) : BJ H (upd Hc q (.lst (cs'.map V.int))) p q cs' c m :=
  ⟨by rw [upd_ne ne]; exact j.hp, upd_same, h1, j.c0, j.m0, j.m1, h2, fun a o n1 n2 h => by rw [upd_ne n2]; exact j.kp a o n1 n2 h⟩
def spMake (K : PySem.W.Frag) : Sp := fun vs H Q _ => ∃ (a : Addr) (ns : List Int), vs = [.ref a] ∧ SqL K H a (ns.map V.int) ∧ ns.length ≤ 63 ∧
  ∀ (p q : Addr) (H' : Hp) (cs : List Int) (c m : Int), p ≠ q → BJ (fun _ => none) H' p q cs c m → Q (.ref p) H'
/-! ### what the top has written -/
def Met (K : PySem.W.Frag) (x : Str) (st : Stmt) : Prop := ∃ (f : Addr) (fd : FuncData), PySem.W.nsIn K mainGlobals x = some (some (.ref f)) ∧ Fun K x x st f fd
theorem met_mk {K : PySem.W.Frag} {x : Str} {st : Stmt} {f : Addr} {od an : Option Addr} {sl : Array (Option Value)} {oc kV dc pm cd ct : Value} (a : PySem.W.nsIn K mainGlobals x = some (some (.ref f)))
    (l : K.lookup f = some ⟨oc, od, .func (PySem.W.fnOf x x (defArgs st) (defBody st) (defScope st) .none kV dc pm an cd ct), sl⟩) (c : PySem.W.codeIn K cd x = true) (k : PySem.W.keepIn K (.ref f) = true) : Met K x st :=
  ⟨f, _, a, fun_mk (st := st) l c k⟩
theorem has_of {K : PySem.W.Frag} {h : Heap} {mg : Str → Option Value} {x : Str} {st : Stmt} (X : K.In h) (G : h.Ns mainGlobals mg) (m : Met K x st) : Has K mg x st := by
  obtain ⟨f, fd, a, F⟩ := m
  exact ⟨f, fd, PySem.W.mg_of X G a, F⟩
/-! ### the law -/
def lawSp (K : PySem.W.Frag) (m : Wp D) : Sp := fun vs H Q _ => ∃ (a : Addr) (ns : List Int), vs = [.ref a] ∧ SqL K H a (ns.map V.int) ∧ ns.length ≤ 63 ∧ m (fun d => d = .bool true) ∧ ∀ H', Q (.bl true) H'
theorem law_fn {P : Program} {w : World} {K : PySem.W.Frag} {mg : Str → Option Value} {base : Heap} {st : Stmt} {a ao : Addr} {fd fdo : FuncData} {N : List Str} {k ko : Nat} {m : Wp D} {rest : List Stmt} {p1 p2 p3 p4 p5 : Pos}
    (F : Fun K "law" "law" st a fd) (S : FnScope ("script" :: "bag" :: N) ["script"] (defScope st)) (own : FnG P w K mg base ko ao fdo ["script"] (spMake K)) (go : mg "_law_own_bag" = some (.ref ao)) (kp : PySem.W.keepIn K (.ref ao) = true) (bo : Binds K fdo ["script"] [])
    (hk : ko ≤ k) (body : defBody st = .Assign [.Name "bag" p1] (.Call (.Name "_law_own_bag" p2) [.Name "script" p3] [] p4) p5 :: rest) (gs : GlS (defScope st) "_law_own_bag") (l1 : (defScope st).names.lookup ("script" : Str) = some .local) (l2 : (defScope st).names.lookup ("bag" : Str) = some .local)
    (run : MR ⟨P, w, K, mg, base, "script" :: "bag" :: N, defScope st, k, fun _ => true⟩ rest (none :: some .bag :: List.replicate N.length none) m) : FnG P w K mg base (k + 1) a fd ["script"] (lawSp K m) := by
  refine fnG_of F S (fun vs H Q E h => ?_) fun cdv A outer s H vs Q gd hr h => ?_
  · obtain ⟨_, _, rfl, _⟩ := h
    rfl
  · obtain ⟨a0, ns, rfl, hS, hlen, hm, fin⟩ := h
    let Γ : G := ⟨P, w, K, mg, base, "script" :: "bag" :: N, defScope st, k, fun _ => true⟩
    have inn : Γ.In (cxOf CX0 P w K mg base ("script" :: "bag" :: N) "law" (defScope st) a cdv A outer s H E0).nox := ⟨rfl, rfl, rfl, rfl, rfl, rfl, rfl, rfl, hr, rfl, rfl, gd⟩
    rw [body]
    refine ⟨_, pss_cons (ps_set (i := 1) S.nd rfl (.inl l2) (pe_callG own gd (hr.mono hk) (gl_of inn gs) go kp bo (pa_cons (pe_var (i := 0) rfl (.inl l1) (by decide) (by decide)) pa_nil) (by decide) rfl rfl)) (cS_ps inn rest), ?_⟩
    have es : L2.start ("script" :: "bag" :: N) [V.ref a0] = some (.ref a0) :: none :: List.replicate N.length none := start_eq (vs := [V.ref a0]) (m := N.length + 1) (by simp; omega)
    rw [es]
    refine ⟨.ref a0, rfl, a0, ns, rfl, hS, hlen, fun p q H' cs c mx ne J => ?_⟩
    have bk : BagOk (some (p, q)) (fun _ => none) H' := fun p' q' e => by
      cases e
      exact ⟨ne, rfl, rfl, cs, c, mx, J.hp, J.hq, J.nn, J.c0, J.m0, J.m1, J.few⟩
    have ex : Same (fun _ => none) H' := fun _ _ h => nomatch h
    have none_at : ∀ {n i : Nat} {x : SV}, (none :: some SV.bag :: List.replicate n (none : Option SV))[i]? = some (some x) → i = 1 ∧ x = .bag := fun {n i x} e => by
      match i, e with
      | 0, e => exact nomatch e
      | 1, e => cases e; exact ⟨rfl, rfl⟩
      | i + 2, e =>
        have e' : (List.replicate n (none : Option SV))[i]? = some (some x) := e
        rw [List.getElem?_replicate] at e'
        split at e' <;> cases e'
    have rel : Rel K (some (p, q)) H' (none :: some .bag :: List.replicate N.length none) (some (.ref a0) :: some (.ref p) :: List.replicate N.length none) H' (fun _ => none) :=
      ⟨ex, bk, fun _ => 0, by simp, fun i d e => (nomatch (none_at e).2), fun i d e => (nomatch (none_at e).2), fun i j d e h => (nomatch (none_at h).2), fun i e => by rw [(none_at e).1]; exact ⟨p, q, rfl, rfl⟩⟩
    exact run Empty Empty (fun e => nomatch e) (fun e => nomatch e) (some (p, q)) H' (fun _ => none) _ H' (fun _ => none) rel (.refl ex bk) bk (fun f => match f with | .rt d => d = .bool true | .nx e => nomatch e | .bk e => nomatch e | .ct e => nomatch e) hm _ (fun e => nomatch e)
      (fun v d H2 F2 _ hd qd => by
        have qd' : d = .bool true := qd
        subst qd'
        cases hd
        exact fin H2) (fun e => nomatch e) (fun e => nomatch e)
end PW

set_option Elab.async false
set_option linter.all false
set_option maxRecDepth 100000
set_option maxHeartbeats 4000000
namespace PW
open PySem PySem.Spec PyProof.Rows L2
/-! ### pure words, plainly -/
section
variable {α β γ : Type}
theorem bnd_ret {a : α} {k : α → Wp β} : bnd (PW.ret a) k = k a := Eq.trans rfl rfl
theorem bnd_bnd {m : Wp α} {k : α → Wp β} {l : β → Wp γ} : bnd (bnd m k) l = bnd m fun a => bnd (k a) l := Eq.trans rfl rfl
theorem bnd_grd {c : Prop} {m : Wp α} {k : α → Wp β} : bnd (grd c m) k = grd c (bnd m k) := Eq.trans rfl rfl
theorem grd_t {c : Prop} {m : Wp α} (h : c) : grd c m = m := funext fun Q => propext ⟨fun q => q.2, fun q => ⟨h, q⟩⟩
theorem ifW_t {m n : Wp α} : ifW true m n = m := Eq.trans rfl rfl
theorem ifW_f {m n : Wp α} : ifW false m n = n := Eq.trans rfl rfl
theorem bnd_ifW {b : Bool} {m n : Wp α} {k : α → Wp β} : bnd (ifW b m n) k = ifW b (bnd m k) (bnd n k) := by cases b <;> rfl
theorem ifW_same {b : Bool} {m : Wp α} : ifW b m m = m := by cases b <;> rfl
theorem forW_nil {S : Type} {b : S → D → Wp S} {s : S} : forW b [] s = PW.ret s := rfl
theorem forW_cons {S : Type} {b : S → D → Wp S} {s : S} {d : D} {ds : List D} : forW b (d :: ds) s = bnd (b s d) (forW b ds) := rfl
/-- a loop that goes as f goes -/
theorem forW_pure {S : Type} {b : S → D → Wp S} (f : S → D → S) : ∀ (ds : List D) (s : S), (∀ s, ∀ d ∈ ds, b s d = PW.ret (f s d)) → forW b ds s = PW.ret (ds.foldl f s)
  | [], s, _ => rfl
  | d :: ds, s, h => by
    rw [forW_cons, h s d List.mem_cons_self, bnd_ret, forW_pure f ds _ fun s e he => h s e (List.mem_cons_of_mem _ he)]
    rfl
/-- the same while an invariant stands -/
theorem forW_inv {S : Type} {b : S → D → Wp S} (f : S → D → S) (I : S → Prop) : ∀ (ds : List D) (s : S), I s → (∀ s, I s → ∀ d ∈ ds, b s d = PW.ret (f s d) ∧ I (f s d)) → forW b ds s = PW.ret (ds.foldl f s)
  | [], s, _, _ => rfl
  | d :: ds, s, i, h => by
    obtain ⟨e, i2⟩ := h s i d List.mem_cons_self
    rw [forW_cons, e, bnd_ret, forW_inv f I ds _ i2 fun s i e he => h s i e (List.mem_cons_of_mem _ he)]
    rfl
theorem compM_pure {f : D → Wp D} (g : D → D) : ∀ ds : List D, (∀ d ∈ ds, f d = PW.ret (g d)) → compM f ds = PW.ret (ds.map g)
  | [], _ => rfl
  | d :: ds, h => by
    show bnd (f d) _ = _
    rw [h d List.mem_cons_self, bnd_ret, compM_pure g ds fun e he => h e (List.mem_cons_of_mem _ he)]
    rfl
theorem compW_pure {f : D → Wp (Option D)} (t : D → Bool) (g : D → D) : ∀ ds : List D, (∀ d ∈ ds, f d = PW.ret (if t d then some (g d) else none)) → compW f ds = PW.ret ((ds.filter t).map g)
  | [], _ => rfl
  | d :: ds, h => by
    show bnd (f d) _ = _
    rw [h d List.mem_cons_self, bnd_ret, compW_pure t g ds fun e he => h e (List.mem_cons_of_mem _ he), List.filter_cons]
    cases t d <;> rfl
/-- a while loop, by its turns -/
theorem whileW_stop {S : Type} {c : S → Wp Bool} {b : S → Wp S} {n : Nat} {s : S} (h : c s = PW.ret false) : whileW c b (n + 1) s = PW.ret s := by
  show bnd (c s) _ = _
  rw [h]
  rfl
theorem whileW_go {S : Type} {c : S → Wp Bool} {b : S → Wp S} {n : Nat} {s s2 : S} (h : c s = PW.ret true) (e : b s = PW.ret s2) : whileW c b (n + 1) s = whileW c b n s2 := by
  show bnd (c s) _ = _
  rw [h, bnd_ret, ifW_t, e]
  rfl
theorem loopW_of {S : Type} {c : S → Wp Bool} {b : S → Wp S} {n : Nat} {s s2 : S} (h : whileW c b n s = PW.ret s2) {k : S → Wp β} {Q : β → Prop} (q : k s2 Q) : bnd (loopW c b s) k Q := ⟨n, by rw [h]; exact q⟩
end
/-! ### draws -/
theorem draw_bnd {β : Type} {n : Int} {k : D → Wp β} {Q : β → Prop} (h : 0 < n ∧ n < 2 ^ 64) (q : ∀ d : Int, 0 ≤ d → d < n → k (.int d) Q) : bnd (drawF [.int n]) k Q := ⟨h, q⟩
/-- one of some -/
theorem pick_bnd {β : Type} {ds : List D} {k : D → Wp β} {Q : β → Prop} (h0 : ds ≠ []) (h : ds.length < 2 ^ 64) (q : ∀ d ∈ ds, k d Q) : bnd (atW (bnd (PW.ret (.list ds)) seqD) (bnd (consW (lenW (bnd (PW.ret (.list ds)) seqD)) (PW.ret [])) drawF)) k Q := by
  have hl : 0 < ds.length := List.length_pos_iff.mpr h0
  refine ⟨⟨by omega, by omega⟩, fun d d0 d1 => ?_⟩
  have hd : d.toNat < ds.length := by omega
  have e : atI ds d = some ds[d.toNat] := by
    have := atI_nat (List.getElem?_eq_getElem hd)
    rwa [Int.toNat_of_nonneg d0] at this
  show bnd (ixW ds (.int d)) k Q
  unfold ixW
  dsimp only
  rw [e]
  exact q _ (List.getElem_mem hd)
/-! ### good strings -/
theorem okStr_app {a b : Str} (h : PyData.strOk a = true) (h2 : PyData.strOk b = true) : PyData.strOk (a ++ b) = true := by
  show Array.all (a.cps ++ b.cps) (· < 0x110000) = true
  rw [Array.all_append]
  exact Bool.and_eq_true_iff.mpr ⟨h, h2⟩
theorem okStr_of (s : String) : PyData.strOk (Str.ofString s) = true := by
  rw [Str.ofString_eq_toList]
  unfold PyData.strOk
  rw [List.all_toArray, List.all_map, List.all_eq_true]
  intro c _
  have := c.valid
  show decide (c.toNat < 0x110000) = true
  refine decide_eq_true ?_
  rcases this with h | h
  · have h' : c.toNat < 0xd800 := h
    omega
  · exact h.2
theorem okStr_join {sep : Str} (h : PyData.strOk sep = true) : ∀ ts : List Str, (∀ t ∈ ts, PyData.strOk t = true) → PyData.strOk (Str.join sep ts) = true
  | [], _ => by unfold Str.join; decide +kernel
  | [x], hx => hx x List.mem_cons_self
  | x :: y :: r, hx => okStr_app (okStr_app (hx x List.mem_cons_self) h) (okStr_join h (y :: r) fun t ht => hx t (List.mem_cons_of_mem _ ht))
theorem okStr_from : ∀ (ts : List Str) (k : Nat) (acc : Str), PyData.strOk acc = true → (∀ t ∈ ts, PyData.strOk t = true) → PyData.strOk (textFrom k acc ts) = true
  | [], _, _, h, _ => h
  | t :: ts, k, acc, h, ht => okStr_from ts (k + 1) _ (okStr_app (okStr_app h (okStr_of _)) (ht t List.mem_cons_self)) fun x hx => ht x (List.mem_cons_of_mem _ hx)
/-! ### fine data: small enough to be compared and shown -/
def bare : D → Bool
  | .none => true
  | .bool _ => true
  | .int _ => true
  | .str _ => false
  | .list ds => bareAll ds
  | .tuple ds => bareAll ds
  | .dict _ => false
where bareAll : List D → Bool
  | [] => true
  | d :: ds => bare d && bareAll ds
mutual
theorem okStr_shown : ∀ d : PyData, bare d = true → PyData.strOk (PyData.shown d) = true
  | .none, _ => by rw [PyData.shown]; exact okStr_of _
  | .bool b, _ => by rw [PyData.shown]; cases b <;> exact okStr_of _
  | .int i, _ => by rw [PyData.shown]; exact okStr_of _
  | .str _, h => by rw [bare] at h; cases h
  | .dict _, h => by rw [bare] at h; cases h
  | .list ds, h => by
    rw [bare] at h
    rw [PyData.shown]
    exact okStr_app (okStr_from _ _ _ (okStr_of _) (okStr_shownAll ds h)) (okStr_of _)
  | .tuple ds, h => by
    rw [bare] at h
    rw [PyData.shown]
    exact okStr_app (okStr_app (okStr_of _) (okStr_join (okStr_of _) _ (okStr_shownAll ds h))) (by split <;> exact okStr_of _)
theorem okStr_shownAll : ∀ ds : List PyData, bare.bareAll ds = true → ∀ t ∈ PyData.shownAll ds, PyData.strOk t = true
  | [], _, t, ht => by rw [PyData.shownAll] at ht; cases ht
  | d :: ds, h, t, ht => by
    rw [bare.bareAll, Bool.and_eq_true] at h
    rw [PyData.shownAll] at ht
    rcases List.mem_cons.mp ht with e | e
    · rw [e]; exact okStr_shown d h.1
    · exact okStr_shownAll ds h.2 t e
end
structure Fine (dep wt : Nat) (d : D) : Prop where
  lay : PyData.canLay0 d = true
  dp : PyData.depth d ≤ dep
  wt : PyData.weight d ≤ wt
  few : PyData.intsShort 13 d = true
  sh : PyData.showable d = true
  br : bare d = true
theorem fine_all {dep wt : Nat} : ∀ ds : List D, (∀ d ∈ ds, Fine dep wt d) → PyData.canLayAll0 ds = true ∧ PyData.depthAll ds ≤ dep ∧ PyData.weightAll ds ≤ ds.length * (wt + 1) ∧ PyData.intsShortAll 13 ds = true ∧ PyData.showableAll ds = true ∧ bare.bareAll ds = true
  | [], _ => by simp [PyData.canLayAll0, PyData.depthAll, PyData.weightAll, PyData.intsShortAll, PyData.showableAll, bare.bareAll]
  | d :: ds, h => by
    obtain ⟨h1, h2, h3, h4, h5, h6⟩ := fine_all ds fun e he => h e (List.mem_cons_of_mem _ he)
    obtain ⟨g1, g2, g3, g4, g5, g6⟩ := h d List.mem_cons_self
    refine ⟨by simp [PyData.canLayAll0, h1, g1], by rw [PyData.depthAll]; omega, ?_, by simp [PyData.intsShortAll, h4, g4], by simp [PyData.showableAll, h5, g5], by simp [bare.bareAll, h6, g6]⟩
    rw [PyData.weightAll, List.length_cons, Nat.succ_mul]
    omega
theorem Fine.lst {dep wt : Nat} {ds : List D} (h : ∀ d ∈ ds, Fine dep wt d) : Fine (dep + 1) (ds.length * (wt + 1)) (.list ds) := by
  obtain ⟨h1, h2, h3, h4, h5, h6⟩ := fine_all ds h
  exact ⟨by rw [PyData.canLay0]; exact h1, by rw [PyData.depth]; omega, by rw [PyData.weight]; exact h3, by rw [PyData.intsShort]; exact h4, by rw [PyData.showable]; exact h5, by rw [bare]; exact h6⟩
theorem Fine.tup {dep wt : Nat} {ds : List D} (h : ∀ d ∈ ds, Fine dep wt d) : Fine (dep + 1) (ds.length * (wt + 1)) (.tuple ds) := by
  obtain ⟨h1, h2, h3, h4, h5, h6⟩ := fine_all ds h
  exact ⟨by rw [PyData.canLay0]; exact h1, by rw [PyData.depth]; omega, by rw [PyData.weight]; exact h3, by rw [PyData.intsShort]; exact h4, by rw [PyData.showable]; exact h5, by rw [bare]; exact h6⟩
theorem Fine.bool (b : Bool) : Fine 0 0 (.bool b) := ⟨by rw [PyData.canLay0], by rw [PyData.depth]; exact Nat.le_refl _, by rw [PyData.weight]; exact Nat.le_refl _, by rw [PyData.intsShort], by rw [PyData.showable], by rw [bare]⟩
theorem Fine.none : Fine 0 0 .none := ⟨by rw [PyData.canLay0], by rw [PyData.depth]; exact Nat.le_refl _, by rw [PyData.weight]; exact Nat.le_refl _, by rw [PyData.intsShort], by rw [PyData.showable], by rw [bare]⟩
theorem ofString_len (s : String) : (Str.ofString s).length = s.length := by
  rw [Str.ofString_eq_toList]
  show (s.toList.map Char.toNat).toArray.size = _
  rw [List.size_toArray, List.length_map]
  exact String.length_toList
theorem Fine.int {i : Int} (h : i.natAbs < 10 ^ 12) : Fine 0 40 (.int i) := by
  have l : i.natAbs.log2 < 40 := by
    by_cases z : i.natAbs = 0
    · rw [z]; decide
    · exact (Nat.log2_lt z).mpr (Nat.lt_trans h (by decide))
  refine ⟨by rw [PyData.canLay0], by rw [PyData.depth]; exact Nat.le_refl _, ?_, ?_, ?_, by rw [bare]⟩
  · rw [PyData.weight]
    split <;> omega
  · rw [PyData.intsShort, PyData.shown]
    refine decide_eq_true ?_
    rw [ofString_len]
    exact int_text_length_le10 (k := 12) (by decide) h
  · rw [PyData.showable]
    exact decide_eq_true (by omega)
theorem Fine.mono {dep wt dep' wt' : Nat} {d : D} (h : Fine dep wt d) (h1 : dep ≤ dep') (h2 : wt ≤ wt') : Fine dep' wt' d := ⟨h.lay, Nat.le_trans h.dp h1, Nat.le_trans h.wt h2, h.few, h.sh, h.br⟩
theorem Fine.shaped {d : D} (h : Fine 64 (2 ^ 20) d) : SeqAt.shaped d = true := Bool.and_eq_true_iff.mpr ⟨h.lay, decide_eq_true h.dp⟩
theorem Fine.short {d : D} (h : Fine 64 (2 ^ 20) d) : (PyData.shown d).length ≤ sizeLine := Nat.le_trans (shown_le13 (Bool.and_eq_true_iff.mpr ⟨Bool.and_eq_true_iff.mpr ⟨h.lay, decide_eq_true h.dp⟩, decide_eq_true h.wt⟩) h.few) (by decide)
theorem eqD_self {d : D} (h : SeqAt.shaped d = true) : eqD d d = PW.ret (.bool true) := by
  unfold eqD
  rw [grd_t ⟨h, h⟩, SeqAt.eqv_refl d (SeqAt.canLay_of_shaped h)]
theorem reprW_fine {d : D} (h : Fine 64 (2 ^ 20) d) : reprW d = PW.ret (.str (PyData.shown d)) := by
  unfold reprW
  rw [grd_t ⟨h.sh, h.dp, h.short⟩]
theorem shaped_str {d : D} (h : Fine 64 (2 ^ 20) d) : SeqAt.shaped (.str (PyData.shown d)) = true := by
  unfold SeqAt.shaped
  rw [PyData.canLay0, PyData.depth, okStr_shown d h.br]
  rfl
/-- the same twice -/
theorem same_self {d : D} (h : Fine 64 (2 ^ 20) d) : andW (op2 eqD (PW.ret d) (PW.ret d)) (op2 eqD (bnd (PW.ret d) reprW) (bnd (PW.ret d) reprW)) = PW.ret (.bool true) := by
  show bnd (eqD d d) _ = _
  rw [eqD_self h.shaped]
  show bnd (reprW d) _ = _
  rw [reprW_fine h]
  show bnd (reprW d) _ = _
  rw [reprW_fine h]
  show eqD _ _ = _
  rw [eqD_self (shaped_str h)]
/-- rows of two that are the same -/
theorem agree_rows {f : List D → Wp D} (ds : List D) (hf : ∀ d ∈ ds, f [d, d] = PW.ret (.bool true)) (hl : ds.length ≤ sizeLine) :
    allW (comp0 (bnd (PW.ret (.list (ds.map fun d => .list [d, d]))) seqD) PW.ret (fun a => bnd (consW (atW (bnd (PW.ret a) seqD) (PW.ret (.int 0))) (consW (atW (bnd (PW.ret a) seqD) (PW.ret (.int 1))) (PW.ret []))) f)) = PW.ret (.bool true) := by
  show bnd (grd ((ds.map fun d => PyData.list [d, d]).length ≤ sizeLine) (compM (fun d => bnd (consW (atW (bnd (PW.ret d) seqD) (PW.ret (.int 0))) (consW (atW (bnd (PW.ret d) seqD) (PW.ret (.int 1))) (PW.ret []))) f) _)) (boolsW fun bs => PW.ret (PyData.bool (bs.all id))) = _
  rw [grd_t (by rw [List.length_map]; exact hl), compM_pure fun _ => .bool true]
  · show boolsW _ (List.map _ (ds.map _)) = _
    unfold boolsW
    have : ∀ es : List D, boolsOf (es.map fun _ => PyData.bool true) = some (es.map fun _ => true) := fun es => by
      induction es with
      | nil => rfl
      | cons e es ih => rw [List.map_cons, boolsOf, ih]; rfl
    rw [this]
    show PW.ret (PyData.bool _) = _
    rw [List.all_map]
    have : (ds.map fun d => PyData.list [d, d]).all ((id : Bool → Bool) ∘ fun _ => true) = true := List.all_eq_true.mpr fun _ _ => rfl
    rw [this]
  · intro d hd
    obtain ⟨e, he, rfl⟩ := List.mem_map.mp hd
    exact hf e he
end PW
namespace PW
open PySem PySem.Spec PyProof.Rows L2
/-! ### loops that may leave, with an invariant -/
theorem forF_all {S : Type} {b : S → D → Wp (Fl S S)} {Q : S ⊕ D → Prop} (I : S → Prop) (q : ∀ s, I s → Q (.inl s)) : ∀ (ds : List D), (∀ s d, d ∈ ds → I s → ∀ R : Fl S S → Prop, (∀ s2, I s2 → R (.nx s2)) → (∀ s2, I s2 → R (.ct s2)) → (∀ s2, I s2 → R (.bk s2)) → b s d R) → ∀ s, I s → forF b ds s Q
  | [], _, s, i => q s i
  | d :: ds, h, s, i => h s d List.mem_cons_self i _ (fun s2 i2 => forF_all I q ds (fun s e he => h s e (List.mem_cons_of_mem _ he)) s2 i2) (fun s2 i2 => forF_all I q ds (fun s e he => h s e (List.mem_cons_of_mem _ he)) s2 i2) fun s2 i2 => q s2 i2
theorem forF_R {S : Type} {b : S → D → Wp (Fl S S)} {k : S → Wp D} {Q : D → Prop} {ds : List D} {s : S} (I : S → Prop) (i : I s) (h : ∀ s d, d ∈ ds → I s → ∀ R : Fl S S → Prop, (∀ s2, I s2 → R (.nx s2)) → (∀ s2, I s2 → R (.ct s2)) → (∀ s2, I s2 → R (.bk s2)) → b s d R) (q : ∀ s, I s → k s Q) : bnd (forF b ds s) (endR k) Q :=
  forF_all I q ds h s i
theorem forF_F {S S2 T : Type} {b : S → D → Wp (Fl S S)} {k : S → Wp (Fl S2 T)} {Q : Fl S2 T → Prop} {ds : List D} {s : S} (I : S → Prop) (i : I s) (h : ∀ s d, d ∈ ds → I s → ∀ R : Fl S S → Prop, (∀ s2, I s2 → R (.nx s2)) → (∀ s2, I s2 → R (.ct s2)) → (∀ s2, I s2 → R (.bk s2)) → b s d R) (q : ∀ s, I s → k s Q) : bnd (forF b ds s) (endF k) Q :=
  forF_all (Q := fun x => endF k x Q) I q ds h s i
theorem grd_few {α : Type} {n : Nat} {m : Wp α} (h : n ≤ 1000) : grd (n ≤ sizeLine) m = m := grd_t (Nat.le_trans h (by decide))
theorem grd_few1 {α : Type} {n : Nat} {m : Wp α} (h : n ≤ 1000) : grd (n < sizeLine) m = m := grd_t (Nat.lt_of_le_of_lt h (by decide))
theorem perm_1 {a : D} : perm 0 1 [0] [] [a] = [a] := Eq.trans rfl rfl
theorem perm_10 {a b : D} : perm 0 2 [1, 0] [] [a, b] = [b, a] := Eq.trans rfl rfl
theorem perm_01 {a b : D} : perm 0 2 [0, 1] [] [a, b] = [a, b] := Eq.trans rfl rfl
theorem truthD_bool {b : Bool} : truthD (.bool b) = PW.ret b := Eq.trans rfl rfl
theorem boolD_bool {b : Bool} : boolD (.bool b) = PW.ret b := Eq.trans rfl rfl
theorem seqD_list {ds : List D} : seqD (.list ds) = PW.ret ds := Eq.trans rfl rfl
theorem seqD_tuple {ds : List D} : seqD (.tuple ds) = PW.ret ds := Eq.trans rfl rfl
theorem intW_int {i : Int} : intW (.int i) = PW.ret i := Eq.trans rfl rfl
theorem toInt_int {i : Int} : toInt (.int i) = PW.ret (.int i) := Eq.trans rfl rfl
end PW

set_option Elab.async false
set_option linter.all false
set_option maxRecDepth 100000
set_option maxHeartbeats 4000000
namespace PW
open PySem PySem.Spec PyProof.Rows L2
/-! ### whole numbers from 0 on, by bits -/
abbrev nI (n : Nat) : D := .int (n : Int)
theorem int2_t {C : Int → Int → Prop} {g : Int → Int → D} {i j : Int} (h : C i j) : int2 C g (.int i) (.int j) = PW.ret (g i j) := grd_t h
theorem or_xor_and : ∀ (a b : Nat), (a ||| b) = (a ^^^ b) + (a &&& b) := by
  intro a
  induction a using Nat.strongRecOn with
  | ind a ih =>
    intro b
    by_cases z : a = 0
    · rw [z, Nat.zero_or, Nat.zero_xor, Nat.zero_and]; rfl
    · have h := ih (a / 2) (by omega) (b / 2)
      have e1 : (a ||| b) / 2 = a / 2 ||| b / 2 := Nat.or_div_two
      have e2 : (a ^^^ b) / 2 = a / 2 ^^^ b / 2 := Nat.xor_div_two
      have e3 : (a &&& b) / 2 = a / 2 &&& b / 2 := Nat.and_div_two
      have m1 : (a ||| b) % 2 = a % 2 ||| b % 2 := Nat.or_mod_two_pow (n := 1)
      have m2 : (a ^^^ b) % 2 = a % 2 ^^^ b % 2 := Nat.xor_mod_two_pow (n := 1)
      have m3 : (a &&& b) % 2 = a % 2 &&& b % 2 := Nat.and_mod_two_pow (n := 1)
      rcases Nat.mod_two_eq_zero_or_one a with ha | ha <;> rcases Nat.mod_two_eq_zero_or_one b with hb | hb <;> rw [ha, hb] at m1 m2 m3
      all_goals
        simp only [show (0 ||| 0 : Nat) = 0 from rfl, show (0 ||| 1 : Nat) = 1 from rfl, show (1 ||| 0 : Nat) = 1 from rfl, show (1 ||| 1 : Nat) = 1 from rfl, show (0 ^^^ 0 : Nat) = 0 from rfl, show (0 ^^^ 1 : Nat) = 1 from rfl, show (1 ^^^ 0 : Nat) = 1 from rfl, show (1 ^^^ 1 : Nat) = 0 from rfl, show (0 &&& 0 : Nat) = 0 from rfl, show (0 &&& 1 : Nat) = 0 from rfl, show (1 &&& 0 : Nat) = 0 from rfl, show (1 &&& 1 : Nat) = 1 from rfl] at m1 m2 m3
        omega
theorem bitAnd_nat (a b : Nat) : Builtin.bitAnd (a : Int) (b : Int) = ((a &&& b : Nat) : Int) := rfl
theorem bitOr_nat (a b : Nat) : Builtin.bitOr (a : Int) (b : Int) = ((a ||| b : Nat) : Int) := by
  have n1 : ¬ 0 ≤ Builtin.bitNot (a : Int) := by unfold Builtin.bitNot; omega
  have n2 : ¬ 0 ≤ Builtin.bitNot (b : Int) := by unfold Builtin.bitNot; omega
  have i : ∀ x : Int, Builtin.bitNot (Builtin.bitNot x) = x := fun x => by unfold Builtin.bitNot; omega
  unfold Builtin.bitOr
  rw [bitAnd_nn n1 n2, i, i, i]
  rfl
theorem bitXor_nat (a b : Nat) : Builtin.bitXor (a : Int) (b : Int) = ((a ^^^ b : Nat) : Int) := by
  unfold Builtin.bitXor
  rw [bitOr_nat, bitAnd_nat, or_xor_and]
  omega
theorem xorI_nat (a b : Nat) : xorI (nI a) (nI b) = PW.ret (nI (a ^^^ b)) := by
  unfold xorI
  rw [int2_t trivial, bitXor_nat]
theorem andI_nat (a b : Nat) : andI (nI a) (nI b) = PW.ret (nI (a &&& b)) := by
  unfold andI
  rw [int2_t trivial, bitAnd_nat]
theorem orI_nat (a b : Nat) : orI (nI a) (nI b) = PW.ret (nI (a ||| b)) := by
  unfold orI
  rw [int2_t trivial, bitOr_nat]
def bl (m : Nat) : Nat := if m = 0 then 0 else m.log2 + 1
theorem bl_zero : bl 0 = 0 := rfl
theorem bl_pos {m : Nat} (h : m ≠ 0) : bl m = m.log2 + 1 := if_neg h
theorem lt_bl (m : Nat) : m < 2 ^ bl m := by
  by_cases h : m = 0
  · rw [h]; decide
  · rw [bl_pos h]
    exact Nat.lt_log2_self
theorem bl_le {m n : Nat} (h : m < 2 ^ n) : bl m ≤ n := by
  by_cases z : m = 0
  · rw [z]; exact Nat.zero_le _
  · rw [bl_pos z]
    exact (Nat.log2_lt z).mpr h
theorem bl_le_iff {m n : Nat} : bl m ≤ n ↔ m < 2 ^ n := ⟨fun h => Nat.lt_of_lt_of_le (lt_bl m) (Nat.pow_le_pow_right (by decide) h), bl_le⟩
theorem lt_bl_iff {m n : Nat} : n < bl m ↔ 2 ^ n ≤ m := by
  have := @bl_le_iff m n
  omega
theorem intBits_nat (m : Nat) : Builtin.Int.intBits (m : Int) = bl m := by
  unfold Builtin.Int.intBits bl
  by_cases h : m = 0
  · rw [h]; rfl
  · have : ((m : Int) == 0) = false := by
      rw [beq_eq_false_iff_ne]
      omega
    rw [this, if_neg h]
    rfl
theorem shlI_nat {a b : Nat} (h : bl a + b ≤ 2 ^ 27) : shlI (nI a) (nI b) = PW.ret (nI (a <<< b)) := by
  unfold shlI
  rw [int2_t ⟨by omega, by rw [intBits_nat]; omega⟩]
  congr 1
  show PyData.int _ = PyData.int _
  congr 1
  rw [Nat.shiftLeft_eq]
  push_cast
  rfl
theorem shrI_nat (a b : Nat) : shrI (nI a) (nI b) = PW.ret (nI (a >>> b)) := by
  unfold shrI
  rw [int2_t (by omega)]
  congr 1
  show PyData.int _ = PyData.int _
  congr 1
  rw [Nat.shiftRight_eq_div_pow]
  push_cast
  rfl
theorem shaped_int (i : Int) : SeqAt.shaped (.int i) = true := by
  unfold SeqAt.shaped
  rw [PyData.canLay0, PyData.depth]
  rfl
theorem shaped_bool (i : Bool) : SeqAt.shaped (.bool i) = true := by
  unfold SeqAt.shaped
  rw [PyData.canLay0, PyData.depth]
  rfl
theorem eqD_int (i j : Int) : eqD (.int i) (.int j) = PW.ret (.bool (decide (i = j))) := by
  unfold eqD
  rw [grd_t ⟨shaped_int i, shaped_int j⟩]
  congr 2
theorem neD_int (i j : Int) : neD (.int i) (.int j) = PW.ret (.bool (!decide (i = j))) := by
  unfold neD
  rw [grd_t ⟨shaped_int i, shaped_int j⟩]
  congr 3
theorem eqD_nat (i j : Nat) : eqD (nI i) (nI j) = PW.ret (.bool (decide (i = j))) := by
  rw [eqD_int]
  congr 2
  exact decide_eq_decide.mpr (by omega)
theorem neD_nat (i j : Nat) : neD (nI i) (nI j) = PW.ret (.bool (!decide (i = j))) := by
  rw [neD_int]
  congr 3
  exact decide_eq_decide.mpr (by omega)
theorem ltI_int (i j : Int) : ltI (.int i) (.int j) = PW.ret (.bool (decide (i < j))) := grd_t trivial
theorem leI_int (i j : Int) : leI (.int i) (.int j) = PW.ret (.bool (decide (i ≤ j))) := grd_t trivial
theorem gtI_int (i j : Int) : gtI (.int i) (.int j) = PW.ret (.bool (decide (i > j))) := grd_t trivial
theorem geI_int (i j : Int) : geI (.int i) (.int j) = PW.ret (.bool (decide (i ≥ j))) := grd_t trivial
theorem subI_int (i j : Int) : subI (.int i) (.int j) = PW.ret (.int (i - j)) := int2_t trivial
theorem addD_int (i j : Int) : addD (.int i) (.int j) = PW.ret (.int (i + j)) := rfl
theorem mulD_int {i j : Int} (h : CMulX i j) : mulD (.int i) (.int j) = PW.ret (.int (i * j)) := grd_t h
/-! ### the items of a mask -/
def bitAt (m i : Nat) : Nat := (m >>> i) % 2
def bitsL (m : Nat) : List D := (List.range (bl m)).map fun i => nI (bitAt m i)
def polyD (m : Nat) : D := .tuple (bitsL m)
theorem bitsL_len (m : Nat) : (bitsL m).length = bl m := by rw [bitsL, List.length_map, List.length_range]
theorem bitAt_le (m i : Nat) : bitAt m i < 2 := Nat.mod_lt _ (by decide)
theorem and_one (a : Nat) : a &&& 1 = a % 2 := Nat.and_one_is_mod a
theorem rng_nat (n : Nat) : rng 0 n = (List.range n).map nI := by
  unfold rng
  refine List.map_congr_left fun i _ => ?_
  show PyData.int _ = PyData.int _
  congr 1
  omega
theorem rangeW_nat {n : Nat} (h : n < 2 ^ 62) : rangeW (nI n) = PW.ret ((List.range n).map nI) := by
  show grd _ (PW.ret (rng 0 ((n : Int).toNat))) = _
  rw [grd_t ⟨by omega, by omega⟩, Int.toNat_natCast, rng_nat]
/-- [f(i) for i in range(n)] -/
theorem comp0_range {n : Nat} {f : D → Wp D} (g : Nat → D) (hn : n ≤ sizeLine) (h : ∀ i, i < n → f (nI i) = PW.ret (g i)) : comp0 (rangeW (nI n)) PW.ret f = PW.ret ((List.range n).map g) := by
  have h62 : sizeLine < 2 ^ 62 := by decide
  show bnd (rangeW (nI n)) _ = _
  rw [rangeW_nat (by omega), bnd_ret, grd_t (by rw [List.length_map, List.length_range]; exact hn)]
  rw [compM_pure fun d => match d with
    | .int i => g i.toNat
    | _ => .none]
  · rw [List.map_map]
    congr 1
  · intro d hd
    obtain ⟨i, hi, rfl⟩ := List.mem_map.mp hd
    show f (nI i) = PW.ret (g ((i : Int).toNat))
    rw [h i (List.mem_range.mp hi), Int.toNat_natCast]
theorem mask_poly_w {m : Nat} (h : bl m ≤ sizeLine) : tuW (comp0 (bnd (bitsW (PW.ret (nI m))) rangeW) PW.ret (fun a => op2 andI (op2 shrI (PW.ret (nI m)) (PW.ret a)) (PW.ret (.int 1)))) = PW.ret (polyD m) := by
  show bnd (bnd (rangeW (.int ((Builtin.Int.intBits (m : Int) : Nat) : Int))) _) _ = _
  rw [intBits_nat]
  show bnd (comp0 (rangeW (nI (bl m))) PW.ret _) _ = _
  rw [comp0_range (fun i => nI (bitAt m i)) h fun i _ => ?_]
  · rfl
  · show bnd (shrI (nI m) (nI i)) _ = _
    rw [shrI_nat, bnd_ret]
    show andI (nI (m >>> i)) (nI 1) = _
    rw [andI_nat, and_one]
    rfl
theorem shr_pos {m i : Nat} : 0 < m >>> i ↔ i < bl m := by
  rw [lt_bl_iff, Nat.shiftRight_eq_div_pow]
  exact Nat.div_pos_iff.trans ⟨fun h => h.2, fun h => ⟨Nat.two_pow_pos i, h⟩⟩
theorem filter_lt (n k : Nat) (h : n ≤ k) : (List.range k).filter (fun i => decide (i < n)) = List.range n := by
  obtain ⟨j, rfl⟩ : ∃ j, k = n + j := ⟨k - n, by omega⟩
  rw [List.range_add, List.filter_append]
  have e1 : (List.range n).filter (fun i => decide (i < n)) = List.range n := List.filter_eq_self.mpr fun i hi => decide_eq_true (List.mem_range.mp hi)
  have e2 : ((List.range j).map (n + ·)).filter (fun i => decide (i < n)) = [] := List.filter_eq_nil_iff.mpr fun i hi => by
    obtain ⟨t, _, rfl⟩ := List.mem_map.mp hi
    simp
  rw [e1, e2, List.append_nil]
/-- the items up to the highest 1, asked place by place -/
theorem law_poly_w {m k : Nat} (hk : k ≤ sizeLine) (h : bl m ≤ k) : tuW (comp1 (bnd (PW.ret (nI k)) rangeW) PW.ret (fun a => bnd (op2 gtI (op2 shrI (PW.ret (nI m)) (PW.ret a)) (PW.ret (.int 0))) boolD) (fun a => op2 andI (op2 shrI (PW.ret (nI m)) (PW.ret a)) (PW.ret (.int 1)))) = PW.ret (polyD m) := by
  have h62 : sizeLine < 2 ^ 62 := by decide
  show bnd (bnd (rangeW (nI k)) _) _ = _
  rw [rangeW_nat (by omega), bnd_ret, grd_t (by rw [List.length_map, List.length_range]; exact hk)]
  rw [compW_pure (fun d => match d with
    | .int i => decide (i.toNat < bl m)
    | _ => false) fun d => match d with
    | .int i => nI (bitAt m i.toNat)
    | _ => .none]
  · rw [List.filter_map, List.map_map, bnd_ret]
    congr 1
    show PyData.tuple _ = PyData.tuple _
    congr 1
    have e : (List.range k).filter ((fun d : D => match d with
      | .int i => decide (i.toNat < bl m)
      | _ => false) ∘ nI) = List.range (bl m) := by
      rw [← filter_lt (bl m) k h]
      refine List.filter_congr fun i _ => ?_
      show decide ((i : Int).toNat < bl m) = _
      rw [Int.toNat_natCast]
    rw [e]
    refine List.map_congr_left fun i _ => ?_
    show nI (bitAt m ((i : Int).toNat)) = _
    rw [Int.toNat_natCast]
  · intro d hd
    obtain ⟨i, _, rfl⟩ := List.mem_map.mp hd
    show bnd (bnd (bnd (shrI (nI m) (nI i)) _) boolD) _ = _
    rw [shrI_nat]
    show bnd (bnd (gtI (.int ((m >>> i : Nat) : Int)) (.int 0)) boolD) (fun z => ifW z (bnd (bnd (shrI (nI m) (nI i)) fun x => andI x (nI 1)) fun x => PW.ret (some x)) (PW.ret none)) = PW.ret (if decide ((i : Int).toNat < bl m) = true then some (nI (bitAt m (i : Int).toNat)) else none)
    rw [gtI_int, shrI_nat, bnd_ret, Int.toNat_natCast]
    show ifW (decide _) (bnd (andI (nI (m >>> i)) (nI 1)) fun x => PW.ret (some x)) _ = _
    rw [andI_nat, and_one]
    by_cases c : i < bl m
    · rw [decide_eq_true c, decide_eq_true (by have := shr_pos.mpr c; omega)]
      rfl
    · rw [decide_eq_false c, decide_eq_false (by have := mt shr_pos.mp c; omega)]
      rfl
theorem fine_poly {m : Nat} (h : bl m ≤ 1000) : Fine 1 41000 (polyD m) :=
  (Fine.tup (dep := 0) (wt := 40) fun d hd => by
    obtain ⟨i, _, rfl⟩ := List.mem_map.mp hd
    exact Fine.int (by have := bitAt_le m i; omega)).mono (Nat.le_refl _) (by rw [bitsL_len]; omega)
/-! ### the mask of items -/
def sumBits (m : Nat) : Nat → Nat
  | 0 => 0
  | n + 1 => sumBits m n + bitAt m n <<< n
theorem sumBits_eq (m n : Nat) : sumBits m n = m % 2 ^ n := by
  induction n with
  | zero => simp [sumBits, Nat.mod_one]
  | succ n ih =>
    rw [sumBits, ih, bitAt, Nat.shiftLeft_eq, Nat.shiftRight_eq_div_pow, Nat.pow_succ, Nat.mod_mul, Nat.mul_comm]
theorem sum_range (f : Nat → Nat) : ∀ n : Nat, (((List.range n).map fun i => ((f i : Nat) : Int)).sum) = (((List.range n).map f).sum : Nat)
  | 0 => rfl
  | n + 1 => by
    rw [List.range_succ, List.map_append, List.sum_append, sum_range f n, List.map_append, List.sum_append]
    simp
theorem sum_bits (m : Nat) : ∀ n : Nat, ((List.range n).map fun i => bitAt m i <<< i).sum = sumBits m n
  | 0 => rfl
  | n + 1 => by
    rw [List.range_succ, List.map_append, List.sum_append, sum_bits m n]
    simp [sumBits]
theorem poly_mask_w {m : Nat} (h : bl m ≤ 2 ^ 20) : sumW (comp0 (enuW (PW.ret (polyD m))) (fun d => bnd (tupN 2 d) (consD PW.ret (consD PW.ret nilD))) (fun (p : D × D × Unit) => op2 shlI (PW.ret p.2.1) (PW.ret p.1))) = PW.ret (nI m) := by
  have hs : (2 : Nat) ^ 20 ≤ sizeLine := by decide
  have he : enumD (bitsL m) = (List.range (bl m)).map fun i => .tuple [nI i, nI (bitAt m i)] := by
    unfold enumD
    rw [bitsL_len]
    refine List.map_congr_left fun i hi => ?_
    have : (bitsL m).getD i .none = nI (bitAt m i) := by
      unfold bitsL
      rw [List.getD_eq_getElem?_getD, List.getElem?_map, List.getElem?_range (List.mem_range.mp hi)]
      rfl
    rw [this]
  show bnd (grd ((enumD (bitsL m)).length ≤ sizeLine) (compM _ (enumD (bitsL m)))) _ = _
  rw [grd_t (by rw [enumD_len, bitsL_len]; omega), he, compM_pure fun d => match d with
    | .tuple [.int i, .int b] => nI (b.toNat <<< i.toNat)
    | _ => .none]
  · rw [bnd_ret, List.map_map]
    have : (List.map ((fun d : D => match d with
      | .tuple [.int i, .int b] => nI (b.toNat <<< i.toNat)
      | _ => PyData.none) ∘ fun i : Nat => PyData.tuple [nI i, nI (bitAt m i)]) (List.range (bl m))) = ((List.range (bl m)).map fun i => ((bitAt m i <<< i : Nat) : Int)).map PyData.int := by
      rw [List.map_map]
      refine List.map_congr_left fun i _ => ?_
      show nI (((bitAt m i : Nat) : Int).toNat <<< ((i : Nat) : Int).toNat) = _
      rw [Int.toNat_natCast, Int.toNat_natCast]
      rfl
    rw [this]
    have hm : ∀ ns : List Int, intsOf (ns.map PyData.int) = some ns := fun ns => by
      induction ns with
      | nil => rfl
      | cons n ns ih => rw [List.map_cons, intsOf, ih]; rfl
    unfold intsW
    rw [hm]
    show PW.ret (PyData.int _) = _
    rw [sum_range, sum_bits, sumBits_eq, Nat.mod_eq_of_lt (lt_bl m)]
  · intro d hd
    obtain ⟨i, hi, rfl⟩ := List.mem_map.mp hd
    have hi := List.mem_range.mp hi
    have hb : bl (bitAt m i) ≤ 1 := bl_le (bitAt_le m i)
    show bnd (bnd (tupN 2 (.tuple [nI i, nI (bitAt m i)])) (consD PW.ret (consD PW.ret nilD))) _ = PW.ret (nI (((bitAt m i : Nat) : Int).toNat <<< ((i : Nat) : Int).toNat))
    show bnd (bnd (grd (2 = 2) (PW.ret [nI i, nI (bitAt m i)])) (consD PW.ret (consD PW.ret nilD))) _ = _
    rw [grd_t rfl]
    show shlI (nI (bitAt m i)) (nI i) = _
    rw [shlI_nat (by omega), Int.toNat_natCast, Int.toNat_natCast]
end PW

set_option Elab.async false
set_option linter.all false
set_option maxRecDepth 100000
set_option maxHeartbeats 4000000
namespace PW
open PySem PySem.Spec PyProof.Rows L2
/-! ### loops that are known turn by turn -/
inductive Goes {S : Type} (c : S → Wp Bool) (b : S → Wp S) : S → S → Prop
  | stop {s : S} : c s = PW.ret false → Goes c b s s
  | go {s s1 s2 : S} : c s = PW.ret true → b s = PW.ret s1 → Goes c b s1 s2 → Goes c b s s2
theorem Goes.fwd {S : Type} {c : S → Wp Bool} {b : S → Wp S} {s s2 : S} (g : Goes c b s s2) : ∃ n, whileW c b n s = PW.ret s2 := by
  induction g with
  | stop h => exact ⟨1, whileW_stop h⟩
  | go h e _ ih =>
    obtain ⟨n, ih⟩ := ih
    exact ⟨n + 1, by rw [whileW_go h e, ih]⟩
theorem Goes.back {S : Type} {c : S → Wp Bool} {b : S → Wp S} {s s2 : S} (g : Goes c b s s2) : ∀ (n : Nat) (Q : S → Prop), whileW c b n s Q → Q s2 := by
  induction g with
  | stop h =>
    intro n Q q
    cases n with
    | zero => exact q.elim
    | succ n => rw [whileW_stop h] at q; exact q
  | go h e _ ih =>
    intro n Q q
    cases n with
    | zero => exact q.elim
    | succ n => rw [whileW_go h e] at q; exact ih n Q q
theorem loopW_eq {S : Type} {c : S → Wp Bool} {b : S → Wp S} {s s2 : S} (g : Goes c b s s2) : loopW c b s = PW.ret s2 := by
  funext Q
  refine propext ⟨fun ⟨n, q⟩ => g.back n Q q, fun q => ?_⟩
  obtain ⟨n, e⟩ := g.fwd
  exact ⟨n, by rw [e]; exact q⟩
/-! ### bits of sums by twos -/
theorem bl_mono {a b : Nat} (h : a ≤ b) : bl a ≤ bl b := bl_le (Nat.lt_of_le_of_lt h (lt_bl b))
theorem bl_xor_le {a b n : Nat} (h1 : bl a ≤ n) (h2 : bl b ≤ n) : bl (a ^^^ b) ≤ n := bl_le (Nat.xor_lt_two_pow (bl_le_iff.mp h1) (bl_le_iff.mp h2))
theorem bl_shl {c : Nat} (h : c ≠ 0) (k : Nat) : bl (c <<< k) = bl c + k := by
  have hc := lt_bl c
  have h1 : bl (c <<< k) ≤ bl c + k := bl_le (by rw [Nat.shiftLeft_eq, Nat.pow_add]; exact Nat.mul_lt_mul_of_pos_right hc (Nat.two_pow_pos k))
  have hp : bl c ≠ 0 := by rw [bl_pos h]; omega
  have h2 : bl c + k - 1 < bl (c <<< k) := lt_bl_iff.mpr (by
    have : 2 ^ (bl c - 1) ≤ c := lt_bl_iff.mp (by omega)
    rw [Nat.shiftLeft_eq, show bl c + k - 1 = bl c - 1 + k by omega, Nat.pow_add]
    exact Nat.mul_le_mul_right _ this)
  omega
theorem bl_shl_le (c k : Nat) : bl (c <<< k) ≤ bl c + k := by
  by_cases h : c = 0
  · rw [h, Nat.zero_shiftLeft]; exact Nat.zero_le _
  · rw [bl_shl h]; exact Nat.le_refl _
theorem top_one {a k : Nat} (h : bl a = k + 1) : a >>> k = 1 := by
  have h1 : a < 2 ^ (k + 1) := by rw [← h]; exact lt_bl a
  have h2 : 2 ^ k ≤ a := lt_bl_iff.mp (by omega)
  rw [Nat.shiftRight_eq_div_pow]
  have : a / 2 ^ k < 2 := Nat.div_lt_of_lt_mul (by rw [Nat.pow_succ] at h1; omega)
  have : 0 < a / 2 ^ k := Nat.div_pos h2 (Nat.two_pow_pos k)
  omega
theorem bl_xor_top {a b k : Nat} (h1 : bl a = k + 1) (h2 : bl b = k + 1) : bl (a ^^^ b) ≤ k := by
  have : (a ^^^ b) >>> k = 0 := by rw [Nat.shiftRight_xor_distrib, top_one h1, top_one h2]; rfl
  refine bl_le ?_
  rw [Nat.shiftRight_eq_div_pow] at this
  exact (Nat.div_eq_zero_iff_lt (Nat.two_pow_pos k)).mp this
theorem bl_xor_gt {a b : Nat} (h : bl b < bl a) : bl (a ^^^ b) = bl a := by
  have h1 : bl (a ^^^ b) ≤ bl a := bl_xor_le (Nat.le_refl _) (Nat.le_of_lt h)
  have h2 : bl a - 1 < bl (a ^^^ b) := by
    obtain ⟨k, hk⟩ : ∃ k, bl a = k + 1 := ⟨bl a - 1, by omega⟩
    have hb : b >>> k = 0 := by
      rw [Nat.shiftRight_eq_div_pow]
      exact Nat.div_eq_of_lt (bl_le_iff.mp (by omega))
    have : (a ^^^ b) >>> k = 1 := by rw [Nat.shiftRight_xor_distrib, top_one hk, hb]; rfl
    rw [show bl a - 1 = k by omega]
    exact shr_pos.mp (by rw [this]; decide)
  omega
theorem xor_can (a b : Nat) : (a ^^^ b) ^^^ b = a := by rw [Nat.xor_assoc, Nat.xor_self, Nat.xor_zero]
/-! ### the rest -/
def restN (c : Nat) : Nat → Nat → Nat
  | 0, u => u
  | n + 1, u => if bl c ≤ bl u then restN c n (u ^^^ (c <<< (bl u - bl c))) else u
theorem restN_step {c u : Nat} (hc : c ≠ 0) (h : bl c ≤ bl u) : bl (u ^^^ (c <<< (bl u - bl c))) < bl u := by
  have hp : bl c ≠ 0 := by rw [bl_pos hc]; omega
  obtain ⟨k, hk⟩ : ∃ k, bl u = k + 1 := ⟨bl u - 1, by omega⟩
  have e : bl (c <<< (bl u - bl c)) = k + 1 := by rw [bl_shl hc]; omega
  have := bl_xor_top hk e
  omega
theorem restN_same {c : Nat} (hc : c ≠ 0) : ∀ (n m u : Nat), bl u ≤ n → bl u ≤ m → restN c n u = restN c m u
  | 0, m, u, h1, h2 => by
    have hp : bl c ≠ 0 := by rw [bl_pos hc]; omega
    cases m with
    | zero => rfl
    | succ m => rw [restN, restN, if_neg (by omega)]
  | n + 1, 0, u, h1, h2 => by
    have hp : bl c ≠ 0 := by rw [bl_pos hc]; omega
    rw [restN, restN, if_neg (by omega)]
  | n + 1, m + 1, u, h1, h2 => by
    rw [restN, restN]
    split
    · rename_i h
      have := restN_step hc h
      exact restN_same hc n m _ (by omega) (by omega)
    · rfl
def rest (c u : Nat) : Nat := restN c (bl u) u
theorem rest_of {c u n : Nat} (hc : c ≠ 0) (h : bl u ≤ n) : restN c n u = rest c u := restN_same hc n _ u h (Nat.le_refl _)
theorem rest_lt {c : Nat} (hc : c ≠ 0) : ∀ (n u : Nat), bl u ≤ n → bl (restN c n u) < bl c
  | 0, u, h => by
    have hp : bl c ≠ 0 := by rw [bl_pos hc]; omega
    rw [restN]; omega
  | n + 1, u, h => by
    rw [restN]
    split
    · rename_i g
      have := restN_step hc g
      exact rest_lt hc n _ (by omega)
    · omega
theorem rest_small {c u : Nat} (h : bl u < bl c) : rest c u = u := by
  unfold rest
  cases e : bl u with
  | zero => rfl
  | succ n => rw [restN, if_neg (by omega)]
theorem rest_le {c u : Nat} (hc : c ≠ 0) : bl (rest c u) ≤ bl u := by
  by_cases h : bl u < bl c
  · rw [rest_small h]; exact Nat.le_refl _
  · have := rest_lt hc (bl u) u (Nat.le_refl _)
    unfold rest
    omega
theorem restN_add {c : Nat} (hc : c ≠ 0) (k : Nat) : ∀ (n u : Nat), bl u ≤ n → bl (c <<< k) ≤ n → restN c n (u ^^^ (c <<< k)) = restN c n u
  | 0, u, h1, h2 => by
    have hp : bl c ≠ 0 := by rw [bl_pos hc]; omega
    rw [bl_shl hc] at h2
    omega
  | n + 1, u, h1, h2 => by
    have hK := bl_shl hc k
    have hp : bl c ≠ 0 := by rw [bl_pos hc]; omega
    rcases Nat.lt_trichotomy (bl u) (bl (c <<< k)) with h | h | h
    · have e : bl (u ^^^ (c <<< k)) = bl (c <<< k) := by rw [Nat.xor_comm]; exact bl_xor_gt h
      rw [restN, if_pos (by omega), e, show bl (c <<< k) - bl c = k by omega, xor_can]
      exact restN_same hc n (n + 1) u (by omega) (by omega)
    · obtain ⟨j, hj⟩ : ∃ j, bl u = j + 1 := ⟨bl u - 1, by omega⟩
      have l := bl_xor_top hj (h ▸ hj)
      rw [restN_same hc (n + 1) n _ (by omega) (by omega)]
      show _ = restN c (n + 1) u
      rw [restN, if_pos (by omega), show bl u - bl c = k by omega]
    · have e : bl (u ^^^ (c <<< k)) = bl u := bl_xor_gt h
      have s := restN_step hc (u := u) (by omega)
      rw [restN, if_pos (by omega), e]
      show _ = restN c (n + 1) u
      rw [restN, if_pos (by omega)]
      have := restN_add hc k n (u ^^^ (c <<< (bl u - bl c))) (by omega) (by omega)
      rw [← this]
      congr 1
      rw [Nat.xor_assoc, Nat.xor_comm (c <<< k), ← Nat.xor_assoc]
theorem rest_add {c : Nat} (hc : c ≠ 0) (u : Nat) : rest c (u ^^^ c) = rest c u := by
  have h := restN_add hc 0 (max (bl u) (bl c)) u (Nat.le_max_left _ _) (by rw [Nat.shiftLeft_zero]; exact Nat.le_max_right _ _)
  rw [Nat.shiftLeft_zero] at h
  rw [← rest_of hc (bl_xor_le (Nat.le_max_left (bl u) (bl c)) (Nat.le_max_right _ _)), h, rest_of hc (Nat.le_max_left _ _)]
/-! ### the divisor -/
def gcdN : Nat → Nat → Nat → Nat
  | 0, a, _ => a
  | n + 1, a, b => if b = 0 then a else gcdN n b (rest b a)
theorem bl_ne {b : Nat} : b ≠ 0 ↔ bl b ≠ 0 := ⟨fun h => by rw [bl_pos h]; omega, fun h e => h (by rw [e]; rfl)⟩
theorem gcdN_same : ∀ (n m a b : Nat), bl b ≤ n → bl b ≤ m → gcdN n a b = gcdN m a b
  | 0, 0, _, _, _, _ => rfl
  | 0, m + 1, a, b, h, _ => by rw [gcdN, gcdN, if_pos (Classical.byContradiction fun z => by have := bl_ne.mp z; omega)]
  | n + 1, 0, a, b, _, h => by rw [gcdN, gcdN, if_pos (Classical.byContradiction fun z => by have := bl_ne.mp z; omega)]
  | n + 1, m + 1, a, b, h1, h2 => by
    rw [gcdN, gcdN]
    split
    · rfl
    · rename_i z
      have : bl (rest b a) < bl b := rest_lt z _ _ (Nat.le_refl _)
      exact gcdN_same n m _ _ (by omega) (by omega)
theorem gcdN_swap : ∀ (n m a b : Nat), bl b ≤ n → bl a ≤ m → gcdN n a b = gcdN m b a := by
  have lt : ∀ (n m a b : Nat), bl b ≤ n → bl a ≤ m → bl a < bl b → gcdN n a b = gcdN m b a := fun n m a b h1 h2 h => by
    obtain ⟨n, rfl⟩ : ∃ j, n = j + 1 := ⟨n - 1, by omega⟩
    rw [gcdN, if_neg (bl_ne.mpr (by omega)), rest_small h]
    exact gcdN_same n m b a (by omega) h2
  intro n m a b h1 h2
  rcases Nat.lt_trichotomy (bl a) (bl b) with h | h | h
  · exact lt n m a b h1 h2 h
  · by_cases z : b = 0
    · have za : a = 0 := Classical.byContradiction fun q => bl_ne.mp q (by rw [h, z]; rfl)
      rw [z, za]
      cases n <;> cases m <;> rfl
    · have hb := bl_ne.mp z
      obtain ⟨n, rfl⟩ : ∃ j, n = j + 1 := ⟨n - 1, by omega⟩
      obtain ⟨m, rfl⟩ : ∃ j, m = j + 1 := ⟨m - 1, by omega⟩
      obtain ⟨k, hk⟩ : ∃ k, bl a = k + 1 := ⟨bl a - 1, by omega⟩
      have za : a ≠ 0 := bl_ne.mpr (by omega)
      have l : bl (a ^^^ b) ≤ k := bl_xor_top hk (h ▸ hk)
      have one : ∀ (a b : Nat), bl a = k + 1 → bl b = k + 1 → b ≠ 0 → bl (a ^^^ b) ≤ k → rest b a = a ^^^ b := fun a b ha hb hz hl => by
        unfold rest
        rw [ha, restN, if_pos (by omega), ha, hb, Nat.sub_self, Nat.shiftLeft_zero, rest_of hz hl, rest_small (by omega)]
      rw [gcdN, if_neg z, gcdN, if_neg za, one a b hk (h ▸ hk) z l, one b a (h ▸ hk) hk za (by rw [Nat.xor_comm]; exact l), Nat.xor_comm b a]
      by_cases zc : a ^^^ b = 0
      · have : a = b := by rw [← xor_can a b, zc, Nat.zero_xor]
        rw [zc, this]
        cases n <;> cases m <;> rfl
      · have hc := bl_ne.mp zc
        obtain ⟨n, rfl⟩ : ∃ j, n = j + 1 := ⟨n - 1, by omega⟩
        obtain ⟨m, rfl⟩ : ∃ j, m = j + 1 := ⟨m - 1, by omega⟩
        have e : rest (a ^^^ b) b = rest (a ^^^ b) a := by
          rw [← rest_add zc a, Nat.xor_comm a b, ← Nat.xor_assoc, Nat.xor_comm a b, xor_can]
        have l2 : bl (rest (a ^^^ b) a) < bl (a ^^^ b) := rest_lt zc _ _ (Nat.le_refl _)
        rw [gcdN, if_neg zc, gcdN, if_neg zc, e]
        exact gcdN_same n m _ _ (by omega) (by omega)
  · exact (lt m n b a h2 h1 h).symm
theorem gcdN_le : ∀ (n a b k : Nat), bl a ≤ k → bl b ≤ k → bl (gcdN n a b) ≤ k
  | 0, a, b, k, h, _ => h
  | n + 1, a, b, k, h1, h2 => by
    rw [gcdN]
    split
    · exact h1
    · rename_i z
      exact gcdN_le n _ _ k h2 (Nat.le_trans (rest_le z) h1)
/-! ### the product -/
def clN (a b : Nat) : Nat → Nat
  | 0 => 0
  | n + 1 => if bitAt b n = 1 then clN a b n ^^^ (a <<< n) else clN a b n
theorem bitAt_high {b n : Nat} (h : bl b ≤ n) : bitAt b n = 0 := by
  unfold bitAt
  rw [Nat.shiftRight_eq_div_pow, Nat.div_eq_of_lt (bl_le_iff.mp h)]
theorem clN_high (a b : Nat) : ∀ j : Nat, clN a b (bl b + j) = clN a b (bl b)
  | 0 => rfl
  | j + 1 => by
    show clN a b ((bl b + j) + 1) = _
    rw [clN, bitAt_high (by omega), if_neg (by decide), clN_high a b j]
theorem clN_le (a b : Nat) : ∀ n : Nat, bl (clN a b n) ≤ bl a + n
  | 0 => Nat.zero_le _
  | n + 1 => by
    rw [clN]
    have h1 := clN_le a b n
    have h2 := bl_shl_le a n
    split
    · exact bl_xor_le (by omega) (by omega)
    · omega
/-! ### x + 1 for x -/
def twice1 (v : Nat) : Nat := (v <<< 1) ^^^ v
def hornN : List Nat → Nat
  | [] => 0
  | b :: r => twice1 (hornN r) ^^^ b
def bitsN (m : Nat) : List Nat := (List.range (bl m)).map (bitAt m)
def mv (m : Nat) : Nat := hornN (bitsN m)
theorem bl_half (m : Nat) : bl (m / 2) = bl m - 1 := by
  by_cases h : m / 2 = 0
  · have : m < 2 := by omega
    rw [h]
    have : bl m ≤ 1 := bl_le (by omega)
    rw [bl_zero]
    omega
  · have := bl_shl h 1
    have h2 : (m / 2) <<< 1 = 2 * (m / 2) := by rw [Nat.shiftLeft_eq]; omega
    have h3 : bl m = bl (m / 2) + 1 := by
      have l1 : bl m ≤ bl (m / 2) + 1 := bl_le (by
        have := lt_bl (m / 2)
        rw [Nat.pow_succ]
        omega)
      have l2 : bl ((m / 2) <<< 1) ≤ bl m := bl_mono (by rw [h2]; omega)
      omega
    omega
theorem bitsN_step {m : Nat} (h : m ≠ 0) : bitsN m = m % 2 :: bitsN (m / 2) := by
  unfold bitsN
  have := bl_ne.mp h
  rw [bl_half, show bl m = (bl m - 1) + 1 by omega, List.range_succ_eq_map, List.map_cons, List.map_map]
  congr 1
  refine List.map_congr_left fun i _ => ?_
  show bitAt m (i + 1) = bitAt (m / 2) i
  unfold bitAt
  rw [Nat.add_comm, Nat.shiftRight_add]
  rfl
theorem mv_step (m : Nat) : mv m = twice1 (mv (m / 2)) ^^^ (m % 2) := by
  by_cases h : m = 0
  · rw [h]; rfl
  · unfold mv
    rw [bitsN_step h]
    rfl
theorem twice1_xor (a b : Nat) : twice1 (a ^^^ b) = twice1 a ^^^ twice1 b := by
  unfold twice1
  rw [Nat.shiftLeft_xor_distrib, Nat.xor_assoc, Nat.xor_assoc]
  congr 1
  rw [← Nat.xor_assoc, ← Nat.xor_assoc, Nat.xor_comm a]
theorem mv_xor : ∀ (a b : Nat), mv (a ^^^ b) = mv a ^^^ mv b := by
  intro a
  induction a using Nat.strongRecOn with
  | ind a ih =>
    intro b
    by_cases z : a = 0
    · rw [z, Nat.zero_xor]
      show _ = 0 ^^^ _
      rw [Nat.zero_xor]
    · have e2 : (a ^^^ b) / 2 = a / 2 ^^^ b / 2 := Nat.xor_div_two
      have m2 : (a ^^^ b) % 2 = a % 2 ^^^ b % 2 := Nat.xor_mod_two_pow (n := 1)
      rw [mv_step (a ^^^ b), mv_step a, mv_step b, e2, m2, ih (a / 2) (by omega), twice1_xor]
      simp only [Nat.xor_assoc]
      congr 1
      rw [← Nat.xor_assoc, Nat.xor_comm _ (a % 2), Nat.xor_assoc]
theorem mv_shl (v : Nat) : mv (v <<< 1) = twice1 (mv v) := by
  have e : v <<< 1 = 2 * v := by rw [Nat.shiftLeft_eq]; omega
  rw [mv_step, e, Nat.mul_mod_right, Nat.xor_zero, Nat.mul_div_cancel_left _ (by decide)]
theorem mv_twice1 (v : Nat) : mv (twice1 v) = mv v <<< 1 := by
  unfold twice1
  rw [mv_xor, mv_shl]
  unfold twice1
  rw [xor_can]
theorem mv_mv : ∀ m : Nat, mv (mv m) = m := by
  intro m
  induction m using Nat.strongRecOn with
  | ind m ih =>
    by_cases z : m = 0
    · rw [z]; rfl
    · rw [mv_step m, mv_xor, mv_twice1, ih (m / 2) (by omega)]
      have e : (m / 2) <<< 1 = 2 * (m / 2) := by rw [Nat.shiftLeft_eq]; omega
      rcases Nat.mod_two_eq_zero_or_one m with h | h <;> rw [h]
      · show (m / 2) <<< 1 ^^^ 0 = m
        rw [Nat.xor_zero, e]
        omega
      · show (m / 2) <<< 1 ^^^ 1 = m
        have h2 : ((m / 2) <<< 1) ^^^ 1 = ((m / 2) <<< 1) + 1 := by
          have e1 : (((m / 2) <<< 1) ^^^ 1) / 2 = ((m / 2) <<< 1) / 2 ^^^ 1 / 2 := Nat.xor_div_two
          have e2 : (((m / 2) <<< 1) ^^^ 1) % 2 = ((m / 2) <<< 1) % 2 ^^^ 1 % 2 := Nat.xor_mod_two_pow (n := 1)
          rw [e, Nat.mul_mod_right] at e2
          rw [e, Nat.mul_div_cancel_left _ (by decide)] at e1
          rw [e]
          have e3 : (m / 2 ^^^ 1 / 2 : Nat) = m / 2 := Nat.xor_zero _
          have e4 : (0 ^^^ 1 % 2 : Nat) = 1 := rfl
          omega
        rw [h2, e]
        omega
theorem horn_le : ∀ l : List Nat, (∀ b ∈ l, b < 2) → bl (hornN l) ≤ l.length
  | [], _ => Nat.le_refl _
  | b :: r, h => by
    have ih := horn_le r fun x hx => h x (List.mem_cons_of_mem _ hx)
    have h1 := bl_shl_le (hornN r) 1
    have h2 : bl b ≤ 1 := bl_le (h b List.mem_cons_self)
    rw [List.length_cons]
    show bl (twice1 (hornN r) ^^^ b) ≤ _
    exact bl_xor_le (bl_xor_le (by omega) (by omega)) (by omega)
theorem mv_le (m : Nat) : bl (mv m) ≤ bl m := by
  have := horn_le (bitsN m) fun b hb => by
    obtain ⟨i, _, rfl⟩ := List.mem_map.mp hb
    exact bitAt_le m i
  rwa [bitsN, List.length_map, List.length_range] at this
end PW

set_option Elab.async false
set_option linter.all false
set_option maxRecDepth 100000
set_option maxHeartbeats 0
namespace L57
open PySem PySem.Spec PyProof.Rows L2 PW
def topS (i : Nat) : Stmt := PySem.Challenge.pw_countedbytwos_k57_whole_lamps_and_figure.main.body.getD i (.Pass ⟨0, 0, 0, 0⟩)
structure Free (mg : Str → Option Value) : Prop where
  abs_ : mg "abs" = none
  all_ : mg "all" = none
  enumerate_ : mg "enumerate" = none
  int_ : mg "int" = none
  len_ : mg "len" = none
  list_ : mg "list" = none
  range_ : mg "range" = none
  repr_ : mg "repr" = none
  reversed_ : mg "reversed" = none
  sum_ : mg "sum" = none
  tuple_ : mg "tuple" = none
abbrev s_law_draw : Stmt := topS 18
theorem scDraw : FnScope ["bag", "below", "turn", "cell", "found"] ["bag", "below"] (defScope s_law_draw) := ⟨rfl, rfl, rfl, by decide +kernel, rfl, by decide +kernel, by decide +kernel⟩
section
variable {P : Program} {w : World} {K : PySem.W.Frag} {mg : Str → Option Value} {base : Heap}
theorem ok_draw (hd : Has K mg "_law_draw" s_law_draw) (zr : mg "range" = none) (zi : mg "int" = none) : FnS P w K mg base "_law_draw" s_law_draw 1 true ["bag", "below"] drawF := by
  obtain ⟨a, fd, gm, F⟩ := hd
  have B : Binds K fd ["bag", "below"] [] := F.binds (ps := ["bag", "below"]) fun _ _ _ _ _ _ us hl => match us, hl with | [_, _], _ => rfl
  refine ⟨⟨a, fd, gm, F, B, fnG_of F scDraw (fun vs H Q E h => ?_) fun cdv A outer s H vs Q gd hr h => ?_⟩, fun ds Q h => ?_⟩
  · obtain ⟨bg, F1, ws, ds, Q0, ex, bk, ⟨p, q, hbg, rfl⟩, hd, hl, _⟩ := h
    have e := dpa_len hd
    rw [List.length_cons, e, hl]
    rfl
  · obtain ⟨bg, F1, ws, ds, Q0, ex, bk, ⟨p, q, hbg, rfl⟩, hd, hl, hf, fin⟩ := h
    obtain ⟨b, rfl, ⟨hb0, hb1⟩, hall⟩ : ∃ b, ds = [.int b] ∧ (0 < b ∧ b < 2 ^ 64) ∧ ∀ d : Int, 0 ≤ d → d < b → Q0 (.int d) := by
      unfold drawF at hf
      split at hf
      · rename_i b
        exact ⟨b, rfl, hf.1, hf.2⟩
      · exact hf.elim
    cases hd with
    | cons hd0 hdt =>
    cases hdt
    cases hd0
    obtain ⟨hne, hfp, hfq, cs0, c0, m0, hp0, hq0, hnn, hc0, hm0, hm1, hfew⟩ := bk p q hbg
    have J0 : BJ H H p q cs0 c0 m0 := ⟨hp0, hq0, hnn, hc0, hm0, hm1, hfew, fun _ _ _ _ h => h⟩
    have out : ∀ (d : Int) (Hc : Hp) (cs : List Int) (c m : Int), BJ H Hc p q cs c m → 0 ≤ d → d < b → Q (.int d) Hc := fun d Hc cs c m j h1 h2 => fin _ _ Hc F1 (j.step ex bk hbg) (.int d) (hall d h1 h2)
    refine ⟨_, Evl.pss_cut (ps_for PassesOwn.never rfl (pi_range1 (by rfl) zr (pa_cons pe_int pa_nil)) (pg_name (i := 2) scDraw.nd rfl (.inl rfl))
        (pss_cons (ps_if (L2.PW.pt (pw_or (pt_cmpR op_gt (pe_ix ix_list (pv 0) pe_int (fun _ _ => rfl)) pe_int (nomark _)) (pw_or1 (pt_cmpR (op_eqD (by have := hr.un; show A.units + 3 + 64 < cLine; have h2 : A.units + 3 + 16 * 0 + 200 < cLine := this; omega)) (pe_ix ix_list (pv 0) pe_int (fun _ _ => rfl)) (pe_lst pa_nil) (nomark _))))) (pss_one ps_break) pss_nil)
          (pss_cons (ps_set (i := 3) scDraw.nd rfl (.inl rfl) (pe_bm0 PySem.F.plainAttrs_list PySem.F.slot_list_pop PySem.F.type_list_pop mt_pop (pe_ix ix_list (pv 0) pe_int (fun _ _ => rfl))))
            (pss_one (ps_asg (pe_ifExp (pt_cmpR op_gt (pv 3) (pe_op op_pow pe_int pe_int) (nomark _)) (pv 3) pe_int) (pg_sub (pv 0) pe_int set_list))))))
      (pss_cons (ps_if (pt_cmpR op_gt (pe_ix ix_list (pv 0) pe_int (fun _ _ => rfl)) pe_int (nomark _))
          (pss_cons (ps_set (i := 4) scDraw.nd rfl (.inl rfl) (pe_op op_mod (pe_callTy call_int1 (by rfl) zi (by decide +kernel) (pa_cons (pe_ix ix_list (pv 0) pe_int (fun _ _ => rfl)) pa_nil)) (pv 1)))
            (pss_cons (ps_asg (pe_op op_fdivW (pe_callTy call_int1 (by rfl) zi (by decide +kernel) (pa_cons (pe_ix ix_list (pv 0) pe_int (fun _ _ => rfl)) pa_nil)) (pv 1)) (pg_sub (pv 0) pe_int set_list))
              (pss_one (ps_ret (pv 4))))) pss_nil)
      (pss_cons (ps_asg (pe_op op_mod (pe_callTy call_int1 (by rfl) zi (by decide +kernel) (pa_cons (pe_op op_add (pe_op op_mul (pe_ix ix_list (pv 0) pe_int (fun _ _ => rfl)) pe_int) pe_int) pa_nil)) pe_int) (pg_sub (pv 0) pe_int set_list))
      (pss_one (ps_ret (pe_op op_mod (pe_callTy call_int1 (by rfl) zi (by decide +kernel) (pa_cons (pe_op op_fdiv (pe_op op_mod (pe_callTy call_int1 (by rfl) zi (by decide +kernel) (pa_cons (pe_op op_mul (pe_ix ix_list (pv 0) pe_int (fun _ _ => rfl)) (pe_ix ix_list (pv 0) pe_int (fun _ _ => rfl))) pa_nil)) pe_int) pe_int) pa_nil)) (pv 1)))))), ?_⟩
    refine ⟨fun σ Hc => ∃ x2 x3 x4 cs c m, σ = [some (.ref p), some (.int b), x2, x3, x4] ∧ BJ H Hc p q cs c m, ?_, ?_⟩
    · refine ⟨64, rfl, by decide, by decide, for_range (lo := 0) (n := 64) (fun i σ Hc => ∃ x2 x3 x4 cs c m, σ = [some (.ref p), some (.int b), x2, x3, x4] ∧ BJ H Hc p q cs c m) ⟨none, none, none, cs0, c0, m0, rfl, J0⟩ ?_ (fun σ Hc h => h)⟩
      rintro i σ Hc hi ⟨x2, x3, x4, cs, c, m, rfl, J⟩
      refine ⟨.ref p, rfl, p, _, 1, _, rfl, rfl, .inl (.inl J.hp), rfl, c, 0, rfl, rfl, _, rfl, ?_⟩
      by_cases hc : c > 0
      · rw [decide_eq_true hc]
        exact iteT ⟨_, x3, x4, cs, c, m, rfl, J⟩
      · rw [decide_eq_false hc]
        refine iteF ⟨.ref p, rfl, p, _, 0, _, rfl, rfl, .inl (.inl J.hp), rfl, Nat.zero_le _, fun l hl => ?_⟩
        have J1 : BJ H (upd Hc l (.lst [])) p q cs c m := J.new hl
        refine ⟨.list (cs.map .int), .list [], .lst (.inl (.inl J1.hq)) (dqa_dpa _ _ (dqa_of_ints cs)), .lst (.inl (.inl upd_same)) .nil, ?_, rfl, _, rfl, ?_⟩
        · exact ints_shaped cs
        cases cs with
        | nil =>
          exact iteT ⟨_, x3, x4, [], c, m, rfl, J1⟩
        | cons y ys =>
          refine iteF ?_
          have hlen : ((y :: ys).map V.int)[((y :: ys).map V.int).length - 1]? = some (.int ((y :: ys).getLast (List.cons_ne_nil _ _))) := by
            rw [List.length_map, List.getElem?_map, ← List.getLast?_eq_getElem?, List.getLast?_eq_some_getLast (List.cons_ne_nil _ _)]
            rfl
          generalize hz : (y :: ys).getLast (List.cons_ne_nil _ _) = z at hlen
          have hz0 : 0 ≤ z := by rw [← hz]; exact J1.nn _ (List.getLast_mem _)
          refine ⟨.ref p, rfl, p, _, 0, _, rfl, rfl, .inl (.inl J1.hp), rfl, .inl ⟨rfl, _, .inl (.inl J1.hq)⟩, q, _, .int z, rfl, rfl, J1.hq, hlen, ?_⟩
          have J2 : BJ H (upd (upd Hc l (.lst [])) q (.lst ((y :: ys).map V.int).dropLast)) p q (y :: ys).dropLast c m := by
            rw [← List.map_dropLast]
            exact J1.setQ hne (fun x hx => J1.nn x (List.dropLast_subset _ hx)) (by rw [List.length_dropLast]; have := J1.few; omega)
          refine ⟨.int z, rfl, 10, 9, rfl, rfl, ⟨by decide, by decide, by decide⟩, z, _, rfl, rfl, _, rfl, ?_⟩
          by_cases hc : z > 10 ^ (9 : Int).toNat
          · rw [decide_eq_true hc]
            exact iteT ⟨.int z, rfl, .ref p, rfl, p, _, 1, 1, rfl, rfl, J2.hp, rfl, _, _, x4, _, z, m, rfl, J2.setP hne hz0 J2.m0 J2.m1⟩
          · rw [decide_eq_false hc]
            exact iteF ⟨.ref p, rfl, p, _, 1, 1, rfl, rfl, J2.hp, rfl, _, _, x4, _, 0, m, rfl, J2.setP hne (Int.le_refl 0) J2.m0 J2.m1⟩
    · rintro σ Hc ⟨x2, x3, x4, cs, c, m, rfl, J⟩
      refine ⟨.ref p, rfl, p, _, 1, _, rfl, rfl, .inl (.inl J.hp), rfl, c, 0, rfl, rfl, _, rfl, ?_⟩
      by_cases hc : c > 0
      · rw [decide_eq_true hc]
        refine iteT ?_
        refine ⟨.ref p, rfl, p, _, 1, _, rfl, rfl, .inl (.inl J.hp), rfl, .inl ⟨c, rfl, .int b, rfl, c, b, rfl, rfl, hb0, ?_⟩⟩
        refine ⟨.ref p, rfl, p, _, 1, _, rfl, rfl, .inl (.inl J.hp), rfl, .inl ⟨c, rfl, .int b, rfl, c, b, rfl, rfl, ⟨hb0, ?_⟩, .ref p, rfl, p, _, 1, 1, rfl, rfl, J.hp, rfl, ?_⟩⟩
        · exact (wide_div (i := c) (b := 64) hb0 (by omega) (by decide) (by decide)).2
        refine ⟨_, rfl, out _ _ cs (c / b) m (J.setP hne (Int.ediv_nonneg J.c0 (by omega)) J.m0 J.m1) (Int.emod_nonneg _ (by omega)) (Int.emod_lt_of_pos _ hb0)⟩
      · rw [decide_eq_false hc]
        refine iteF ⟨.ref p, rfl, p, _, 2, _, rfl, rfl, .inl (.inl J.hp), rfl, m, 48271, rfl, rfl, .inl ⟨by have := J.m0; omega, by have := J.m1; omega⟩, _, _, rfl, rfl, .inl ⟨_, rfl, _, _, rfl, rfl, (show (0 : Int) < 2147483647 by decide), .ref p, rfl, p, _, 2, 2, rfl, rfl, J.hp, rfl, ?_⟩⟩
        have J3 := J.setP hne J.c0 (Int.emod_nonneg (m * 48271 + 11) (by decide : (2147483647 : Int) ≠ 0)) (Int.emod_lt_of_pos (m * 48271 + 11) (by decide))
        have n0 := J3.m0
        have n1 := J3.m1
        refine ⟨.ref p, rfl, p, _, 2, _, rfl, rfl, .inl (.inl J3.hp), rfl, .ref p, rfl, p, _, 2, _, rfl, rfl, .inl (.inl J3.hp), rfl, _, _, rfl, rfl, .inl ⟨Int.lt_of_lt_of_le (by decide) n0, Int.lt_trans n1 (by decide)⟩, .inl ⟨_, rfl, _, _, rfl, rfl, (show (0 : Int) < 2147483629 by decide), _, _, rfl, rfl, ⟨by decide, by decide⟩, .inl ⟨_, rfl, .int b, rfl, _, b, rfl, rfl, hb0, ?_⟩⟩⟩
        exact out _ _ _ _ _ J3 (Int.emod_nonneg _ (by omega)) (Int.emod_lt_of_pos _ hb0)
  · unfold drawF at h
    split at h
    · rfl
    · exact h.elim
abbrev s_law_own_bag : Stmt := topS 17
theorem scOwn : FnScope ["script", "cells", "mixed", "cell"] ["script"] (defScope s_law_own_bag) := ⟨rfl, rfl, rfl, by decide +kernel, rfl, by decide +kernel, by decide +kernel⟩
theorem ok_own {a : Addr} {fd : FuncData} (F : Fun K "_law_own_bag" "_law_own_bag" s_law_own_bag a fd) (zi : mg "int" = none) (za : mg "abs" = none) (zl : mg "len" = none) (zt : mg "list" = none) (zv : mg "reversed" = none) : FnG P w K mg base 1 a fd ["script"] (spMake K) := by
  refine fnG_of F scOwn (fun vs H Q E h => ?_) fun cdv A outer s H vs Q gd hr h => ?_
  · obtain ⟨_, _, rfl, _⟩ := h
    rfl
  · obtain ⟨a0, ns, rfl, hS, hlen, fin⟩ := h
    have nd := scOwn.nd
    refine ⟨_, Evl.pss_cut (ps_setLc (i := 1) (own := [("cell", 3)]) (g := gName 3) (tt := tYes) rfl nd rfl rfl (sw_true rfl rfl rfl (by decide +kernel)) (pi_list (pe_slice sl_list (pv 0) po_none (po_some pe_int))) (blkOk_by (N := ["script", "cells", "mixed", "cell"]) (sc := defScope s_law_own_bag) (by decide +kernel)) (fun _ _ _ _ _ => pg_name (i := 3) nd rfl (Or.inl rfl)) (fun _ _ _ _ _ => pts_nil) (fun _ _ _ _ _ => pe_callB call_abs (by rfl) za (by decide +kernel) (pa_cons (pe_callTy call_int1 (by rfl) zi (by decide +kernel) (pa_cons (pv 3) pa_nil)) pa_nil)))
      (pss_cons (ps_set (i := 2) nd rfl (.inl rfl) (pe_op op_add pe_int (pe_callB call_len_seq (by rfl) zl PySem.boot_len (pa_cons (pv 1) pa_nil))))
      (Evl.pss_cut (ps_for PassesOwn.never rfl (pi_list (pv 1)) (pg_name (i := 3) nd rfl (.inl rfl)) (pss_one (ps_set (i := 2) nd rfl (.inl rfl) (pe_op op_mod (pe_callTy call_int1 (by rfl) zi (by decide +kernel) (pa_cons (pe_op op_add (pe_op op_add (pe_op op_mul (pv 2) pe_int) (pe_op op_mod (pe_callTy call_int1 (by rfl) zi (by decide +kernel) (pa_cons (pv 3) pa_nil)) pe_int)) pe_int) pa_nil)) pe_int))))
      (pss_one (ps_ret (pe_lst (pa_cons (pe_listRev rfl (by rfl) zt (by rfl) zv (pe_callTy call_list_of (by rfl) zt (by decide +kernel) (pa_cons (pv 1) pa_nil))) (pa_cons pe_int (pa_cons (pv 2) pa_nil)))))))), ?_⟩
    -- the cells
    have small : ∀ {n : Nat}, n ≤ 63 → n < sizeLine := fun {n} h => Nat.lt_of_le_of_lt h (by decide)
    refine ⟨fun σ Hc => ∃ (l : Addr) (cs : List Int), σ = [some (.ref a0), some (.ref l), none, none] ∧ Hc l = some (.lst (cs.map V.int)) ∧ (∀ x ∈ cs, 0 ≤ x) ∧ cs.length ≤ 63, ?_, ?_⟩
    · refine ⟨.ref a0, rfl, 63, rfl, a0, ns.map V.int, rfl, hS, fun c nc => ?_⟩
      have ecut : cutV (ns.map V.int) none (some 63) = ns.map V.int := by
        unfold cutV
        rw [HT.sIx_none, List.drop_zero, Nat.sub_zero, show HT.sIx (ns.map V.int).length (ns.map V.int).length (some 63) = min 63 (ns.map V.int).length from HT.sIx_nat _ _ 63]
        exact List.take_of_length_le (by rw [List.length_map]; omega)
      rw [ecut]
      refine ⟨c, rfl, ⟨_, .inl (.inl upd_same)⟩, fun l hl => ?_⟩
      have ncl : c ≠ l := ne_of_none upd_same hl
      refine lc_list (xs := ns.map V.int) (fun i Hc => Hc c = some (.lst (ns.map V.int)) ∧ Hc l = some (.lst (((ns.take i).map fun x => if x < 0 then -x else x).map V.int))) ⟨by rw [upd_ne ncl]; exact upd_same, upd_same⟩ (fun i Hc _ p => .inl (.inl p.1)) (fun i x Hc hx p => ?_) fun Hc p => ?_
      · have hi : i < ns.length := by
          have := (List.getElem?_eq_some_iff.mp hx).1
          rwa [List.length_map] at this
        rw [List.getElem?_map, List.getElem?_eq_getElem hi] at hx
        have ex : x = V.int ns[i] := (Option.some.inj hx).symm
        subst ex
        refine ⟨rfl, ⟨.int ns[i], rfl, .inl ⟨_, rfl, _, rfl, _, p.2, ?_, ?_, ?_⟩⟩⟩
        · rw [List.length_map, List.length_map, List.length_take]
          exact small (by omega)
        · rw [upd_ne ncl]; exact p.1
        · rw [upd_same, List.take_add_one, List.getElem?_eq_getElem hi, List.map_append, List.map_append]
          rfl
      · refine ⟨l, ns.map fun x => if x < 0 then -x else x, rfl, ?_, fun x hx => ?_, by rw [List.length_map]; exact hlen⟩
        · have p2 := p.2
          rw [List.length_map, List.take_length] at p2
          exact p2
        · obtain ⟨y, _, rfl⟩ := List.mem_map.mp hx
          split <;> omega
    rintro σ Hc ⟨l, cs, rfl, hl, hnn, hfew⟩
    have hL : ∀ {Hd : Hp}, Hd = Hc → SqL K Hd l (cs.map V.int) := fun e => by rw [e]; exact .inl (.inl hl)
    refine ⟨.ref l, rfl, l, _, rfl, .inl (hL rfl), _, _, rfl, rfl, ?_⟩
    rw [List.length_map]
    -- the mixing
    refine ⟨fun σ Hd => ∃ (x3 : Option V) (mx : Int), σ = [some (.ref a0), some (.ref l), some (.int mx), x3] ∧ Hd = Hc ∧ 0 ≤ mx ∧ mx < 2147483647, ?_, ?_⟩
    · refine ⟨.ref l, rfl, l, rfl, ⟨_, hL rfl⟩, for_list (xs := cs.map V.int) (fun i σ Hd => ∃ (x3 : Option V) (mx : Int), σ = [some (.ref a0), some (.ref l), some (.int mx), x3] ∧ Hd = Hc ∧ 0 ≤ mx ∧ mx < 2147483647) ⟨none, _, rfl, rfl, by omega, by omega⟩ (fun i σ Hd _ p => by obtain ⟨_, _, _, e, _⟩ := p; exact hL e) (fun i x σ Hd hx p => ?_) fun σ Hd p => p⟩
      obtain ⟨x3, mx, rfl, rfl, h0, h1⟩ := p
      have hi : i < cs.length := by
        have := (List.getElem?_eq_some_iff.mp hx).1
        rwa [List.length_map] at this
      rw [List.getElem?_map, List.getElem?_eq_getElem hi] at hx
      have ex : x = V.int cs[i] := (Option.some.inj hx).symm
      subst ex
      refine ⟨.int mx, rfl, mx, 48271, rfl, rfl, .inl ⟨by omega, by omega⟩, .int cs[i], rfl, .inl ⟨_, rfl, _, _, rfl, rfl, (show (0 : Int) < 2147483629 by decide), _, _, rfl, rfl, _, _, rfl, rfl, .inl ⟨_, rfl, _, _, rfl, rfl, (show (0 : Int) < 2147483647 by decide), ?_⟩⟩⟩
      exact ⟨_, _, rfl, rfl, Int.emod_nonneg _ (by decide), Int.emod_lt_of_pos _ (by decide)⟩
    rintro σ Hd ⟨x3, mx, rfl, rfl, h0, h1⟩
    -- the bag
    refine ⟨.ref l, rfl, l, _, rfl, .inl (hL rfl), fun l2 hl2 => ⟨l2, _, rfl, .inl (.inl upd_same), fun q hq => ⟨.int mx, rfl, by show 3 ≤ sizeLine; decide, fun p hp => ?_⟩⟩⟩
    have npq : q ≠ p := ne_of_none upd_same hp
    refine fin p q _ cs.reverse 0 mx npq.symm ⟨upd_same, by rw [upd_ne npq, upd_same, List.map_reverse], fun x hx => hnn x (List.mem_reverse.mp hx), Int.le_refl 0, h0, h1, by rw [List.length_reverse]; exact hfew, fun a o _ _ h => nomatch h⟩
end

section
variable {P : Program} {w : World} {K : PySem.W.Frag} {mg : Str → Option Value} {base : Heap}
set_option linter.all false
abbrev sis_binomial_odd : Stmt := topS 1
theorem scis_binomial_odd : FnScope ["n", "k"] ["n", "k"] (defScope sis_binomial_odd) := ⟨rfl, rfl, rfl, by decide +kernel, rfl, by decide +kernel, by decide +kernel⟩
def bis_binomial_odd (c0 c1 : D) : Wp D := op2 eqD (op2 andI (ret c0) (ret c1)) (ret c1)
def fis_binomial_odd : List D → Wp D
  | [c0, c1] => bis_binomial_odd c0 c1
  | _ => nay
theorem okis_binomial_odd (his_binomial_odd : Has K mg "is_binomial_odd" sis_binomial_odd) (Z : Free mg) : FnS P w K mg base "is_binomial_odd" sis_binomial_odd 1 false ["n", "k"] fis_binomial_odd := by
  obtain ⟨a, fd, gm, F⟩ := his_binomial_odd
  have nd := scis_binomial_odd.nd
  refine fnS_of false 0 F gm scis_binomial_odd (F.binds (ps := ["n", "k"]) fun _ _ _ _ _ _ us hl => match us, hl with | [_, _], _ => rfl) rfl (by decide) (fun ds Q h => ?_) fun ds hl => ?_
  · unfold fis_binomial_odd at h; split at h; · rfl
    · exact h.elim
  · obtain ⟨c0, c1, rfl⟩ := len2 hl
    refine (show MR _ _ _ (bis_binomial_odd c0 c1) from ?_)
    delta bis_binomial_odd
    show MR _ _ [some (.val c0), some (.val c1)] _
    exact (mr_ret (me_eq (me_and (me_var 0 rfl (.inl rfl) rfl) (me_var 1 rfl (.inl rfl) rfl)) (me_var 1 rfl (.inl rfl) rfl)))
abbrev spoly_mask : Stmt := topS 6
theorem scpoly_mask : FnScope ["poly", "place", "item"] ["poly"] (defScope spoly_mask) := ⟨rfl, rfl, rfl, by decide +kernel, rfl, by decide +kernel, by decide +kernel⟩
def bpoly_mask (c0 : D) : Wp D := sumW (comp0 (enuW (ret c0)) (fun d => bnd (tupN 2 d) (consD PW.ret (consD PW.ret nilD))) (fun (p1 : D × D × Unit) => op2 shlI (ret p1.2.1) (ret p1.1)))
def fpoly_mask : List D → Wp D
  | [c0] => bpoly_mask c0
  | _ => nay
theorem okpoly_mask (hpoly_mask : Has K mg "poly_mask" spoly_mask) (Z : Free mg) : FnS P w K mg base "poly_mask" spoly_mask 1 false ["poly"] fpoly_mask := by
  obtain ⟨a, fd, gm, F⟩ := hpoly_mask
  have nd := scpoly_mask.nd
  refine fnS_of false 2 F gm scpoly_mask (F.binds (ps := ["poly"]) fun _ _ _ _ _ _ us hl => match us, hl with | [_], _ => rfl) rfl (by decide) (fun ds Q h => ?_) fun ds hl => ?_
  · unfold fpoly_mask at h; split at h; · rfl
    · exact h.elim
  · obtain ⟨c0, rfl⟩ := len1 hl
    refine (show MR _ _ _ (bpoly_mask c0) from ?_)
    delta bpoly_mask
    show MR _ _ [some (.val c0), none, none] _
    exact (mr_ret (me_sum rfl Z.sum_ (mq_new (mf_lc0 [("place", 1), ("item", 2)] nd (by dsimp only [blkG]; decide +kernel) (mi_enum rfl Z.enumerate_ (me_var 0 rfl (.inl rfl) rfl)) (mg_tup 2 (mgs_cons (mg_name 1 nd rfl (.inl rfl)) fun _ => (mgs_cons (mg_name 2 nd rfl (.inl rfl)) fun _ => mgs_nil))) (fun (p1 : D × D × Unit) => (me_shl (me_var 2 rfl (.inl rfl) rfl) (me_var 1 rfl (.inl rfl) rfl)))))))
abbrev smask_poly : Stmt := topS 7
theorem scmask_poly : FnScope ["mask", "place"] ["mask"] (defScope smask_poly) := ⟨rfl, rfl, rfl, by decide +kernel, rfl, by decide +kernel, by decide +kernel⟩
def bmask_poly (c0 : D) : Wp D := tuW (comp0 (bnd (bitsW (ret c0)) rangeW) (PW.ret) (fun (a1 : D) => op2 andI (op2 shrI (ret c0) (ret a1)) (ret (.int 1))))
def fmask_poly : List D → Wp D
  | [c0] => bmask_poly c0
  | _ => nay
theorem okmask_poly (hmask_poly : Has K mg "mask_poly" smask_poly) (Z : Free mg) : FnS P w K mg base "mask_poly" smask_poly 1 false ["mask"] fmask_poly := by
  obtain ⟨a, fd, gm, F⟩ := hmask_poly
  have nd := scmask_poly.nd
  refine fnS_of false 1 F gm scmask_poly (F.binds (ps := ["mask"]) fun _ _ _ _ _ _ us hl => match us, hl with | [_], _ => rfl) rfl (by decide) (fun ds Q h => ?_) fun ds hl => ?_
  · unfold fmask_poly at h; split at h; · rfl
    · exact h.elim
  · obtain ⟨c0, rfl⟩ := len1 hl
    refine (show MR _ _ _ (bmask_poly c0) from ?_)
    delta bmask_poly
    show MR _ _ [some (.val c0), none] _
    exact (mr_ret (me_tuple rfl Z.tuple_ (mq_new (mf_lc0 [("place", 1)] nd (by dsimp only [blkG]; decide +kernel) (mi_range rfl Z.range_ (me_bits (me_var 0 rfl (.inr (.inl rfl)) rfl))) (mg_name 1 nd rfl (.inl rfl)) (fun (a1 : D) => (me_and (me_shr (me_var 0 rfl (.inr (.inl rfl)) rfl) (me_var 1 rfl (.inl rfl) rfl)) me_int))))))
abbrev smasks_product : Stmt := topS 8
theorem scmasks_product : FnScope ["one", "other", "found", "place"] ["one", "other"] (defScope smasks_product) := ⟨rfl, rfl, rfl, by decide +kernel, rfl, by decide +kernel, by decide +kernel⟩
def bmasks_product (c0 c1 : D) : Wp D := bnd (ret (.int 0)) fun (x1 : D) => bnd (ret (.int 0)) fun (x2 : D) => bnd (loopW (S := D × D) (fun (s3 : D × D) => bnd (op2 neD (op2 shrI (ret c1) (ret s3.2)) (ret (.int 0))) boolD) (fun (s3 : D × D) => bnd (bnd (op2 eqD (op2 andI (op2 shrI (ret c1) (ret s3.2)) (ret (.int 1))) (ret (.int 1))) boolD) fun t5 => bnd (ifW t5 (bnd (op2 xorI (ret s3.1) (op2 shlI (ret c0) (ret s3.2))) fun (x7 : D) => ret x7) (ret s3.1)) fun (s6 : D) => bnd (op2 addD (ret s3.2) (ret (.int 1))) fun (x8 : D) => ret (s6, x8)) (x1, x2)) fun (s4 : D × D) => ret s4.1
def fmasks_product : List D → Wp D
  | [c0, c1] => bmasks_product c0 c1
  | _ => nay
theorem okmasks_product (hmasks_product : Has K mg "masks_product" smasks_product) (Z : Free mg) : FnS P w K mg base "masks_product" smasks_product 1 false ["one", "other"] fmasks_product := by
  obtain ⟨a, fd, gm, F⟩ := hmasks_product
  have nd := scmasks_product.nd
  refine fnS_of false 2 F gm scmasks_product (F.binds (ps := ["one", "other"]) fun _ _ _ _ _ _ us hl => match us, hl with | [_, _], _ => rfl) rfl (by decide) (fun ds Q h => ?_) fun ds hl => ?_
  · unfold fmasks_product at h; split at h; · rfl
    · exact h.elim
  · obtain ⟨c0, c1, rfl⟩ := len2 hl
    refine (show MR _ _ _ (bmasks_product c0 c1) from ?_)
    delta bmasks_product
    show MR _ _ [some (.val c0), some (.val c1), none, none] _
    refine mr_unx2 2 3 nd rfl rfl (.inl rfl) (.inl rfl) (mx_val me_int) (mx_val me_int) (fun x1 x2 => ?_) (hw := by first | (intro _ _; rfl) | (intro v h; cases v; cases h; rfl)) (hf := fun _ => rfl)
    show MR _ _ [some (.val c0), some (.val c1), some (.val x1), some (.val x2)] _
    refine mr_while (fun (s3 : D × D) => [some (.val c0), some (.val c1), some (.val s3.1), some (.val s3.2)]) (x1, x2) (.keep (.keep (.keep (.keep .nil)))) (fun s3 => (mt_ne (me_shr (me_var 1 rfl (.inl rfl) rfl) (me_var 3 rfl (.inl rfl) rfl)) me_int)) (fun s3 => ?_) (fun s4 => ?_)
    · show MN _ _ [some (.val c0), some (.val c1), some (.val s3.1), some (.val s3.2)] _ _
      refine mn_if2 (fun (s6 : D) => [some (.val c0), some (.val c1), some (.val s6), some (.val s3.2)]) (mt_eq (me_and (me_shr (me_var 1 rfl (.inl rfl) rfl) (me_var 3 rfl (.inl rfl) rfl)) me_int) me_int) ?_ ?_ (fun s6 => ?_)
      · show MN _ _ [some (.val c0), some (.val c1), some (.val s3.1), some (.val s3.2)] _ _
        refine mn_asg 2 nd rfl (.inl rfl) (mx_val (me_xor (me_var 2 rfl (.inl rfl) rfl) (me_shl (me_var 0 rfl (.inl rfl) rfl) (me_var 3 rfl (.inl rfl) rfl)))) (fun x7 => ?_)
        show MN _ _ [some (.val c0), some (.val c1), some (.val x7), some (.val s3.2)] _ _
        exact (mn_nil (.keep (.keep (.keep (.keep .nil)))))
      · show MN _ _ [some (.val c0), some (.val c1), some (.val s3.1), some (.val s3.2)] _ _
        exact (mn_nil (.keep (.keep (.keep (.keep .nil)))))
      show MN _ _ [some (.val c0), some (.val c1), some (.val s6), some (.val s3.2)] _ _
      refine mn_asg 3 nd rfl (.inl rfl) (mx_val (me_addD (me_var 3 rfl (.inl rfl) rfl) me_int)) (fun x8 => ?_)
      show MN _ _ [some (.val c0), some (.val c1), some (.val s6), some (.val x8)] _ _
      exact (mn_nil (.keep (.keep (.keep (.keep .nil)))))
    show MR _ _ [some (.val c0), some (.val c1), some (.val s4.1), some (.val s4.2)] _
    exact (mr_ret (me_var 2 rfl (.inl rfl) rfl))
abbrev smasks_rest : Stmt := topS 9
theorem scmasks_rest : FnScope ["one", "other", "wide"] ["one", "other"] (defScope smasks_rest) := ⟨rfl, rfl, rfl, by decide +kernel, rfl, by decide +kernel, by decide +kernel⟩
def bmasks_rest (c0 c1 : D) : Wp D := bnd (bitsW (ret c1)) fun (x1 : D) => bnd (loopW (S := D) (fun (s2 : D) => bnd (op2 geI (bitsW (ret s2)) (ret x1)) boolD) (fun (s2 : D) => bnd (op2 xorI (ret s2) (op2 shlI (ret c1) (op2 subI (bitsW (ret s2)) (ret x1)))) fun (x4 : D) => ret x4) c0) fun (s3 : D) => ret s3
def fmasks_rest : List D → Wp D
  | [c0, c1] => bmasks_rest c0 c1
  | _ => nay
theorem okmasks_rest (hmasks_rest : Has K mg "masks_rest" smasks_rest) (Z : Free mg) : FnS P w K mg base "masks_rest" smasks_rest 1 false ["one", "other"] fmasks_rest := by
  obtain ⟨a, fd, gm, F⟩ := hmasks_rest
  have nd := scmasks_rest.nd
  refine fnS_of false 1 F gm scmasks_rest (F.binds (ps := ["one", "other"]) fun _ _ _ _ _ _ us hl => match us, hl with | [_, _], _ => rfl) rfl (by decide) (fun ds Q h => ?_) fun ds hl => ?_
  · unfold fmasks_rest at h; split at h; · rfl
    · exact h.elim
  · obtain ⟨c0, c1, rfl⟩ := len2 hl
    refine (show MR _ _ _ (bmasks_rest c0 c1) from ?_)
    delta bmasks_rest
    show MR _ _ [some (.val c0), some (.val c1), none] _
    refine mr_asg 2 nd rfl (.inl rfl) (mx_val (me_bits (me_var 1 rfl (.inl rfl) rfl))) (fun x1 => ?_)
    show MR _ _ [some (.val c0), some (.val c1), some (.val x1)] _
    refine mr_while (fun (s2 : D) => [some (.val s2), some (.val c1), some (.val x1)]) c0 (.keep (.keep (.keep .nil))) (fun s2 => (mt_ge (me_bits (me_var 0 rfl (.inl rfl) rfl)) (me_var 2 rfl (.inl rfl) rfl))) (fun s2 => ?_) (fun s3 => ?_)
    · show MN _ _ [some (.val s2), some (.val c1), some (.val x1)] _ _
      refine mn_asg 0 nd rfl (.inl rfl) (mx_val (me_xor (me_var 0 rfl (.inl rfl) rfl) (me_shl (me_var 1 rfl (.inl rfl) rfl) (me_sub (me_bits (me_var 0 rfl (.inl rfl) rfl)) (me_var 2 rfl (.inl rfl) rfl))))) (fun x4 => ?_)
      show MN _ _ [some (.val x4), some (.val c1), some (.val x1)] _ _
      exact (mn_nil (.keep (.keep (.keep .nil))))
    show MR _ _ [some (.val s3), some (.val c1), some (.val x1)] _
    exact (mr_ret (me_var 0 rfl (.inl rfl) rfl))
abbrev spoly_sum : Stmt := topS 10
theorem scpoly_sum : FnScope ["one", "other"] ["one", "other"] (defScope spoly_sum) := ⟨rfl, rfl, rfl, by decide +kernel, rfl, by decide +kernel, by decide +kernel⟩
def bpoly_sum (c0 c1 : D) : Wp D := bnd (consW (op2 xorI (bnd (consW (ret c0) (ret [])) fpoly_mask) (bnd (consW (ret c1) (ret [])) fpoly_mask)) (ret [])) fmask_poly
def fpoly_sum : List D → Wp D
  | [c0, c1] => bpoly_sum c0 c1
  | _ => nay
theorem okpoly_sum (hpoly_sum : Has K mg "poly_sum" spoly_sum) (Z : Free mg) (okpoly_mask : FnS P w K mg base "poly_mask" spoly_mask 1 false ["poly"] fpoly_mask) (okmask_poly : FnS P w K mg base "mask_poly" smask_poly 1 false ["mask"] fmask_poly) : FnS P w K mg base "poly_sum" spoly_sum 2 false ["one", "other"] fpoly_sum := by
  obtain ⟨a, fd, gm, F⟩ := hpoly_sum
  have nd := scpoly_sum.nd
  refine fnS_of false 0 F gm scpoly_sum (F.binds (ps := ["one", "other"]) fun _ _ _ _ _ _ us hl => match us, hl with | [_, _], _ => rfl) rfl (by decide) (fun ds Q h => ?_) fun ds hl => ?_
  · unfold fpoly_sum at h; split at h; · rfl
    · exact h.elim
  · obtain ⟨c0, c1, rfl⟩ := len2 hl
    refine (show MR _ _ _ (bpoly_sum c0 c1) from ?_)
    delta bpoly_sum
    show MR _ _ [some (.val c0), some (.val c1)] _
    exact (mr_ret (me_call okmask_poly (Nat.le_of_ble_eq_true rfl) rfl (ma_cons (me_xor (me_call okpoly_mask (Nat.le_of_ble_eq_true rfl) rfl (ma_cons (me_var 0 rfl (.inl rfl) rfl) ma_nil)) (me_call okpoly_mask (Nat.le_of_ble_eq_true rfl) rfl (ma_cons (me_var 1 rfl (.inl rfl) rfl) ma_nil))) ma_nil)))
abbrev spoly_product : Stmt := topS 11
theorem scpoly_product : FnScope ["one", "other"] ["one", "other"] (defScope spoly_product) := ⟨rfl, rfl, rfl, by decide +kernel, rfl, by decide +kernel, by decide +kernel⟩
def bpoly_product (c0 c1 : D) : Wp D := bnd (consW (bnd (consW (bnd (consW (ret c0) (ret [])) fpoly_mask) (consW (bnd (consW (ret c1) (ret [])) fpoly_mask) (ret []))) fmasks_product) (ret [])) fmask_poly
def fpoly_product : List D → Wp D
  | [c0, c1] => bpoly_product c0 c1
  | _ => nay
theorem okpoly_product (hpoly_product : Has K mg "poly_product" spoly_product) (Z : Free mg) (okpoly_mask : FnS P w K mg base "poly_mask" spoly_mask 1 false ["poly"] fpoly_mask) (okmask_poly : FnS P w K mg base "mask_poly" smask_poly 1 false ["mask"] fmask_poly) (okmasks_product : FnS P w K mg base "masks_product" smasks_product 1 false ["one", "other"] fmasks_product) : FnS P w K mg base "poly_product" spoly_product 2 false ["one", "other"] fpoly_product := by
  obtain ⟨a, fd, gm, F⟩ := hpoly_product
  have nd := scpoly_product.nd
  refine fnS_of false 0 F gm scpoly_product (F.binds (ps := ["one", "other"]) fun _ _ _ _ _ _ us hl => match us, hl with | [_, _], _ => rfl) rfl (by decide) (fun ds Q h => ?_) fun ds hl => ?_
  · unfold fpoly_product at h; split at h; · rfl
    · exact h.elim
  · obtain ⟨c0, c1, rfl⟩ := len2 hl
    refine (show MR _ _ _ (bpoly_product c0 c1) from ?_)
    delta bpoly_product
    show MR _ _ [some (.val c0), some (.val c1)] _
    exact (mr_ret (me_call okmask_poly (Nat.le_of_ble_eq_true rfl) rfl (ma_cons (me_call okmasks_product (Nat.le_of_ble_eq_true rfl) rfl (ma_cons (me_call okpoly_mask (Nat.le_of_ble_eq_true rfl) rfl (ma_cons (me_var 0 rfl (.inl rfl) rfl) ma_nil)) (ma_cons (me_call okpoly_mask (Nat.le_of_ble_eq_true rfl) rfl (ma_cons (me_var 1 rfl (.inl rfl) rfl) ma_nil)) ma_nil))) ma_nil)))
abbrev spoly_rest : Stmt := topS 12
theorem scpoly_rest : FnScope ["one", "other"] ["one", "other"] (defScope spoly_rest) := ⟨rfl, rfl, rfl, by decide +kernel, rfl, by decide +kernel, by decide +kernel⟩
def bpoly_rest (c0 c1 : D) : Wp D := bnd (bnd (op2 eqD (ret c1) (tupW (ret []))) boolD) fun t1 => ifW t1 (nay) (bnd (consW (bnd (consW (bnd (consW (ret c0) (ret [])) fpoly_mask) (consW (bnd (consW (ret c1) (ret [])) fpoly_mask) (ret []))) fmasks_rest) (ret [])) fmask_poly)
def fpoly_rest : List D → Wp D
  | [c0, c1] => bpoly_rest c0 c1
  | _ => nay
theorem okpoly_rest (hpoly_rest : Has K mg "poly_rest" spoly_rest) (Z : Free mg) (okpoly_mask : FnS P w K mg base "poly_mask" spoly_mask 1 false ["poly"] fpoly_mask) (okmask_poly : FnS P w K mg base "mask_poly" smask_poly 1 false ["mask"] fmask_poly) (okmasks_rest : FnS P w K mg base "masks_rest" smasks_rest 1 false ["one", "other"] fmasks_rest) : FnS P w K mg base "poly_rest" spoly_rest 2 false ["one", "other"] fpoly_rest := by
  obtain ⟨a, fd, gm, F⟩ := hpoly_rest
  have nd := scpoly_rest.nd
  refine fnS_of false 0 F gm scpoly_rest (F.binds (ps := ["one", "other"]) fun _ _ _ _ _ _ us hl => match us, hl with | [_, _], _ => rfl) rfl (by decide) (fun ds Q h => ?_) fun ds hl => ?_
  · unfold fpoly_rest at h; split at h; · rfl
    · exact h.elim
  · obtain ⟨c0, c1, rfl⟩ := len2 hl
    refine (show MR _ _ _ (bpoly_rest c0 c1) from ?_)
    delta bpoly_rest
    show MR _ _ [some (.val c0), some (.val c1)] _
    refine mr_ifr (mt_eq (me_var 1 rfl (.inl rfl) rfl) (me_tup ma_nil)) ?_ ?_
    · show MR _ _ [some (.val c0), some (.val c1)] _
      exact mr_nay
    show MR _ _ [some (.val c0), some (.val c1)] _
    exact (mr_ret (me_call okmask_poly (Nat.le_of_ble_eq_true rfl) rfl (ma_cons (me_call okmasks_rest (Nat.le_of_ble_eq_true rfl) rfl (ma_cons (me_call okpoly_mask (Nat.le_of_ble_eq_true rfl) rfl (ma_cons (me_var 0 rfl (.inl rfl) rfl) ma_nil)) (ma_cons (me_call okpoly_mask (Nat.le_of_ble_eq_true rfl) rfl (ma_cons (me_var 1 rfl (.inl rfl) rfl) ma_nil)) ma_nil))) ma_nil)))
abbrev spoly_divisor : Stmt := topS 13
theorem scpoly_divisor : FnScope ["one", "other", "first", "second"] ["one", "other"] (defScope spoly_divisor) := ⟨rfl, rfl, rfl, by decide +kernel, rfl, by decide +kernel, by decide +kernel⟩
def bpoly_divisor (c0 c1 : D) : Wp D := bnd (bnd (consW (ret c0) (ret [])) fpoly_mask) fun (x1 : D) => bnd (bnd (consW (ret c1) (ret [])) fpoly_mask) fun (x2 : D) => bnd (loopW (S := D × D) (fun (s3 : D × D) => bnd (op2 neD (ret s3.2) (ret (.int 0))) boolD) (fun (s3 : D × D) => bnd (ret s3.2) fun (x5 : D) => bnd (bnd (consW (ret s3.1) (consW (ret s3.2) (ret []))) fmasks_rest) fun (x6 : D) => ret (x5, x6)) (x1, x2)) fun (s4 : D × D) => bnd (consW (ret s4.1) (ret [])) fmask_poly
def fpoly_divisor : List D → Wp D
  | [c0, c1] => bpoly_divisor c0 c1
  | _ => nay
theorem okpoly_divisor (hpoly_divisor : Has K mg "poly_divisor" spoly_divisor) (Z : Free mg) (okpoly_mask : FnS P w K mg base "poly_mask" spoly_mask 1 false ["poly"] fpoly_mask) (okmask_poly : FnS P w K mg base "mask_poly" smask_poly 1 false ["mask"] fmask_poly) (okmasks_rest : FnS P w K mg base "masks_rest" smasks_rest 1 false ["one", "other"] fmasks_rest) : FnS P w K mg base "poly_divisor" spoly_divisor 2 false ["one", "other"] fpoly_divisor := by
  obtain ⟨a, fd, gm, F⟩ := hpoly_divisor
  have nd := scpoly_divisor.nd
  refine fnS_of false 2 F gm scpoly_divisor (F.binds (ps := ["one", "other"]) fun _ _ _ _ _ _ us hl => match us, hl with | [_, _], _ => rfl) rfl (by decide) (fun ds Q h => ?_) fun ds hl => ?_
  · unfold fpoly_divisor at h; split at h; · rfl
    · exact h.elim
  · obtain ⟨c0, c1, rfl⟩ := len2 hl
    refine (show MR _ _ _ (bpoly_divisor c0 c1) from ?_)
    delta bpoly_divisor
    show MR _ _ [some (.val c0), some (.val c1), none, none] _
    refine mr_par2 2 3 nd rfl rfl rfl rfl (mx_val (me_call okpoly_mask (Nat.le_of_ble_eq_true rfl) rfl (ma_cons (me_var 0 rfl (.inl rfl) rfl) ma_nil))) (mx_val (me_call okpoly_mask (Nat.le_of_ble_eq_true rfl) rfl (ma_cons (me_var 1 rfl (.inl rfl) rfl) ma_nil))) (fun x1 x2 => ?_) (hne := by decide) (hw := by first | (intro _ _; rfl) | (intro v h; cases v; cases h; rfl))
    show MR _ _ [some (.val c0), some (.val c1), some (.val x1), some (.val x2)] _
    refine mr_while (fun (s3 : D × D) => [some (.val c0), some (.val c1), some (.val s3.1), some (.val s3.2)]) (x1, x2) (.keep (.keep (.keep (.keep .nil)))) (fun s3 => (mt_ne (me_var 3 rfl (.inl rfl) rfl) me_int)) (fun s3 => ?_) (fun s4 => ?_)
    · show MN _ _ [some (.val c0), some (.val c1), some (.val s3.1), some (.val s3.2)] _ _
      refine mn_par2 2 3 nd rfl rfl rfl rfl (mx_val (me_var 3 rfl (.inl rfl) rfl)) (mx_val (me_call okmasks_rest (Nat.le_of_ble_eq_true rfl) rfl (ma_cons (me_var 2 rfl (.inl rfl) rfl) (ma_cons (me_var 3 rfl (.inl rfl) rfl) ma_nil)))) (fun x5 x6 => ?_) (hne := by decide) (hw := by first | (intro _ _; rfl) | (intro v h; cases v; cases h; rfl))
      show MN _ _ [some (.val c0), some (.val c1), some (.val x5), some (.val x6)] _ _
      exact (mn_nil (.keep (.keep (.keep (.keep .nil)))))
    show MR _ _ [some (.val c0), some (.val c1), some (.val s4.1), some (.val s4.2)] _
    exact (mr_ret (me_call okmask_poly (Nat.le_of_ble_eq_true rfl) rfl (ma_cons (me_var 2 rfl (.inl rfl) rfl) ma_nil)))
abbrev spoly_moved : Stmt := topS 14
theorem scpoly_moved : FnScope ["poly", "found", "item"] ["poly"] (defScope spoly_moved) := ⟨rfl, rfl, rfl, by decide +kernel, rfl, by decide +kernel, by decide +kernel⟩
def bpoly_moved (c0 : D) : Wp D := bnd (ret (.int 0)) fun (x1 : D) => bnd (revW (ret c0)) fun ds => bnd (forW (S := D) (fun (s2 : D) (d : D) => bnd ((PW.ret) d) fun (a4 : D) => bnd (op2 xorI (op2 xorI (op2 shlI (ret s2) (ret (.int 1))) (ret s2)) (ret a4)) fun (x5 : D) => ret x5) ds x1) fun (s3 : D) => bnd (consW (ret s3) (ret [])) fmask_poly
def fpoly_moved : List D → Wp D
  | [c0] => bpoly_moved c0
  | _ => nay
theorem okpoly_moved (hpoly_moved : Has K mg "poly_moved" spoly_moved) (Z : Free mg) (okmask_poly : FnS P w K mg base "mask_poly" smask_poly 1 false ["mask"] fmask_poly) : FnS P w K mg base "poly_moved" spoly_moved 2 false ["poly"] fpoly_moved := by
  obtain ⟨a, fd, gm, F⟩ := hpoly_moved
  have nd := scpoly_moved.nd
  refine fnS_of false 2 F gm scpoly_moved (F.binds (ps := ["poly"]) fun _ _ _ _ _ _ us hl => match us, hl with | [_], _ => rfl) rfl (by decide) (fun ds Q h => ?_) fun ds hl => ?_
  · unfold fpoly_moved at h; split at h; · rfl
    · exact h.elim
  · obtain ⟨c0, rfl⟩ := len1 hl
    refine (show MR _ _ _ (bpoly_moved c0) from ?_)
    delta bpoly_moved
    show MR _ _ [some (.val c0), none, none] _
    refine mr_asg 1 nd rfl (.inl rfl) (mx_val me_int) (fun x1 => ?_)
    show MR _ _ [some (.val c0), some (.val x1), none] _
    refine mr_for (fun (s2 : D) => [some (.val c0), some (.val s2), none]) x1 (.keep (.keep (.drop .nil))) (mi_rev rfl Z.reversed_ (me_var 0 rfl (.inl rfl) rfl)) (fun s2 => (mg_name 2 nd rfl (.inl rfl))) (fun s2 (a4 : D) => ?_) (fun s3 => ?_)
    · show MN _ _ [some (.val c0), some (.val s2), some (.val a4)] _ _
      refine mn_asg 1 nd rfl (.inl rfl) (mx_val (me_xor (me_xor (me_shl (me_var 1 rfl (.inl rfl) rfl) me_int) (me_var 1 rfl (.inl rfl) rfl)) (me_var 2 rfl (.inl rfl) rfl))) (fun x5 => ?_)
      show MN _ _ [some (.val c0), some (.val x5), some (.val a4)] _ _
      exact (mn_nil (.keep (.keep (.drop .nil))))
    show MR _ _ [some (.val c0), some (.val s3), none] _
    exact (mr_ret (me_call okmask_poly (Nat.le_of_ble_eq_true rfl) rfl (ma_cons (me_var 1 rfl (.inl rfl) rfl) ma_nil)))
abbrev slamp_poly : Stmt := topS 15
theorem sclamp_poly : FnScope ["i", "one", "other", "turn"] ["i"] (defScope slamp_poly) := ⟨rfl, rfl, rfl, by decide +kernel, rfl, by decide +kernel, by decide +kernel⟩
def blamp_poly (c0 : D) : Wp D := bnd (ret (.int 0)) fun (x1 : D) => bnd (ret (.int 1)) fun (x2 : D) => bnd (bnd (ret c0) rangeW) fun ds => bnd (forW (S := D × D) (fun (s3 : D × D) (d : D) => bnd ((PW.ret) d) fun (a5 : D) => bnd (ret s3.2) fun (x6 : D) => bnd (op2 xorI (op2 shlI (ret s3.2) (ret (.int 1))) (ret s3.1)) fun (x7 : D) => ret (x6, x7)) ds (x1, x2)) fun (s4 : D × D) => bnd (consW (ret s4.1) (ret [])) fmask_poly
def flamp_poly : List D → Wp D
  | [c0] => blamp_poly c0
  | _ => nay
theorem oklamp_poly (hlamp_poly : Has K mg "lamp_poly" slamp_poly) (Z : Free mg) (okmask_poly : FnS P w K mg base "mask_poly" smask_poly 1 false ["mask"] fmask_poly) : FnS P w K mg base "lamp_poly" slamp_poly 2 false ["i"] flamp_poly := by
  obtain ⟨a, fd, gm, F⟩ := hlamp_poly
  have nd := sclamp_poly.nd
  refine fnS_of false 3 F gm sclamp_poly (F.binds (ps := ["i"]) fun _ _ _ _ _ _ us hl => match us, hl with | [_], _ => rfl) rfl (by decide) (fun ds Q h => ?_) fun ds hl => ?_
  · unfold flamp_poly at h; split at h; · rfl
    · exact h.elim
  · obtain ⟨c0, rfl⟩ := len1 hl
    refine (show MR _ _ _ (blamp_poly c0) from ?_)
    delta blamp_poly
    show MR _ _ [some (.val c0), none, none, none] _
    refine mr_unx2 1 2 nd rfl rfl (.inl rfl) (.inl rfl) (mx_val me_int) (mx_val me_int) (fun x1 x2 => ?_) (hw := by first | (intro _ _; rfl) | (intro v h; cases v; cases h; rfl)) (hf := fun _ => rfl)
    show MR _ _ [some (.val c0), some (.val x1), some (.val x2), none] _
    refine mr_for (fun (s3 : D × D) => [some (.val c0), some (.val s3.1), some (.val s3.2), none]) (x1, x2) (.keep (.keep (.keep (.drop .nil)))) (mi_range rfl Z.range_ (me_var 0 rfl (.inl rfl) rfl)) (fun s3 => (mg_name 3 nd rfl (.inl rfl))) (fun s3 (a5 : D) => ?_) (fun s4 => ?_)
    · show MN _ _ [some (.val c0), some (.val s3.1), some (.val s3.2), some (.val a5)] _ _
      refine mn_par2 1 2 nd rfl rfl rfl rfl (mx_val (me_var 2 rfl (.inl rfl) rfl)) (mx_val (me_xor (me_shl (me_var 2 rfl (.inl rfl) rfl) me_int) (me_var 1 rfl (.inl rfl) rfl))) (fun x6 x7 => ?_) (hne := by decide) (hw := by first | (intro _ _; rfl) | (intro v h; cases v; cases h; rfl))
      show MN _ _ [some (.val c0), some (.val x6), some (.val x7), some (.val a5)] _ _
      exact (mn_nil (.keep (.keep (.keep (.drop .nil)))))
    show MR _ _ [some (.val c0), some (.val s4.1), some (.val s4.2), none] _
    exact (mr_ret (me_call okmask_poly (Nat.le_of_ble_eq_true rfl) rfl (ma_cons (me_var 1 rfl (.inl rfl) rfl) ma_nil)))
abbrev s_law_pick : Stmt := topS 19
theorem sc_law_pick : FnScope ["bag", "some"] ["bag", "some"] (defScope s_law_pick) := ⟨rfl, rfl, rfl, by decide +kernel, rfl, by decide +kernel, by decide +kernel⟩
def b_law_pick (c0 : D) : Wp D := atW (bnd (ret c0) seqD) (bnd (consW (lenW (bnd (ret c0) seqD)) (ret [])) drawF)
def f_law_pick : List D → Wp D
  | [c0] => b_law_pick c0
  | _ => nay
theorem ok_law_pick (h_law_pick : Has K mg "_law_pick" s_law_pick) (Z : Free mg) (ok_law_draw : FnS P w K mg base "_law_draw" s_law_draw 1 true ["bag", "below"] drawF) : FnS P w K mg base "_law_pick" s_law_pick 2 true ["bag", "some"] f_law_pick := by
  obtain ⟨a, fd, gm, F⟩ := h_law_pick
  have nd := sc_law_pick.nd
  refine fnS_of true 0 F gm sc_law_pick (F.binds (ps := ["bag", "some"]) fun _ _ _ _ _ _ us hl => match us, hl with | [_, _], _ => rfl) rfl (by decide) (fun ds Q h => ?_) fun ds hl => ?_
  · unfold f_law_pick at h; split at h; · rfl
    · exact h.elim
  · obtain ⟨c0, rfl⟩ := len1 hl
    refine (show MR _ _ _ (b_law_pick c0) from ?_)
    delta b_law_pick
    show MR _ _ [some .bag, some (.val c0)] _
    exact (mr_ret (me_ix (mq_val (me_var 1 rfl (.inl rfl) rfl)) (me_callB ok_law_draw 0 (Nat.le_of_ble_eq_true rfl) rfl rfl (.inl rfl) rfl (by decide) (ma_cons (me_len rfl Z.len_ (mq_val (me_var 1 rfl (.inl rfl) rfl))) ma_nil))))
abbrev s_law_same : Stmt := topS 20
theorem sc_law_same : FnScope ["told", "due"] ["told", "due"] (defScope s_law_same) := ⟨rfl, rfl, rfl, by decide +kernel, rfl, by decide +kernel, by decide +kernel⟩
def b_law_same (c0 c1 : D) : Wp D := andW (op2 eqD (ret c0) (ret c1)) (op2 eqD (bnd (ret c0) reprW) (bnd (ret c1) reprW))
def f_law_same : List D → Wp D
  | [c0, c1] => b_law_same c0 c1
  | _ => nay
theorem ok_law_same (h_law_same : Has K mg "_law_same" s_law_same) (Z : Free mg) : FnS P w K mg base "_law_same" s_law_same 1 false ["told", "due"] f_law_same := by
  obtain ⟨a, fd, gm, F⟩ := h_law_same
  have nd := sc_law_same.nd
  refine fnS_of false 0 F gm sc_law_same (F.binds (ps := ["told", "due"]) fun _ _ _ _ _ _ us hl => match us, hl with | [_, _], _ => rfl) rfl (by decide) (fun ds Q h => ?_) fun ds hl => ?_
  · unfold f_law_same at h; split at h; · rfl
    · exact h.elim
  · obtain ⟨c0, c1, rfl⟩ := len2 hl
    refine (show MR _ _ _ (b_law_same c0 c1) from ?_)
    delta b_law_same
    show MR _ _ [some (.val c0), some (.val c1)] _
    exact (mr_ret (me_andB (me_eq (me_var 0 rfl (.inl rfl) rfl) (me_var 1 rfl (.inl rfl) rfl)) (me_one (me_eq (me_repr rfl Z.repr_ (me_var 0 rfl (.inl rfl) rfl)) (me_repr rfl Z.repr_ (me_var 1 rfl (.inl rfl) rfl))))))
abbrev s_law_agree : Stmt := topS 21
theorem sc_law_agree : FnScope ["rows", "row"] ["rows"] (defScope s_law_agree) := ⟨rfl, rfl, rfl, by decide +kernel, rfl, by decide +kernel, by decide +kernel⟩
def b_law_agree (c0 : D) : Wp D := allW (comp0 (bnd (ret c0) seqD) (PW.ret) (fun (a1 : D) => bnd (consW (atW (bnd (ret a1) seqD) (ret (.int 0))) (consW (atW (bnd (ret a1) seqD) (ret (.int 1))) (ret []))) f_law_same))
def f_law_agree : List D → Wp D
  | [c0] => b_law_agree c0
  | _ => nay
theorem ok_law_agree (h_law_agree : Has K mg "_law_agree" s_law_agree) (Z : Free mg) (ok_law_same : FnS P w K mg base "_law_same" s_law_same 1 false ["told", "due"] f_law_same) : FnS P w K mg base "_law_agree" s_law_agree 2 false ["rows"] f_law_agree := by
  obtain ⟨a, fd, gm, F⟩ := h_law_agree
  have nd := sc_law_agree.nd
  refine fnS_of false 1 F gm sc_law_agree (F.binds (ps := ["rows"]) fun _ _ _ _ _ _ us hl => match us, hl with | [_], _ => rfl) rfl (by decide) (fun ds Q h => ?_) fun ds hl => ?_
  · unfold f_law_agree at h; split at h; · rfl
    · exact h.elim
  · obtain ⟨c0, rfl⟩ := len1 hl
    refine (show MR _ _ _ (b_law_agree c0) from ?_)
    delta b_law_agree
    show MR _ _ [some (.val c0), none] _
    exact (mr_ret (me_all rfl Z.all_ (mf_lc0 [("row", 1)] nd (by dsimp only [blkG]; decide +kernel) (mi_val (me_var 0 rfl (.inl rfl) rfl)) (mg_name 1 nd rfl (.inl rfl)) (fun (a1 : D) => (me_call ok_law_same (Nat.le_of_ble_eq_true rfl) rfl (ma_cons (me_ix (mq_val (me_var 1 rfl (.inl rfl) rfl)) me_int) (ma_cons (me_ix (mq_val (me_var 1 rfl (.inl rfl) rfl)) me_int) ma_nil)))))))
abbrev s_law_poly : Stmt := topS 22
theorem sc_law_poly : FnScope ["mask", "place"] ["mask"] (defScope s_law_poly) := ⟨rfl, rfl, rfl, by decide +kernel, rfl, by decide +kernel, by decide +kernel⟩
def b_law_poly (c0 : D) : Wp D := tuW (comp1 (bnd (ret (.int 300)) rangeW) (PW.ret) (fun (a1 : D) => bnd (op2 gtI (op2 shrI (ret c0) (ret a1)) (ret (.int 0))) boolD) (fun (a1 : D) => op2 andI (op2 shrI (ret c0) (ret a1)) (ret (.int 1))))
def f_law_poly : List D → Wp D
  | [c0] => b_law_poly c0
  | _ => nay
theorem ok_law_poly (h_law_poly : Has K mg "_law_poly" s_law_poly) (Z : Free mg) : FnS P w K mg base "_law_poly" s_law_poly 1 false ["mask"] f_law_poly := by
  obtain ⟨a, fd, gm, F⟩ := h_law_poly
  have nd := sc_law_poly.nd
  refine fnS_of false 1 F gm sc_law_poly (F.binds (ps := ["mask"]) fun _ _ _ _ _ _ us hl => match us, hl with | [_], _ => rfl) rfl (by decide) (fun ds Q h => ?_) fun ds hl => ?_
  · unfold f_law_poly at h; split at h; · rfl
    · exact h.elim
  · obtain ⟨c0, rfl⟩ := len1 hl
    refine (show MR _ _ _ (b_law_poly c0) from ?_)
    delta b_law_poly
    show MR _ _ [some (.val c0), none] _
    exact (mr_ret (me_tuple rfl Z.tuple_ (mq_new (mf_lc1 [("place", 1)] nd (by dsimp only [blkG]; decide +kernel) (mi_range rfl Z.range_ me_int) (mg_name 1 nd rfl (.inl rfl)) (fun (a1 : D) => (mt_gt (me_shr (me_var 0 rfl (.inr (.inl rfl)) rfl) (me_var 1 rfl (.inl rfl) rfl)) me_int)) (fun (a1 : D) => (me_and (me_shr (me_var 0 rfl (.inr (.inl rfl)) rfl) (me_var 1 rfl (.inl rfl) rfl)) me_int))))))
abbrev s_law_times : Stmt := topS 23
theorem sc_law_times : FnScope ["one", "other", "found", "place"] ["one", "other"] (defScope s_law_times) := ⟨rfl, rfl, rfl, by decide +kernel, rfl, by decide +kernel, by decide +kernel⟩
def b_law_times (c0 c1 : D) : Wp D := bnd (ret (.int 0)) fun (x1 : D) => bnd (bnd (ret (.int 140)) rangeW) fun ds => bnd (forW (S := D) (fun (s2 : D) (d : D) => bnd ((PW.ret) d) fun (a4 : D) => bnd (bnd (op2 eqD (op2 andI (op2 shrI (ret c1) (ret a4)) (ret (.int 1))) (ret (.int 1))) boolD) fun t5 => bnd (ifW t5 (bnd (op2 xorI (ret s2) (op2 shlI (ret c0) (ret a4))) fun (x7 : D) => ret x7) (ret s2)) fun (s6 : D) => ret s6) ds x1) fun (s3 : D) => ret s3
def f_law_times : List D → Wp D
  | [c0, c1] => b_law_times c0 c1
  | _ => nay
theorem ok_law_times (h_law_times : Has K mg "_law_times" s_law_times) (Z : Free mg) : FnS P w K mg base "_law_times" s_law_times 1 false ["one", "other"] f_law_times := by
  obtain ⟨a, fd, gm, F⟩ := h_law_times
  have nd := sc_law_times.nd
  refine fnS_of false 2 F gm sc_law_times (F.binds (ps := ["one", "other"]) fun _ _ _ _ _ _ us hl => match us, hl with | [_, _], _ => rfl) rfl (by decide) (fun ds Q h => ?_) fun ds hl => ?_
  · unfold f_law_times at h; split at h; · rfl
    · exact h.elim
  · obtain ⟨c0, c1, rfl⟩ := len2 hl
    refine (show MR _ _ _ (b_law_times c0 c1) from ?_)
    delta b_law_times
    show MR _ _ [some (.val c0), some (.val c1), none, none] _
    refine mr_asg 2 nd rfl (.inl rfl) (mx_val me_int) (fun x1 => ?_)
    show MR _ _ [some (.val c0), some (.val c1), some (.val x1), none] _
    refine mr_for (fun (s2 : D) => [some (.val c0), some (.val c1), some (.val s2), none]) x1 (.keep (.keep (.keep (.drop .nil)))) (mi_range rfl Z.range_ me_int) (fun s2 => (mg_name 3 nd rfl (.inl rfl))) (fun s2 (a4 : D) => ?_) (fun s3 => ?_)
    · show MN _ _ [some (.val c0), some (.val c1), some (.val s2), some (.val a4)] _ _
      refine mn_if2 (fun (s6 : D) => [some (.val c0), some (.val c1), some (.val s6), some (.val a4)]) (mt_eq (me_and (me_shr (me_var 1 rfl (.inl rfl) rfl) (me_var 3 rfl (.inl rfl) rfl)) me_int) me_int) ?_ ?_ (fun s6 => ?_)
      · show MN _ _ [some (.val c0), some (.val c1), some (.val s2), some (.val a4)] _ _
        refine mn_asg 2 nd rfl (.inl rfl) (mx_val (me_xor (me_var 2 rfl (.inl rfl) rfl) (me_shl (me_var 0 rfl (.inl rfl) rfl) (me_var 3 rfl (.inl rfl) rfl)))) (fun x7 => ?_)
        show MN _ _ [some (.val c0), some (.val c1), some (.val x7), some (.val a4)] _ _
        exact (mn_nil (.keep (.keep (.keep (.keep .nil)))))
      · show MN _ _ [some (.val c0), some (.val c1), some (.val s2), some (.val a4)] _ _
        exact (mn_nil (.keep (.keep (.keep (.keep .nil)))))
      show MN _ _ [some (.val c0), some (.val c1), some (.val s6), some (.val a4)] _ _
      exact (mn_nil (.keep (.keep (.keep (.drop .nil)))))
    show MR _ _ [some (.val c0), some (.val c1), some (.val s3), none] _
    exact (mr_ret (me_var 2 rfl (.inl rfl) rfl))
abbrev s_law_degree : Stmt := topS 24
theorem sc_law_degree : FnScope ["mask"] ["mask"] (defScope s_law_degree) := ⟨rfl, rfl, rfl, by decide +kernel, rfl, by decide +kernel, by decide +kernel⟩
def b_law_degree (c0 : D) : Wp D := op2 subI (bitsW (ret c0)) (ret (.int 1))
def f_law_degree : List D → Wp D
  | [c0] => b_law_degree c0
  | _ => nay
theorem ok_law_degree (h_law_degree : Has K mg "_law_degree" s_law_degree) (Z : Free mg) : FnS P w K mg base "_law_degree" s_law_degree 1 false ["mask"] f_law_degree := by
  obtain ⟨a, fd, gm, F⟩ := h_law_degree
  have nd := sc_law_degree.nd
  refine fnS_of false 0 F gm sc_law_degree (F.binds (ps := ["mask"]) fun _ _ _ _ _ _ us hl => match us, hl with | [_], _ => rfl) rfl (by decide) (fun ds Q h => ?_) fun ds hl => ?_
  · unfold f_law_degree at h; split at h; · rfl
    · exact h.elim
  · obtain ⟨c0, rfl⟩ := len1 hl
    refine (show MR _ _ _ (b_law_degree c0) from ?_)
    delta b_law_degree
    show MR _ _ [some (.val c0)] _
    exact (mr_ret (me_sub (me_bits (me_var 0 rfl (.inl rfl) rfl)) me_int))
abbrev s_law_rest : Stmt := topS 25
theorem sc_law_rest : FnScope ["one", "other"] ["one", "other"] (defScope s_law_rest) := ⟨rfl, rfl, rfl, by decide +kernel, rfl, by decide +kernel, by decide +kernel⟩
def b_law_rest (c0 c1 : D) : Wp D := bnd (loopW (S := D) (fun (s1 : D) => bnd (op2 geI (ret s1) (op2 shlI (ret (.int 1)) (bnd (consW (ret c1) (ret [])) f_law_degree))) boolD) (fun (s1 : D) => bnd (op2 xorI (ret s1) (op2 shlI (ret c1) (op2 subI (bnd (consW (ret s1) (ret [])) f_law_degree) (bnd (consW (ret c1) (ret [])) f_law_degree)))) fun (x3 : D) => ret x3) c0) fun (s2 : D) => ret s2
def f_law_rest : List D → Wp D
  | [c0, c1] => b_law_rest c0 c1
  | _ => nay
theorem ok_law_rest (h_law_rest : Has K mg "_law_rest" s_law_rest) (Z : Free mg) (ok_law_degree : FnS P w K mg base "_law_degree" s_law_degree 1 false ["mask"] f_law_degree) : FnS P w K mg base "_law_rest" s_law_rest 2 false ["one", "other"] f_law_rest := by
  obtain ⟨a, fd, gm, F⟩ := h_law_rest
  have nd := sc_law_rest.nd
  refine fnS_of false 0 F gm sc_law_rest (F.binds (ps := ["one", "other"]) fun _ _ _ _ _ _ us hl => match us, hl with | [_, _], _ => rfl) rfl (by decide) (fun ds Q h => ?_) fun ds hl => ?_
  · unfold f_law_rest at h; split at h; · rfl
    · exact h.elim
  · obtain ⟨c0, c1, rfl⟩ := len2 hl
    refine (show MR _ _ _ (b_law_rest c0 c1) from ?_)
    delta b_law_rest
    show MR _ _ [some (.val c0), some (.val c1)] _
    refine mr_while (fun (s1 : D) => [some (.val s1), some (.val c1)]) c0 (.keep (.keep .nil)) (fun s1 => (mt_ge (me_var 0 rfl (.inl rfl) rfl) (me_shl me_int (me_call ok_law_degree (Nat.le_of_ble_eq_true rfl) rfl (ma_cons (me_var 1 rfl (.inl rfl) rfl) ma_nil))))) (fun s1 => ?_) (fun s2 => ?_)
    · show MN _ _ [some (.val s1), some (.val c1)] _ _
      refine mn_asg 0 nd rfl (.inl rfl) (mx_val (me_xor (me_var 0 rfl (.inl rfl) rfl) (me_shl (me_var 1 rfl (.inl rfl) rfl) (me_sub (me_call ok_law_degree (Nat.le_of_ble_eq_true rfl) rfl (ma_cons (me_var 0 rfl (.inl rfl) rfl) ma_nil)) (me_call ok_law_degree (Nat.le_of_ble_eq_true rfl) rfl (ma_cons (me_var 1 rfl (.inl rfl) rfl) ma_nil)))))) (fun x3 => ?_)
      show MN _ _ [some (.val x3), some (.val c1)] _ _
      exact (mn_nil (.keep (.keep .nil)))
    show MR _ _ [some (.val s2), some (.val c1)] _
    exact (mr_ret (me_var 0 rfl (.inl rfl) rfl))
abbrev s_law_divisor : Stmt := topS 26
theorem sc_law_divisor : FnScope ["one", "other"] ["one", "other"] (defScope s_law_divisor) := ⟨rfl, rfl, rfl, by decide +kernel, rfl, by decide +kernel, by decide +kernel⟩
def b_law_divisor (c0 c1 : D) : Wp D := bnd (loopW (S := D × D) (fun (s1 : D × D) => bnd (op2 gtI (ret s1.2) (ret (.int 0))) boolD) (fun (s1 : D × D) => bnd (ret s1.2) fun (x3 : D) => bnd (bnd (consW (ret s1.1) (consW (ret s1.2) (ret []))) f_law_rest) fun (x4 : D) => ret (x3, x4)) (c0, c1)) fun (s2 : D × D) => ret s2.1
def f_law_divisor : List D → Wp D
  | [c0, c1] => b_law_divisor c0 c1
  | _ => nay
theorem ok_law_divisor (h_law_divisor : Has K mg "_law_divisor" s_law_divisor) (Z : Free mg) (ok_law_rest : FnS P w K mg base "_law_rest" s_law_rest 2 false ["one", "other"] f_law_rest) : FnS P w K mg base "_law_divisor" s_law_divisor 3 false ["one", "other"] f_law_divisor := by
  obtain ⟨a, fd, gm, F⟩ := h_law_divisor
  have nd := sc_law_divisor.nd
  refine fnS_of false 0 F gm sc_law_divisor (F.binds (ps := ["one", "other"]) fun _ _ _ _ _ _ us hl => match us, hl with | [_, _], _ => rfl) rfl (by decide) (fun ds Q h => ?_) fun ds hl => ?_
  · unfold f_law_divisor at h; split at h; · rfl
    · exact h.elim
  · obtain ⟨c0, c1, rfl⟩ := len2 hl
    refine (show MR _ _ _ (b_law_divisor c0 c1) from ?_)
    delta b_law_divisor
    show MR _ _ [some (.val c0), some (.val c1)] _
    refine mr_while (fun (s1 : D × D) => [some (.val s1.1), some (.val s1.2)]) (c0, c1) (.keep (.keep .nil)) (fun s1 => (mt_gt (me_var 1 rfl (.inl rfl) rfl) me_int)) (fun s1 => ?_) (fun s2 => ?_)
    · show MN _ _ [some (.val s1.1), some (.val s1.2)] _ _
      refine mn_par2 0 1 nd rfl rfl rfl rfl (mx_val (me_var 1 rfl (.inl rfl) rfl)) (mx_val (me_call ok_law_rest (Nat.le_of_ble_eq_true rfl) rfl (ma_cons (me_var 0 rfl (.inl rfl) rfl) (ma_cons (me_var 1 rfl (.inl rfl) rfl) ma_nil)))) (fun x3 x4 => ?_) (hne := by decide) (hw := by first | (intro _ _; rfl) | (intro v h; cases v; cases h; rfl))
      show MN _ _ [some (.val x3), some (.val x4)] _ _
      exact (mn_nil (.keep (.keep .nil)))
    show MR _ _ [some (.val s2.1), some (.val s2.2)] _
    exact (mr_ret (me_var 0 rfl (.inl rfl) rfl))
abbrev s_law_moved : Stmt := topS 27
theorem sc_law_moved : FnScope ["mask", "found", "place"] ["mask"] (defScope s_law_moved) := ⟨rfl, rfl, rfl, by decide +kernel, rfl, by decide +kernel, by decide +kernel⟩
def b_law_moved (c0 : D) : Wp D := bnd (ret (.int 0)) fun (x1 : D) => bnd (bnd (op2 addD (bnd (consW (ret c0) (ret [])) f_law_degree) (ret (.int 1))) rangeW) fun ds => bnd (forW (S := D) (fun (s2 : D) (d : D) => bnd ((PW.ret) d) fun (a4 : D) => bnd (op2 xorI (op2 xorI (op2 shlI (ret s2) (ret (.int 1))) (ret s2)) (op2 andI (op2 shrI (ret c0) (op2 subI (bnd (consW (ret c0) (ret [])) f_law_degree) (ret a4))) (ret (.int 1)))) fun (x5 : D) => ret x5) ds x1) fun (s3 : D) => ret s3
def f_law_moved : List D → Wp D
  | [c0] => b_law_moved c0
  | _ => nay
theorem ok_law_moved (h_law_moved : Has K mg "_law_moved" s_law_moved) (Z : Free mg) (ok_law_degree : FnS P w K mg base "_law_degree" s_law_degree 1 false ["mask"] f_law_degree) : FnS P w K mg base "_law_moved" s_law_moved 2 false ["mask"] f_law_moved := by
  obtain ⟨a, fd, gm, F⟩ := h_law_moved
  have nd := sc_law_moved.nd
  refine fnS_of false 2 F gm sc_law_moved (F.binds (ps := ["mask"]) fun _ _ _ _ _ _ us hl => match us, hl with | [_], _ => rfl) rfl (by decide) (fun ds Q h => ?_) fun ds hl => ?_
  · unfold f_law_moved at h; split at h; · rfl
    · exact h.elim
  · obtain ⟨c0, rfl⟩ := len1 hl
    refine (show MR _ _ _ (b_law_moved c0) from ?_)
    delta b_law_moved
    show MR _ _ [some (.val c0), none, none] _
    refine mr_asg 1 nd rfl (.inl rfl) (mx_val me_int) (fun x1 => ?_)
    show MR _ _ [some (.val c0), some (.val x1), none] _
    refine mr_for (fun (s2 : D) => [some (.val c0), some (.val s2), none]) x1 (.keep (.keep (.drop .nil))) (mi_range rfl Z.range_ (me_addD (me_call ok_law_degree (Nat.le_of_ble_eq_true rfl) rfl (ma_cons (me_var 0 rfl (.inl rfl) rfl) ma_nil)) me_int)) (fun s2 => (mg_name 2 nd rfl (.inl rfl))) (fun s2 (a4 : D) => ?_) (fun s3 => ?_)
    · show MN _ _ [some (.val c0), some (.val s2), some (.val a4)] _ _
      refine mn_asg 1 nd rfl (.inl rfl) (mx_val (me_xor (me_xor (me_shl (me_var 1 rfl (.inl rfl) rfl) me_int) (me_var 1 rfl (.inl rfl) rfl)) (me_and (me_shr (me_var 0 rfl (.inl rfl) rfl) (me_sub (me_call ok_law_degree (Nat.le_of_ble_eq_true rfl) rfl (ma_cons (me_var 0 rfl (.inl rfl) rfl) ma_nil)) (me_var 2 rfl (.inl rfl) rfl))) me_int))) (fun x5 => ?_)
      show MN _ _ [some (.val c0), some (.val x5), some (.val a4)] _ _
      exact (mn_nil (.keep (.keep (.drop .nil))))
    show MR _ _ [some (.val c0), some (.val s3), none] _
    exact (mr_ret (me_var 1 rfl (.inl rfl) rfl))
abbrev s_law_lamp : Stmt := topS 28
theorem sc_law_lamp : FnScope ["i", "one", "other", "turn"] ["i"] (defScope s_law_lamp) := ⟨rfl, rfl, rfl, by decide +kernel, rfl, by decide +kernel, by decide +kernel⟩
def b_law_lamp (c0 : D) : Wp D := bnd (ret (.int 0)) fun (x1 : D) => bnd (ret (.int 1)) fun (x2 : D) => bnd (bnd (ret c0) rangeW) fun ds => bnd (forW (S := D × D) (fun (s3 : D × D) (d : D) => bnd ((PW.ret) d) fun (a5 : D) => bnd (ret s3.2) fun (x6 : D) => bnd (op2 xorI (op2 shlI (ret s3.2) (ret (.int 1))) (ret s3.1)) fun (x7 : D) => ret (x6, x7)) ds (x1, x2)) fun (s4 : D × D) => ret s4.1
def f_law_lamp : List D → Wp D
  | [c0] => b_law_lamp c0
  | _ => nay
theorem ok_law_lamp (h_law_lamp : Has K mg "_law_lamp" s_law_lamp) (Z : Free mg) : FnS P w K mg base "_law_lamp" s_law_lamp 1 false ["i"] f_law_lamp := by
  obtain ⟨a, fd, gm, F⟩ := h_law_lamp
  have nd := sc_law_lamp.nd
  refine fnS_of false 3 F gm sc_law_lamp (F.binds (ps := ["i"]) fun _ _ _ _ _ _ us hl => match us, hl with | [_], _ => rfl) rfl (by decide) (fun ds Q h => ?_) fun ds hl => ?_
  · unfold f_law_lamp at h; split at h; · rfl
    · exact h.elim
  · obtain ⟨c0, rfl⟩ := len1 hl
    refine (show MR _ _ _ (b_law_lamp c0) from ?_)
    delta b_law_lamp
    show MR _ _ [some (.val c0), none, none, none] _
    refine mr_unx2 1 2 nd rfl rfl (.inl rfl) (.inl rfl) (mx_val me_int) (mx_val me_int) (fun x1 x2 => ?_) (hw := by first | (intro _ _; rfl) | (intro v h; cases v; cases h; rfl)) (hf := fun _ => rfl)
    show MR _ _ [some (.val c0), some (.val x1), some (.val x2), none] _
    refine mr_for (fun (s3 : D × D) => [some (.val c0), some (.val s3.1), some (.val s3.2), none]) (x1, x2) (.keep (.keep (.keep (.drop .nil)))) (mi_range rfl Z.range_ (me_var 0 rfl (.inl rfl) rfl)) (fun s3 => (mg_name 3 nd rfl (.inl rfl))) (fun s3 (a5 : D) => ?_) (fun s4 => ?_)
    · show MN _ _ [some (.val c0), some (.val s3.1), some (.val s3.2), some (.val a5)] _ _
      refine mn_par2 1 2 nd rfl rfl rfl rfl (mx_val (me_var 2 rfl (.inl rfl) rfl)) (mx_val (me_xor (me_shl (me_var 2 rfl (.inl rfl) rfl) me_int) (me_var 1 rfl (.inl rfl) rfl))) (fun x6 x7 => ?_) (hne := by decide) (hw := by first | (intro _ _; rfl) | (intro v h; cases v; cases h; rfl))
      show MN _ _ [some (.val c0), some (.val x6), some (.val x7), some (.val a5)] _ _
      exact (mn_nil (.keep (.keep (.keep (.drop .nil)))))
    show MR _ _ [some (.val c0), some (.val s4.1), some (.val s4.2), none] _
    exact (mr_ret (me_var 1 rfl (.inl rfl) rfl))
abbrev s_law_gcd : Stmt := topS 29
theorem sc_law_gcd : FnScope ["a", "b"] ["a", "b"] (defScope s_law_gcd) := ⟨rfl, rfl, rfl, by decide +kernel, rfl, by decide +kernel, by decide +kernel⟩
def b_law_gcd (c0 c1 : D) : Wp D := bnd (loopW (S := D × D) (fun (s1 : D × D) => bnd (op2 gtI (ret s1.2) (ret (.int 0))) boolD) (fun (s1 : D × D) => bnd (ret s1.2) fun (x3 : D) => bnd (op2 modI (bnd (ret s1.1) toInt) (ret s1.2)) fun (x4 : D) => ret (x3, x4)) (c0, c1)) fun (s2 : D × D) => ret s2.1
def f_law_gcd : List D → Wp D
  | [c0, c1] => b_law_gcd c0 c1
  | _ => nay
theorem ok_law_gcd (h_law_gcd : Has K mg "_law_gcd" s_law_gcd) (Z : Free mg) : FnS P w K mg base "_law_gcd" s_law_gcd 1 false ["a", "b"] f_law_gcd := by
  obtain ⟨a, fd, gm, F⟩ := h_law_gcd
  have nd := sc_law_gcd.nd
  refine fnS_of false 0 F gm sc_law_gcd (F.binds (ps := ["a", "b"]) fun _ _ _ _ _ _ us hl => match us, hl with | [_, _], _ => rfl) rfl (by decide) (fun ds Q h => ?_) fun ds hl => ?_
  · unfold f_law_gcd at h; split at h; · rfl
    · exact h.elim
  · obtain ⟨c0, c1, rfl⟩ := len2 hl
    refine (show MR _ _ _ (b_law_gcd c0 c1) from ?_)
    delta b_law_gcd
    show MR _ _ [some (.val c0), some (.val c1)] _
    refine mr_while (fun (s1 : D × D) => [some (.val s1.1), some (.val s1.2)]) (c0, c1) (.keep (.keep .nil)) (fun s1 => (mt_gt (me_var 1 rfl (.inl rfl) rfl) me_int)) (fun s1 => ?_) (fun s2 => ?_)
    · show MN _ _ [some (.val s1.1), some (.val s1.2)] _ _
      refine mn_par2 0 1 nd rfl rfl rfl rfl (mx_val (me_var 1 rfl (.inl rfl) rfl)) (mx_val (me_mod (me_toInt rfl Z.int_ (me_var 0 rfl (.inl rfl) rfl)) (me_var 1 rfl (.inl rfl) rfl))) (fun x3 x4 => ?_) (hne := by decide) (hw := by first | (intro _ _; rfl) | (intro v h; cases v; cases h; rfl))
      show MN _ _ [some (.val x3), some (.val x4)] _ _
      exact (mn_nil (.keep (.keep .nil)))
    show MR _ _ [some (.val s2.1), some (.val s2.2)] _
    exact (mr_ret (me_var 0 rfl (.inl rfl) rfl))
abbrev s_law_is_odd : Stmt := topS 30
theorem sc_law_is_odd : FnScope ["n", "k"] ["n", "k"] (defScope s_law_is_odd) := ⟨rfl, rfl, rfl, by decide +kernel, rfl, by decide +kernel, by decide +kernel⟩
def b_law_is_odd (c0 c1 : D) : Wp D := op2 eqD (op2 andI (ret c0) (ret c1)) (ret c1)
def f_law_is_odd : List D → Wp D
  | [c0, c1] => b_law_is_odd c0 c1
  | _ => nay
theorem ok_law_is_odd (h_law_is_odd : Has K mg "_law_is_odd" s_law_is_odd) (Z : Free mg) : FnS P w K mg base "_law_is_odd" s_law_is_odd 1 false ["n", "k"] f_law_is_odd := by
  obtain ⟨a, fd, gm, F⟩ := h_law_is_odd
  have nd := sc_law_is_odd.nd
  refine fnS_of false 0 F gm sc_law_is_odd (F.binds (ps := ["n", "k"]) fun _ _ _ _ _ _ us hl => match us, hl with | [_, _], _ => rfl) rfl (by decide) (fun ds Q h => ?_) fun ds hl => ?_
  · unfold f_law_is_odd at h; split at h; · rfl
    · exact h.elim
  · obtain ⟨c0, c1, rfl⟩ := len2 hl
    refine (show MR _ _ _ (b_law_is_odd c0 c1) from ?_)
    delta b_law_is_odd
    show MR _ _ [some (.val c0), some (.val c1)] _
    exact (mr_ret (me_eq (me_and (me_var 0 rfl (.inl rfl) rfl) (me_var 1 rfl (.inl rfl) rfl)) (me_var 1 rfl (.inl rfl) rfl)))
abbrev s_law_are_lamps_right : Stmt := topS 31
theorem sc_law_are_lamps_right : FnScope ["bag", "turn", "i", "told", "is_named", "k", "place", "due", "odd"] ["bag"] (defScope s_law_are_lamps_right) := ⟨rfl, rfl, rfl, by decide +kernel, rfl, by decide +kernel, by decide +kernel⟩
def b_law_are_lamps_right : Wp D := bnd (bnd (ret (.int 4)) rangeW) fun ds => bnd (forF (S := Unit) (fun (s1 : Unit) (d : D) => bnd ((PW.ret) d) fun (a3 : D) => bnd (bnd (consW (bnd (lstW (consW (bnd (consW (ret (.int 66)) (ret [])) drawF) (consW (bnd (consW (ret (.int 20)) (ret [])) drawF) (consW (ret (.int 64)) (consW (ret (.int 65)) (consW (ret (.int 0)) (consW (ret (.int 1)) (consW (op2 shlI (ret (.int 1)) (bnd (consW (ret (.int 7)) (ret [])) drawF)) (ret []))))))))) fun ds => ret (.list ds)) (ret [])) f_law_pick) fun (x4 : D) => bnd (bnd (consW (ret x4) (ret [])) flamp_poly) fun (x5 : D) => bnd (op2 eqD (bnd (consW (ret (.int 2)) (ret [])) drawF) (ret (.int 0))) fun (x6 : D) => bnd (tnot (bnd (bnd (consW (bnd (lstW (consW (bnd (lstW (consW (ret x5) (consW (bnd (consW (bnd (consW (ret x4) (ret [])) f_law_lamp) (ret [])) f_law_poly) (ret [])))) fun ds => ret (.list ds)) (consW (bnd (lstW (consW (bnd (consW (ret x4) (ret [])) fun ds => flamp_poly (perm 0 1 [0] [] ds)) (consW (ret x5) (ret [])))) fun ds => ret (.list ds)) (ret [])))) fun ds => ret (.list ds)) (ret [])) f_law_agree) truthD)) fun t7 => ifW t7 (retF (ret (.bool false))) (bnd (bnd (ret x4) rangeW) fun ds => bnd (forF (S := Unit) (fun (s8 : Unit) (d : D) => bnd ((PW.ret) d) fun (a11 : D) => bnd (op2 subI (op2 subI (ret x4) (ret (.int 1))) (op2 mulD (ret (.int 2)) (ret a11))) fun (x12 : D) => bnd (bnd (consW (op2 subI (op2 subI (ret x4) (ret (.int 1))) (ret a11)) (consW (ret a11) (ret []))) f_law_is_odd) fun (x13 : D) => bnd (bnd (bnd (ret x6) truthD) fun t15 => ifW t15 (bnd (consW (ret a11) (consW (op2 subI (op2 subI (ret x4) (ret (.int 1))) (ret a11)) (ret []))) fun ds => fis_binomial_odd (perm 0 2 [1, 0] [] ds)) (bnd (consW (op2 subI (op2 subI (ret x4) (ret (.int 1))) (ret a11)) (consW (ret a11) (ret []))) fis_binomial_odd)) fun (x14 : D) => bnd (tor (tnot (bnd (bnd (consW (ret x14) (consW (ret x13) (ret []))) f_law_same) truthD)) (tand (bnd (op2 geI (ret x12) (ret (.int 0))) boolD) (bnd (op2 neD (op2 eqD (atW (bnd (ret x5) seqD) (ret x12)) (ret (.int 1))) (ret x13)) boolD))) fun t16 => ifW t16 (retF (ret (.bool false))) (bnd (tand (bnd (op2 ltI (ret (.int 0)) (ret x12)) boolD) (bnd (op2 eqD (atW (bnd (ret x5) seqD) (op2 subI (ret x12) (ret (.int 1)))) (ret (.int 1))) boolD)) fun t17 => ifW t17 (retF (ret (.bool false))) (ret (.nx ())))) ds ()) (endF fun (s9 : Unit) => bnd (tand (bnd (op2 inQ (ret x4) (bnd (tupW (consW (ret (.int 1)) (consW (ret (.int 2)) (consW (ret (.int 4)) (consW (ret (.int 8)) (consW (ret (.int 16)) (consW (ret (.int 32)) (consW (ret (.int 64)) (ret []))))))))) seqD)) boolD) (bnd (op2 neD (sumW (bnd (ret x5) seqD)) (ret (.int 1))) boolD)) fun t10 => ifW t10 (retF (ret (.bool false))) (ret (.nx ()))))) ds ()) (endR fun (s2 : Unit) => ret (.bool true))
def f_law_are_lamps_right : List D → Wp D
  | [] => b_law_are_lamps_right 
  | _ => nay
theorem ok_law_are_lamps_right (h_law_are_lamps_right : Has K mg "_law_are_lamps_right" s_law_are_lamps_right) (Z : Free mg) (okis_binomial_odd : FnS P w K mg base "is_binomial_odd" sis_binomial_odd 1 false ["n", "k"] fis_binomial_odd) (oklamp_poly : FnS P w K mg base "lamp_poly" slamp_poly 2 false ["i"] flamp_poly) (ok_law_draw : FnS P w K mg base "_law_draw" s_law_draw 1 true ["bag", "below"] drawF) (ok_law_pick : FnS P w K mg base "_law_pick" s_law_pick 2 true ["bag", "some"] f_law_pick) (ok_law_same : FnS P w K mg base "_law_same" s_law_same 1 false ["told", "due"] f_law_same) (ok_law_agree : FnS P w K mg base "_law_agree" s_law_agree 2 false ["rows"] f_law_agree) (ok_law_poly : FnS P w K mg base "_law_poly" s_law_poly 1 false ["mask"] f_law_poly) (ok_law_lamp : FnS P w K mg base "_law_lamp" s_law_lamp 1 false ["i"] f_law_lamp) (ok_law_is_odd : FnS P w K mg base "_law_is_odd" s_law_is_odd 1 false ["n", "k"] f_law_is_odd) : FnS P w K mg base "_law_are_lamps_right" s_law_are_lamps_right 3 true ["bag"] f_law_are_lamps_right := by
  obtain ⟨a, fd, gm, F⟩ := h_law_are_lamps_right
  have nd := sc_law_are_lamps_right.nd
  refine fnS_of true 8 F gm sc_law_are_lamps_right (F.binds (ps := ["bag"]) fun _ _ _ _ _ _ us hl => match us, hl with | [_], _ => rfl) rfl (by decide) (fun ds Q h => ?_) fun ds hl => ?_
  · unfold f_law_are_lamps_right at h; split at h; · rfl
    · exact h.elim
  · obtain ⟨rfl⟩ := len0 hl
    refine (show MR _ _ _ (b_law_are_lamps_right ) from ?_)
    delta b_law_are_lamps_right
    show MR _ _ [some .bag, none, none, none, none, none, none, none, none] _
    refine mr_forF (fun (s1 : Unit) => [some .bag, none, none, none, none, none, none, none, none]) () (.keep (.drop (.drop (.drop (.drop (.drop (.drop (.drop (.drop .nil))))))))) (mi_range rfl Z.range_ me_int) (fun s1 => (mg_name 1 nd rfl (.inl rfl))) (fun s1 (a3 : D) => ?_) (fun s2 => ?_)
    · show MS _ _ [some .bag, some (.val a3), none, none, none, none, none, none, none] _ _ _
      refine ms_asg 2 nd rfl (.inl rfl) (mx_val (me_callB ok_law_pick 0 (Nat.le_of_ble_eq_true rfl) rfl rfl (.inl rfl) rfl (by decide) (ma_cons (me_new (mf_lst (ma_cons (me_callB ok_law_draw 0 (Nat.le_of_ble_eq_true rfl) rfl rfl (.inl rfl) rfl (by decide) (ma_cons me_int ma_nil)) (ma_cons (me_callB ok_law_draw 0 (Nat.le_of_ble_eq_true rfl) rfl rfl (.inl rfl) rfl (by decide) (ma_cons me_int ma_nil)) (ma_cons me_int (ma_cons me_int (ma_cons me_int (ma_cons me_int (ma_cons (me_shl me_int (me_callB ok_law_draw 0 (Nat.le_of_ble_eq_true rfl) rfl rfl (.inl rfl) rfl (by decide) (ma_cons me_int ma_nil))) ma_nil))))))))) ma_nil))) (fun x4 => ?_)
      show MS _ _ [some .bag, some (.val a3), some (.val x4), none, none, none, none, none, none] _ _ _
      refine ms_par2 3 4 nd rfl rfl rfl rfl (mx_val (me_call oklamp_poly (Nat.le_of_ble_eq_true rfl) rfl (ma_cons (me_var 2 rfl (.inl rfl) rfl) ma_nil))) (mx_val (me_eq (me_callB ok_law_draw 0 (Nat.le_of_ble_eq_true rfl) rfl rfl (.inl rfl) rfl (by decide) (ma_cons me_int ma_nil)) me_int)) (fun x5 x6 => ?_) (hne := by decide) (hw := by first | (intro _ _; rfl) | (intro v h; cases v; cases h; rfl))
      show MS _ _ [some .bag, some (.val a3), some (.val x4), some (.val x5), some (.val x6), none, none, none, none] _ _ _
      refine ms_ifr (mt_not (mt_truth (me_call ok_law_agree (Nat.le_of_ble_eq_true rfl) rfl (ma_cons (me_new (mf_lst (ma_cons (me_new (mf_lst (ma_cons (me_var 3 rfl (.inl rfl) rfl) (ma_cons (me_call ok_law_poly (Nat.le_of_ble_eq_true rfl) rfl (ma_cons (me_call ok_law_lamp (Nat.le_of_ble_eq_true rfl) rfl (ma_cons (me_var 2 rfl (.inl rfl) rfl) ma_nil)) ma_nil)) ma_nil)))) (ma_cons (me_new (mf_lst (ma_cons (me_callK0 (ks := ["i"]) [0] oklamp_poly (Nat.le_of_ble_eq_true rfl) rfl (by decide) (fun _ _ _ _ _ _ us ws hu hw => match us, ws, hu, hw with | [], [_], _, _ => rfl) (mk_cons (me_var 2 rfl (.inl rfl) rfl) mk_nil)) (ma_cons (me_var 3 rfl (.inl rfl) rfl) ma_nil)))) ma_nil)))) ma_nil)))) ?_ ?_
      · show MR _ _ [some .bag, some (.val a3), some (.val x4), some (.val x5), some (.val x6), none, none, none, none] _
        exact (mr_ret me_bl)
      show MS _ _ [some .bag, some (.val a3), some (.val x4), some (.val x5), some (.val x6), none, none, none, none] _ _ _
      refine ms_forF (fun (s8 : Unit) => [some .bag, some (.val a3), some (.val x4), some (.val x5), some (.val x6), none, none, none, none]) () (.keep (.keep (.keep (.keep (.keep (.drop (.drop (.drop (.drop .nil))))))))) (mi_range rfl Z.range_ (me_var 2 rfl (.inl rfl) rfl)) (fun s8 => (mg_name 5 nd rfl (.inl rfl))) (fun s8 (a11 : D) => ?_) (fun s9 => ?_)
      · show MS _ _ [some .bag, some (.val a3), some (.val x4), some (.val x5), some (.val x6), some (.val a11), none, none, none] _ _ _
        refine ms_asg 6 nd rfl (.inl rfl) (mx_val (me_sub (me_sub (me_var 2 rfl (.inl rfl) rfl) me_int) (me_mulD me_int (me_var 5 rfl (.inl rfl) rfl)))) (fun x12 => ?_)
        show MS _ _ [some .bag, some (.val a3), some (.val x4), some (.val x5), some (.val x6), some (.val a11), some (.val x12), none, none] _ _ _
        refine ms_asg 7 nd rfl (.inl rfl) (mx_val (me_call ok_law_is_odd (Nat.le_of_ble_eq_true rfl) rfl (ma_cons (me_sub (me_sub (me_var 2 rfl (.inl rfl) rfl) me_int) (me_var 5 rfl (.inl rfl) rfl)) (ma_cons (me_var 5 rfl (.inl rfl) rfl) ma_nil)))) (fun x13 => ?_)
        show MS _ _ [some .bag, some (.val a3), some (.val x4), some (.val x5), some (.val x6), some (.val a11), some (.val x12), some (.val x13), none] _ _ _
        refine ms_asg 8 nd rfl (.inl rfl) (mx_val (me_ifE (mt_truth (me_var 4 rfl (.inl rfl) rfl)) (me_callK0 (ks := ["k", "n"]) [1, 0] okis_binomial_odd (Nat.le_of_ble_eq_true rfl) rfl (by decide) (fun _ _ _ _ _ _ us ws hu hw => match us, ws, hu, hw with | [], [_, _], _, _ => rfl) (mk_cons (me_var 5 rfl (.inl rfl) rfl) (mk_cons (me_sub (me_sub (me_var 2 rfl (.inl rfl) rfl) me_int) (me_var 5 rfl (.inl rfl) rfl)) mk_nil))) (me_call okis_binomial_odd (Nat.le_of_ble_eq_true rfl) rfl (ma_cons (me_sub (me_sub (me_var 2 rfl (.inl rfl) rfl) me_int) (me_var 5 rfl (.inl rfl) rfl)) (ma_cons (me_var 5 rfl (.inl rfl) rfl) ma_nil))))) (fun x14 => ?_)
        show MS _ _ [some .bag, some (.val a3), some (.val x4), some (.val x5), some (.val x6), some (.val a11), some (.val x12), some (.val x13), some (.val x14)] _ _ _
        refine ms_ifr (mt_w (mw_or (mt_not (mt_truth (me_call ok_law_same (Nat.le_of_ble_eq_true rfl) rfl (ma_cons (me_var 8 rfl (.inl rfl) rfl) (ma_cons (me_var 7 rfl (.inl rfl) rfl) ma_nil))))) (mw_or1 (mt_w (mw_and (mt_ge (me_var 6 rfl (.inl rfl) rfl) me_int) (mw_and1 (mt_ne (me_eq (me_ix (mq_val (me_var 3 rfl (.inl rfl) rfl)) (me_var 6 rfl (.inl rfl) rfl)) me_int) (me_var 7 rfl (.inl rfl) rfl)))))))) ?_ ?_
        · show MR _ _ [some .bag, some (.val a3), some (.val x4), some (.val x5), some (.val x6), some (.val a11), some (.val x12), some (.val x13), some (.val x14)] _
          exact (mr_ret me_bl)
        show MS _ _ [some .bag, some (.val a3), some (.val x4), some (.val x5), some (.val x6), some (.val a11), some (.val x12), some (.val x13), some (.val x14)] _ _ _
        refine ms_ifr (mt_w (mw_and (mt_lt me_int (me_var 6 rfl (.inl rfl) rfl)) (mw_and1 (mt_eq (me_ix (mq_val (me_var 3 rfl (.inl rfl) rfl)) (me_sub (me_var 6 rfl (.inl rfl) rfl) me_int)) me_int)))) ?_ ?_
        · show MR _ _ [some .bag, some (.val a3), some (.val x4), some (.val x5), some (.val x6), some (.val a11), some (.val x12), some (.val x13), some (.val x14)] _
          exact (mr_ret me_bl)
        show MS _ _ [some .bag, some (.val a3), some (.val x4), some (.val x5), some (.val x6), some (.val a11), some (.val x12), some (.val x13), some (.val x14)] _ _ _
        exact (ms_nil (.keep (.keep (.keep (.keep (.keep (.drop (.drop (.drop (.drop .nil))))))))))
      show MS _ _ [some .bag, some (.val a3), some (.val x4), some (.val x5), some (.val x6), none, none, none, none] _ _ _
      refine ms_ifr (mt_w (mw_and (mt_in (me_var 2 rfl (.inl rfl) rfl) (mq_val (me_tup (ma_cons me_int (ma_cons me_int (ma_cons me_int (ma_cons me_int (ma_cons me_int (ma_cons me_int (ma_cons me_int ma_nil)))))))))) (mw_and1 (mt_ne (me_sum rfl Z.sum_ (mq_val (me_var 3 rfl (.inl rfl) rfl))) me_int)))) ?_ ?_
      · show MR _ _ [some .bag, some (.val a3), some (.val x4), some (.val x5), some (.val x6), none, none, none, none] _
        exact (mr_ret me_bl)
      show MS _ _ [some .bag, some (.val a3), some (.val x4), some (.val x5), some (.val x6), none, none, none, none] _ _ _
      exact (ms_nil (.keep (.drop (.drop (.drop (.drop (.drop (.drop (.drop (.drop .nil))))))))))
    show MR _ _ [some .bag, none, none, none, none, none, none, none, none] _
    exact (mr_ret me_bl)
abbrev s_law_some_poly : Stmt := topS 32
theorem sc_law_some_poly : FnScope ["bag", "most", "found", "items", "turn"] ["bag", "most"] (defScope s_law_some_poly) := ⟨rfl, rfl, rfl, by decide +kernel, rfl, by decide +kernel, by decide +kernel⟩
def b_law_some_poly (c0 : D) : Wp D := bnd (ret (.int 0)) fun (x1 : D) => bnd (bnd (consW (op2 addD (ret c0) (ret (.int 1))) (ret [])) drawF) fun (x2 : D) => bnd (bnd (ret x2) rangeW) fun ds => bnd (forW (S := D) (fun (s3 : D) (d : D) => bnd ((PW.ret) d) fun (a5 : D) => bnd (op2 orI (op2 shlI (ret s3) (ret (.int 1))) (bnd (consW (ret (.int 2)) (ret [])) drawF)) fun (x6 : D) => ret x6) ds x1) fun (s4 : D) => ret s4
def f_law_some_poly : List D → Wp D
  | [c0] => b_law_some_poly c0
  | _ => nay
theorem ok_law_some_poly (h_law_some_poly : Has K mg "_law_some_poly" s_law_some_poly) (Z : Free mg) (ok_law_draw : FnS P w K mg base "_law_draw" s_law_draw 1 true ["bag", "below"] drawF) : FnS P w K mg base "_law_some_poly" s_law_some_poly 2 true ["bag", "most"] f_law_some_poly := by
  obtain ⟨a, fd, gm, F⟩ := h_law_some_poly
  have nd := sc_law_some_poly.nd
  refine fnS_of true 3 F gm sc_law_some_poly (F.binds (ps := ["bag", "most"]) fun _ _ _ _ _ _ us hl => match us, hl with | [_, _], _ => rfl) rfl (by decide) (fun ds Q h => ?_) fun ds hl => ?_
  · unfold f_law_some_poly at h; split at h; · rfl
    · exact h.elim
  · obtain ⟨c0, rfl⟩ := len1 hl
    refine (show MR _ _ _ (b_law_some_poly c0) from ?_)
    delta b_law_some_poly
    show MR _ _ [some .bag, some (.val c0), none, none, none] _
    refine mr_par2 2 3 nd rfl rfl rfl rfl (mx_val me_int) (mx_val (me_callB ok_law_draw 0 (Nat.le_of_ble_eq_true rfl) rfl rfl (.inl rfl) rfl (by decide) (ma_cons (me_addD (me_var 1 rfl (.inl rfl) rfl) me_int) ma_nil))) (fun x1 x2 => ?_) (hne := by decide) (hw := by first | (intro _ _; rfl) | (intro v h; cases v; cases h; rfl))
    show MR _ _ [some .bag, some (.val c0), some (.val x1), some (.val x2), none] _
    refine mr_for (fun (s3 : D) => [some .bag, some (.val c0), some (.val s3), some (.val x2), none]) x1 (.keep (.keep (.keep (.keep (.drop .nil))))) (mi_range rfl Z.range_ (me_var 3 rfl (.inl rfl) rfl)) (fun s3 => (mg_name 4 nd rfl (.inl rfl))) (fun s3 (a5 : D) => ?_) (fun s4 => ?_)
    · show MN _ _ [some .bag, some (.val c0), some (.val s3), some (.val x2), some (.val a5)] _ _
      refine mn_asg 2 nd rfl (.inl rfl) (mx_val (me_or (me_shl (me_var 2 rfl (.inl rfl) rfl) me_int) (me_callB ok_law_draw 0 (Nat.le_of_ble_eq_true rfl) rfl rfl (.inl rfl) rfl (by decide) (ma_cons me_int ma_nil)))) (fun x6 => ?_)
      show MN _ _ [some .bag, some (.val c0), some (.val x6), some (.val x2), some (.val a5)] _ _
      exact (mn_nil (.keep (.keep (.keep (.keep (.drop .nil))))))
    show MR _ _ [some .bag, some (.val c0), some (.val s4), some (.val x2), none] _
    exact (mr_ret (me_var 2 rfl (.inl rfl) rfl))
abbrev s_law_are_polys_right : Stmt := topS 33
theorem sc_law_are_polys_right : FnScope ["bag", "n", "power", "turn", "one", "other", "x", "y", "is_named", "kept", "found", "due", "moved", "single", "m", "both", "k"] ["bag"] (defScope s_law_are_polys_right) := ⟨rfl, rfl, rfl, by decide +kernel, rfl, by decide +kernel, by decide +kernel⟩
def b_law_are_polys_right : Wp D := bnd (bnd (consW (bnd (lstW (consW (bnd (consW (ret (.int 40)) (ret [])) drawF) (consW (op2 shlI (ret (.int 1)) (bnd (consW (ret (.int 6)) (ret [])) drawF)) (consW (bnd (consW (ret (.int 9)) (ret [])) drawF) (ret []))))) fun ds => ret (.list ds)) (ret [])) f_law_pick) fun (x1 : D) => bnd (ret (.int 1)) fun (x2 : D) => bnd (bnd (ret x1) rangeW) fun ds => bnd (forW (S := D) (fun (s3 : D) (d : D) => bnd ((PW.ret) d) fun (a40 : D) => bnd (op2 xorI (op2 shlI (ret s3) (ret (.int 1))) (ret s3)) fun (x41 : D) => ret x41) ds x2) fun (s4 : D) => bnd (bnd (consW (bnd (lstW (consW (bnd (consW (ret (.int 40)) (ret [])) f_law_some_poly) (consW (ret s4) (consW (op2 shlI (ret (.int 1)) (ret x1)) (ret []))))) fun ds => ret (.list ds)) (ret [])) f_law_pick) fun (x5 : D) => bnd (bnd (consW (bnd (consW (bnd (lstW (consW (ret (.int 6)) (consW (ret (.int 40)) (ret [])))) fun ds => ret (.list ds)) (ret [])) f_law_pick) (ret [])) f_law_some_poly) fun (x6 : D) => bnd (bnd (consW (ret x5) (ret [])) f_law_poly) fun (x7 : D) => bnd (bnd (consW (ret x6) (ret [])) f_law_poly) fun (x8 : D) => bnd (op2 eqD (bnd (consW (ret (.int 2)) (ret [])) drawF) (ret (.int 0))) fun (x9 : D) => bnd (bnd (bnd (lstW (consW (ret x7) (consW (ret x8) (ret [])))) fun ds => ret (.list ds)) reprW) fun (x10 : D) => bnd (lstW (consW (bnd (lstW (consW (bnd (bnd (ret x9) truthD) fun t12 => ifW t12 (bnd (consW (ret x8) (consW (ret x7) (ret []))) fun ds => fpoly_sum (perm 0 2 [1, 0] [] ds)) (bnd (consW (ret x7) (consW (ret x8) (ret []))) fpoly_sum)) (consW (bnd (consW (op2 xorI (ret x5) (ret x6)) (ret [])) f_law_poly) (ret [])))) fun ds => ret (.list ds)) (ret []))) fun (x11 : List D) => bnd (bnd (consW (bnd (consW (ret x5) (consW (ret x6) (ret []))) f_law_times) (ret [])) f_law_poly) fun (x13 : D) => appW (bnd (lstW (consW (bnd (bnd (ret x9) truthD) fun t14 => ifW t14 (bnd (consW (ret x7) (consW (ret x8) (ret []))) fpoly_product) (bnd (consW (ret x8) (consW (ret x7) (ret []))) fun ds => fpoly_product (perm 0 2 [1, 0] [] ds))) (consW (ret x13) (ret [])))) fun ds => ret (.list ds)) x11 fun (x15 : D) => bnd (bnd (consW (bnd (consW (ret x5) (consW (ret x6) (ret []))) f_law_divisor) (ret [])) f_law_poly) fun (x16 : D) => appW (bnd (lstW (consW (bnd (bnd (ret x9) truthD) fun t17 => ifW t17 (bnd (consW (ret x8) (consW (ret x7) (ret []))) fun ds => fpoly_divisor (perm 0 2 [1, 0] [] ds)) (bnd (consW (ret x7) (consW (ret x8) (ret []))) fpoly_divisor)) (consW (ret x16) (ret [])))) fun ds => ret (.list ds)) (x11 ++ [x15]) fun (x18 : D) => appW (bnd (lstW (consW (bnd (consW (ret x8) (consW (ret x7) (ret []))) fpoly_divisor) (consW (ret x16) (ret [])))) fun ds => ret (.list ds)) ((x11 ++ [x15]) ++ [x18]) fun (x19 : D) => bnd (bnd (bnd (ret x9) truthD) fun t21 => ifW t21 (bnd (consW (ret x7) (ret [])) fun ds => fpoly_moved (perm 0 1 [0] [] ds)) (bnd (consW (ret x7) (ret [])) fpoly_moved)) fun (x20 : D) => extW (lstW (consW (bnd (lstW (consW (ret x20) (consW (bnd (consW (bnd (consW (ret x5) (ret [])) f_law_moved) (ret [])) f_law_poly) (ret [])))) fun ds => ret (.list ds)) (consW (bnd (lstW (consW (bnd (consW (ret x20) (ret [])) fpoly_moved) (consW (ret x7) (ret [])))) fun ds => ret (.list ds)) (ret [])))) (((x11 ++ [x15]) ++ [x18]) ++ [x19]) fun (x22 : List D) => bnd (bnd (op2 gtI (ret x6) (ret (.int 0))) boolD) fun t23 => bnd (ifW t23 (bnd (bnd (consW (bnd (consW (ret x5) (consW (ret x6) (ret []))) f_law_rest) (ret [])) f_law_poly) fun (x25 : D) => appW (bnd (lstW (consW (bnd (bnd (ret x9) truthD) fun t26 => ifW t26 (bnd (consW (ret x7) (consW (ret x8) (ret []))) fpoly_rest) (bnd (consW (ret x8) (consW (ret x7) (ret []))) fun ds => fpoly_rest (perm 0 2 [1, 0] [] ds))) (consW (ret x25) (ret [])))) fun ds => ret (.list ds)) ((((x11 ++ [x15]) ++ [x18]) ++ [x19]) ++ x22) fun (x27 : D) => ret (((((x11 ++ [x15]) ++ [x18]) ++ [x19]) ++ x22) ++ [x27])) (ret ((((x11 ++ [x15]) ++ [x18]) ++ [x19]) ++ x22))) fun (s24 : List D) => bnd (op2 addD (op2 mulD (tupW (consW (ret (.int 0)) (ret []))) (ret x1)) (tupW (consW (ret (.int 1)) (ret [])))) fun (x28 : D) => appW (bnd (lstW (consW (bnd (consW (ret x28) (ret [])) fpoly_moved) (consW (tuW (comp0 (bnd (op2 addD (ret x1) (ret (.int 1))) rangeW) (PW.ret) (fun (a29 : D) => bnd (bnd (bnd (consW (ret x1) (consW (ret a29) (ret []))) f_law_is_odd) truthD) fun t30 => ifW t30 (ret (.int 1)) (ret (.int 0))))) (ret [])))) fun ds => ret (.list ds)) s24 fun (x31 : D) => appW (bnd (lstW (consW (bnd (consW (ret x28) (ret [])) fpoly_moved) (consW (tuW (comp0 (bnd (op2 addD (ret x1) (ret (.int 1))) rangeW) (PW.ret) (fun (a32 : D) => bnd (bnd (bnd (consW (ret x1) (consW (ret a32) (ret []))) fis_binomial_odd) truthD) fun t33 => ifW t33 (ret (.int 1)) (ret (.int 0))))) (ret [])))) fun ds => ret (.list ds)) (s24 ++ [x31]) fun (x34 : D) => bnd (bnd (consW (ret (.int 50)) (ret [])) drawF) fun (x35 : D) => bnd (tuW (comp0 (bnd (op2 addD (op2 addD (ret x35) (ret x1)) (ret (.int 1))) rangeW) (PW.ret) (fun (a37 : D) => bnd (bnd (bnd (consW (op2 addD (ret x35) (ret x1)) (consW (ret a37) (ret []))) fis_binomial_odd) truthD) fun t38 => ifW t38 (ret (.int 1)) (ret (.int 0))))) fun (x36 : D) => appW (bnd (lstW (consW (bnd (consW (bnd (consW (op2 addD (op2 mulD (tupW (consW (ret (.int 0)) (ret []))) (ret x35)) (tupW (consW (ret (.int 1)) (ret [])))) (ret [])) fpoly_moved) (consW (bnd (consW (ret s4) (ret [])) f_law_poly) (ret []))) fpoly_product) (consW (ret x36) (ret [])))) fun ds => ret (.list ds)) ((s24 ++ [x31]) ++ [x34]) fun (x39 : D) => andW (bnd (consW (ret (.list (((s24 ++ [x31]) ++ [x34]) ++ [x39]))) (ret [])) f_law_agree) (op2 eqD (bnd (bnd (lstW (consW (ret x7) (consW (ret x8) (ret [])))) fun ds => ret (.list ds)) reprW) (ret x10))
def f_law_are_polys_right : List D → Wp D
  | [] => b_law_are_polys_right 
  | _ => nay
theorem ok_law_are_polys_right (h_law_are_polys_right : Has K mg "_law_are_polys_right" s_law_are_polys_right) (Z : Free mg) (okis_binomial_odd : FnS P w K mg base "is_binomial_odd" sis_binomial_odd 1 false ["n", "k"] fis_binomial_odd) (okpoly_sum : FnS P w K mg base "poly_sum" spoly_sum 2 false ["one", "other"] fpoly_sum) (okpoly_product : FnS P w K mg base "poly_product" spoly_product 2 false ["one", "other"] fpoly_product) (okpoly_rest : FnS P w K mg base "poly_rest" spoly_rest 2 false ["one", "other"] fpoly_rest) (okpoly_divisor : FnS P w K mg base "poly_divisor" spoly_divisor 2 false ["one", "other"] fpoly_divisor) (okpoly_moved : FnS P w K mg base "poly_moved" spoly_moved 2 false ["poly"] fpoly_moved) (ok_law_draw : FnS P w K mg base "_law_draw" s_law_draw 1 true ["bag", "below"] drawF) (ok_law_pick : FnS P w K mg base "_law_pick" s_law_pick 2 true ["bag", "some"] f_law_pick) (ok_law_agree : FnS P w K mg base "_law_agree" s_law_agree 2 false ["rows"] f_law_agree) (ok_law_poly : FnS P w K mg base "_law_poly" s_law_poly 1 false ["mask"] f_law_poly) (ok_law_times : FnS P w K mg base "_law_times" s_law_times 1 false ["one", "other"] f_law_times) (ok_law_rest : FnS P w K mg base "_law_rest" s_law_rest 2 false ["one", "other"] f_law_rest) (ok_law_divisor : FnS P w K mg base "_law_divisor" s_law_divisor 3 false ["one", "other"] f_law_divisor) (ok_law_moved : FnS P w K mg base "_law_moved" s_law_moved 2 false ["mask"] f_law_moved) (ok_law_is_odd : FnS P w K mg base "_law_is_odd" s_law_is_odd 1 false ["n", "k"] f_law_is_odd) (ok_law_some_poly : FnS P w K mg base "_law_some_poly" s_law_some_poly 2 true ["bag", "most"] f_law_some_poly) : FnS P w K mg base "_law_are_polys_right" s_law_are_polys_right 4 true ["bag"] f_law_are_polys_right := by
  obtain ⟨a, fd, gm, F⟩ := h_law_are_polys_right
  have nd := sc_law_are_polys_right.nd
  refine fnS_of true 16 F gm sc_law_are_polys_right (F.binds (ps := ["bag"]) fun _ _ _ _ _ _ us hl => match us, hl with | [_], _ => rfl) rfl (by decide) (fun ds Q h => ?_) fun ds hl => ?_
  · unfold f_law_are_polys_right at h; split at h; · rfl
    · exact h.elim
  · obtain ⟨rfl⟩ := len0 hl
    refine (show MR _ _ _ (b_law_are_polys_right ) from ?_)
    delta b_law_are_polys_right
    show MR _ _ [some .bag, none, none, none, none, none, none, none, none, none, none, none, none, none, none, none, none] _
    refine mr_asg 1 nd rfl (.inr rfl) (mx_val (me_callB ok_law_pick 0 (Nat.le_of_ble_eq_true rfl) rfl rfl (.inl rfl) rfl (by decide) (ma_cons (me_new (mf_lst (ma_cons (me_callB ok_law_draw 0 (Nat.le_of_ble_eq_true rfl) rfl rfl (.inl rfl) rfl (by decide) (ma_cons me_int ma_nil)) (ma_cons (me_shl me_int (me_callB ok_law_draw 0 (Nat.le_of_ble_eq_true rfl) rfl rfl (.inl rfl) rfl (by decide) (ma_cons me_int ma_nil))) (ma_cons (me_callB ok_law_draw 0 (Nat.le_of_ble_eq_true rfl) rfl rfl (.inl rfl) rfl (by decide) (ma_cons me_int ma_nil)) ma_nil))))) ma_nil))) (fun x1 => ?_)
    show MR _ _ [some .bag, some (.val x1), none, none, none, none, none, none, none, none, none, none, none, none, none, none, none] _
    refine mr_asg 2 nd rfl (.inl rfl) (mx_val me_int) (fun x2 => ?_)
    show MR _ _ [some .bag, some (.val x1), some (.val x2), none, none, none, none, none, none, none, none, none, none, none, none, none, none] _
    refine mr_for (fun (s3 : D) => [some .bag, some (.val x1), some (.val s3), none, none, none, none, none, none, none, none, none, none, none, none, none, none]) x2 (.keep (.keep (.keep (.drop (.drop (.drop (.drop (.drop (.drop (.drop (.drop (.drop (.drop (.drop (.drop (.drop (.drop .nil))))))))))))))))) (mi_range rfl Z.range_ (me_var 1 rfl (.inr (.inl rfl)) rfl)) (fun s3 => (mg_name 3 nd rfl (.inl rfl))) (fun s3 (a40 : D) => ?_) (fun s4 => ?_)
    · show MN _ _ [some .bag, some (.val x1), some (.val s3), some (.val a40), none, none, none, none, none, none, none, none, none, none, none, none, none] _ _
      refine mn_asg 2 nd rfl (.inl rfl) (mx_val (me_xor (me_shl (me_var 2 rfl (.inl rfl) rfl) me_int) (me_var 2 rfl (.inl rfl) rfl))) (fun x41 => ?_)
      show MN _ _ [some .bag, some (.val x1), some (.val x41), some (.val a40), none, none, none, none, none, none, none, none, none, none, none, none, none] _ _
      exact (mn_nil (.keep (.keep (.keep (.drop (.drop (.drop (.drop (.drop (.drop (.drop (.drop (.drop (.drop (.drop (.drop (.drop (.drop .nil))))))))))))))))))
    show MR _ _ [some .bag, some (.val x1), some (.val s4), none, none, none, none, none, none, none, none, none, none, none, none, none, none] _
    refine mr_asg 4 nd rfl (.inl rfl) (mx_val (me_callB ok_law_pick 0 (Nat.le_of_ble_eq_true rfl) rfl rfl (.inl rfl) rfl (by decide) (ma_cons (me_new (mf_lst (ma_cons (me_callB ok_law_some_poly 0 (Nat.le_of_ble_eq_true rfl) rfl rfl (.inl rfl) rfl (by decide) (ma_cons me_int ma_nil)) (ma_cons (me_var 2 rfl (.inl rfl) rfl) (ma_cons (me_shl me_int (me_var 1 rfl (.inr (.inl rfl)) rfl)) ma_nil))))) ma_nil))) (fun x5 => ?_)
    show MR _ _ [some .bag, some (.val x1), some (.val s4), none, some (.val x5), none, none, none, none, none, none, none, none, none, none, none, none] _
    refine mr_asg 5 nd rfl (.inl rfl) (mx_val (me_callB ok_law_some_poly 0 (Nat.le_of_ble_eq_true rfl) rfl rfl (.inl rfl) rfl (by decide) (ma_cons (me_callB ok_law_pick 0 (Nat.le_of_ble_eq_true rfl) rfl rfl (.inl rfl) rfl (by decide) (ma_cons (me_new (mf_lst (ma_cons me_int (ma_cons me_int ma_nil)))) ma_nil)) ma_nil))) (fun x6 => ?_)
    show MR _ _ [some .bag, some (.val x1), some (.val s4), none, some (.val x5), some (.val x6), none, none, none, none, none, none, none, none, none, none, none] _
    refine mr_par3 6 7 8 nd rfl rfl rfl rfl rfl rfl (mx_val (me_call ok_law_poly (Nat.le_of_ble_eq_true rfl) rfl (ma_cons (me_var 4 rfl (.inl rfl) rfl) ma_nil))) (mx_val (me_call ok_law_poly (Nat.le_of_ble_eq_true rfl) rfl (ma_cons (me_var 5 rfl (.inl rfl) rfl) ma_nil))) (mx_val (me_eq (me_callB ok_law_draw 0 (Nat.le_of_ble_eq_true rfl) rfl rfl (.inl rfl) rfl (by decide) (ma_cons me_int ma_nil)) me_int)) (fun x7 x8 x9 => ?_) (hne := by decide) (hw := by first | (intro _ _; rfl) | (intro v h; cases v; cases h; rfl))
    show MR _ _ [some .bag, some (.val x1), some (.val s4), none, some (.val x5), some (.val x6), some (.val x7), some (.val x8), some (.val x9), none, none, none, none, none, none, none, none] _
    refine mr_asg 9 nd rfl (.inl rfl) (mx_val (me_repr rfl Z.repr_ (me_new (mf_lst (ma_cons (me_var 6 rfl (.inl rfl) rfl) (ma_cons (me_var 7 rfl (.inl rfl) rfl) ma_nil)))))) (fun x10 => ?_)
    show MR _ _ [some .bag, some (.val x1), some (.val s4), none, some (.val x5), some (.val x6), some (.val x7), some (.val x8), some (.val x9), some (.val x10), none, none, none, none, none, none, none] _
    refine mr_asg 10 nd rfl (.inl rfl) (mx_own (mf_lst (ma_cons (me_new (mf_lst (ma_cons (me_ifE (mt_truth (me_var 8 rfl (.inl rfl) rfl)) (me_callK0 (ks := ["other", "one"]) [1, 0] okpoly_sum (Nat.le_of_ble_eq_true rfl) rfl (by decide) (fun _ _ _ _ _ _ us ws hu hw => match us, ws, hu, hw with | [], [_, _], _, _ => rfl) (mk_cons (me_var 7 rfl (.inl rfl) rfl) (mk_cons (me_var 6 rfl (.inl rfl) rfl) mk_nil))) (me_call okpoly_sum (Nat.le_of_ble_eq_true rfl) rfl (ma_cons (me_var 6 rfl (.inl rfl) rfl) (ma_cons (me_var 7 rfl (.inl rfl) rfl) ma_nil)))) (ma_cons (me_call ok_law_poly (Nat.le_of_ble_eq_true rfl) rfl (ma_cons (me_xor (me_var 4 rfl (.inl rfl) rfl) (me_var 5 rfl (.inl rfl) rfl)) ma_nil)) ma_nil)))) ma_nil))) (fun x11 => ?_)
    show MR _ _ [some .bag, some (.val x1), some (.val s4), none, some (.val x5), some (.val x6), some (.val x7), some (.val x8), some (.val x9), some (.val x10), some (.own x11), none, none, none, none, none, none] _
    refine mr_asg 11 nd rfl (.inl rfl) (mx_val (me_call ok_law_poly (Nat.le_of_ble_eq_true rfl) rfl (ma_cons (me_call ok_law_times (Nat.le_of_ble_eq_true rfl) rfl (ma_cons (me_var 4 rfl (.inl rfl) rfl) (ma_cons (me_var 5 rfl (.inl rfl) rfl) ma_nil))) ma_nil))) (fun x13 => ?_)
    show MR _ _ [some .bag, some (.val x1), some (.val s4), none, some (.val x5), some (.val x6), some (.val x7), some (.val x8), some (.val x9), some (.val x10), some (.own x11), some (.val x13), none, none, none, none, none] _
    refine mr_append 10 rfl (.inl rfl) (me_new (mf_lst (ma_cons (me_ifE (mt_truth (me_var 8 rfl (.inl rfl) rfl)) (me_call okpoly_product (Nat.le_of_ble_eq_true rfl) rfl (ma_cons (me_var 6 rfl (.inl rfl) rfl) (ma_cons (me_var 7 rfl (.inl rfl) rfl) ma_nil))) (me_callK0 (ks := ["other", "one"]) [1, 0] okpoly_product (Nat.le_of_ble_eq_true rfl) rfl (by decide) (fun _ _ _ _ _ _ us ws hu hw => match us, ws, hu, hw with | [], [_, _], _, _ => rfl) (mk_cons (me_var 7 rfl (.inl rfl) rfl) (mk_cons (me_var 6 rfl (.inl rfl) rfl) mk_nil)))) (ma_cons (me_var 11 rfl (.inl rfl) rfl) ma_nil)))) rfl (fun x15 => ?_)
    show MR _ _ [some .bag, some (.val x1), some (.val s4), none, some (.val x5), some (.val x6), some (.val x7), some (.val x8), some (.val x9), some (.val x10), some (.own (x11 ++ [x15])), some (.val x13), none, none, none, none, none] _
    refine mr_asg 11 nd rfl (.inl rfl) (mx_val (me_call ok_law_poly (Nat.le_of_ble_eq_true rfl) rfl (ma_cons (me_call ok_law_divisor (Nat.le_of_ble_eq_true rfl) rfl (ma_cons (me_var 4 rfl (.inl rfl) rfl) (ma_cons (me_var 5 rfl (.inl rfl) rfl) ma_nil))) ma_nil))) (fun x16 => ?_)
    show MR _ _ [some .bag, some (.val x1), some (.val s4), none, some (.val x5), some (.val x6), some (.val x7), some (.val x8), some (.val x9), some (.val x10), some (.own (x11 ++ [x15])), some (.val x16), none, none, none, none, none] _
    refine mr_append 10 rfl (.inl rfl) (me_new (mf_lst (ma_cons (me_ifE (mt_truth (me_var 8 rfl (.inl rfl) rfl)) (me_callK0 (ks := ["other", "one"]) [1, 0] okpoly_divisor (Nat.le_of_ble_eq_true rfl) rfl (by decide) (fun _ _ _ _ _ _ us ws hu hw => match us, ws, hu, hw with | [], [_, _], _, _ => rfl) (mk_cons (me_var 7 rfl (.inl rfl) rfl) (mk_cons (me_var 6 rfl (.inl rfl) rfl) mk_nil))) (me_call okpoly_divisor (Nat.le_of_ble_eq_true rfl) rfl (ma_cons (me_var 6 rfl (.inl rfl) rfl) (ma_cons (me_var 7 rfl (.inl rfl) rfl) ma_nil)))) (ma_cons (me_var 11 rfl (.inl rfl) rfl) ma_nil)))) rfl (fun x18 => ?_)
    show MR _ _ [some .bag, some (.val x1), some (.val s4), none, some (.val x5), some (.val x6), some (.val x7), some (.val x8), some (.val x9), some (.val x10), some (.own ((x11 ++ [x15]) ++ [x18])), some (.val x16), none, none, none, none, none] _
    refine mr_append 10 rfl (.inl rfl) (me_new (mf_lst (ma_cons (me_call okpoly_divisor (Nat.le_of_ble_eq_true rfl) rfl (ma_cons (me_var 7 rfl (.inl rfl) rfl) (ma_cons (me_var 6 rfl (.inl rfl) rfl) ma_nil))) (ma_cons (me_var 11 rfl (.inl rfl) rfl) ma_nil)))) rfl (fun x19 => ?_)
    show MR _ _ [some .bag, some (.val x1), some (.val s4), none, some (.val x5), some (.val x6), some (.val x7), some (.val x8), some (.val x9), some (.val x10), some (.own (((x11 ++ [x15]) ++ [x18]) ++ [x19])), some (.val x16), none, none, none, none, none] _
    refine mr_asg 12 nd rfl (.inl rfl) (mx_val (me_ifE (mt_truth (me_var 8 rfl (.inl rfl) rfl)) (me_callK0 (ks := ["poly"]) [0] okpoly_moved (Nat.le_of_ble_eq_true rfl) rfl (by decide) (fun _ _ _ _ _ _ us ws hu hw => match us, ws, hu, hw with | [], [_], _, _ => rfl) (mk_cons (me_var 6 rfl (.inl rfl) rfl) mk_nil)) (me_call okpoly_moved (Nat.le_of_ble_eq_true rfl) rfl (ma_cons (me_var 6 rfl (.inl rfl) rfl) ma_nil)))) (fun x20 => ?_)
    show MR _ _ [some .bag, some (.val x1), some (.val s4), none, some (.val x5), some (.val x6), some (.val x7), some (.val x8), some (.val x9), some (.val x10), some (.own (((x11 ++ [x15]) ++ [x18]) ++ [x19])), some (.val x16), some (.val x20), none, none, none, none] _
    refine mr_extend 10 rfl (.inl rfl) (mf_lst (ma_cons (me_new (mf_lst (ma_cons (me_var 12 rfl (.inl rfl) rfl) (ma_cons (me_call ok_law_poly (Nat.le_of_ble_eq_true rfl) rfl (ma_cons (me_call ok_law_moved (Nat.le_of_ble_eq_true rfl) rfl (ma_cons (me_var 4 rfl (.inl rfl) rfl) ma_nil)) ma_nil)) ma_nil)))) (ma_cons (me_new (mf_lst (ma_cons (me_call okpoly_moved (Nat.le_of_ble_eq_true rfl) rfl (ma_cons (me_var 12 rfl (.inl rfl) rfl) ma_nil)) (ma_cons (me_var 6 rfl (.inl rfl) rfl) ma_nil)))) ma_nil))) rfl (fun x22 => ?_)
    show MR _ _ [some .bag, some (.val x1), some (.val s4), none, some (.val x5), some (.val x6), some (.val x7), some (.val x8), some (.val x9), some (.val x10), some (.own ((((x11 ++ [x15]) ++ [x18]) ++ [x19]) ++ x22)), some (.val x16), some (.val x20), none, none, none, none] _
    refine mr_if2 (fun (s24 : List D) => [some .bag, some (.val x1), some (.val s4), none, some (.val x5), some (.val x6), some (.val x7), some (.val x8), some (.val x9), some (.val x10), some (.own s24), none, some (.val x20), none, none, none, none]) (mt_gt (me_var 5 rfl (.inl rfl) rfl) me_int) ?_ ?_ (fun s24 => ?_)
    · show MN _ _ [some .bag, some (.val x1), some (.val s4), none, some (.val x5), some (.val x6), some (.val x7), some (.val x8), some (.val x9), some (.val x10), some (.own ((((x11 ++ [x15]) ++ [x18]) ++ [x19]) ++ x22)), some (.val x16), some (.val x20), none, none, none, none] _ _
      refine mn_asg 11 nd rfl (.inl rfl) (mx_val (me_call ok_law_poly (Nat.le_of_ble_eq_true rfl) rfl (ma_cons (me_call ok_law_rest (Nat.le_of_ble_eq_true rfl) rfl (ma_cons (me_var 4 rfl (.inl rfl) rfl) (ma_cons (me_var 5 rfl (.inl rfl) rfl) ma_nil))) ma_nil))) (fun x25 => ?_)
      show MN _ _ [some .bag, some (.val x1), some (.val s4), none, some (.val x5), some (.val x6), some (.val x7), some (.val x8), some (.val x9), some (.val x10), some (.own ((((x11 ++ [x15]) ++ [x18]) ++ [x19]) ++ x22)), some (.val x25), some (.val x20), none, none, none, none] _ _
      refine mn_append 10 rfl (.inl rfl) (me_new (mf_lst (ma_cons (me_ifE (mt_truth (me_var 8 rfl (.inl rfl) rfl)) (me_call okpoly_rest (Nat.le_of_ble_eq_true rfl) rfl (ma_cons (me_var 6 rfl (.inl rfl) rfl) (ma_cons (me_var 7 rfl (.inl rfl) rfl) ma_nil))) (me_callK0 (ks := ["other", "one"]) [1, 0] okpoly_rest (Nat.le_of_ble_eq_true rfl) rfl (by decide) (fun _ _ _ _ _ _ us ws hu hw => match us, ws, hu, hw with | [], [_, _], _, _ => rfl) (mk_cons (me_var 7 rfl (.inl rfl) rfl) (mk_cons (me_var 6 rfl (.inl rfl) rfl) mk_nil)))) (ma_cons (me_var 11 rfl (.inl rfl) rfl) ma_nil)))) rfl (fun x27 => ?_)
      show MN _ _ [some .bag, some (.val x1), some (.val s4), none, some (.val x5), some (.val x6), some (.val x7), some (.val x8), some (.val x9), some (.val x10), some (.own (((((x11 ++ [x15]) ++ [x18]) ++ [x19]) ++ x22) ++ [x27])), some (.val x25), some (.val x20), none, none, none, none] _ _
      exact (mn_nil (.keep (.keep (.keep (.drop (.keep (.keep (.keep (.keep (.keep (.keep (.keep (.drop (.keep (.drop (.drop (.drop (.drop .nil))))))))))))))))))
    · show MN _ _ [some .bag, some (.val x1), some (.val s4), none, some (.val x5), some (.val x6), some (.val x7), some (.val x8), some (.val x9), some (.val x10), some (.own ((((x11 ++ [x15]) ++ [x18]) ++ [x19]) ++ x22)), some (.val x16), some (.val x20), none, none, none, none] _ _
      exact (mn_nil (.keep (.keep (.keep (.drop (.keep (.keep (.keep (.keep (.keep (.keep (.keep (.drop (.keep (.drop (.drop (.drop (.drop .nil))))))))))))))))))
    show MR _ _ [some .bag, some (.val x1), some (.val s4), none, some (.val x5), some (.val x6), some (.val x7), some (.val x8), some (.val x9), some (.val x10), some (.own s24), none, some (.val x20), none, none, none, none] _
    refine mr_asg 13 nd rfl (.inl rfl) (mx_val (me_addD (me_mulD (me_tup (ma_cons me_int ma_nil)) (me_var 1 rfl (.inr (.inl rfl)) rfl)) (me_tup (ma_cons me_int ma_nil)))) (fun x28 => ?_)
    show MR _ _ [some .bag, some (.val x1), some (.val s4), none, some (.val x5), some (.val x6), some (.val x7), some (.val x8), some (.val x9), some (.val x10), some (.own s24), none, some (.val x20), some (.val x28), none, none, none] _
    refine mr_append 10 rfl (.inl rfl) (me_new (mf_lst (ma_cons (me_call okpoly_moved (Nat.le_of_ble_eq_true rfl) rfl (ma_cons (me_var 13 rfl (.inl rfl) rfl) ma_nil)) (ma_cons (me_tuple rfl Z.tuple_ (mq_new (mf_lc0 [("k", 16)] nd (by dsimp only [blkG]; decide +kernel) (mi_range rfl Z.range_ (me_addD (me_var 1 rfl (.inr (.inl rfl)) rfl) me_int)) (mg_name 16 nd rfl (.inl rfl)) (fun (a29 : D) => (me_ifE (mt_truth (me_call ok_law_is_odd (Nat.le_of_ble_eq_true rfl) rfl (ma_cons (me_var 1 rfl (.inr (.inl rfl)) rfl) (ma_cons (me_var 16 rfl (.inl rfl) rfl) ma_nil)))) me_int me_int))))) ma_nil)))) rfl (fun x31 => ?_)
    show MR _ _ [some .bag, some (.val x1), some (.val s4), none, some (.val x5), some (.val x6), some (.val x7), some (.val x8), some (.val x9), some (.val x10), some (.own (s24 ++ [x31])), none, some (.val x20), some (.val x28), none, none, none] _
    refine mr_append 10 rfl (.inl rfl) (me_new (mf_lst (ma_cons (me_call okpoly_moved (Nat.le_of_ble_eq_true rfl) rfl (ma_cons (me_var 13 rfl (.inl rfl) rfl) ma_nil)) (ma_cons (me_tuple rfl Z.tuple_ (mq_new (mf_lc0 [("k", 16)] nd (by dsimp only [blkG]; decide +kernel) (mi_range rfl Z.range_ (me_addD (me_var 1 rfl (.inr (.inl rfl)) rfl) me_int)) (mg_name 16 nd rfl (.inl rfl)) (fun (a32 : D) => (me_ifE (mt_truth (me_call okis_binomial_odd (Nat.le_of_ble_eq_true rfl) rfl (ma_cons (me_var 1 rfl (.inr (.inl rfl)) rfl) (ma_cons (me_var 16 rfl (.inl rfl) rfl) ma_nil)))) me_int me_int))))) ma_nil)))) rfl (fun x34 => ?_)
    show MR _ _ [some .bag, some (.val x1), some (.val s4), none, some (.val x5), some (.val x6), some (.val x7), some (.val x8), some (.val x9), some (.val x10), some (.own ((s24 ++ [x31]) ++ [x34])), none, some (.val x20), some (.val x28), none, none, none] _
    refine mr_asg 14 nd rfl (.inr rfl) (mx_val (me_callB ok_law_draw 0 (Nat.le_of_ble_eq_true rfl) rfl rfl (.inl rfl) rfl (by decide) (ma_cons me_int ma_nil))) (fun x35 => ?_)
    show MR _ _ [some .bag, some (.val x1), some (.val s4), none, some (.val x5), some (.val x6), some (.val x7), some (.val x8), some (.val x9), some (.val x10), some (.own ((s24 ++ [x31]) ++ [x34])), none, some (.val x20), some (.val x28), some (.val x35), none, none] _
    refine mr_asg 15 nd rfl (.inl rfl) (mx_val (me_tuple rfl Z.tuple_ (mq_new (mf_lc0 [("k", 16)] nd (by dsimp only [blkG]; decide +kernel) (mi_range rfl Z.range_ (me_addD (me_addD (me_var 14 rfl (.inr (.inl rfl)) rfl) (me_var 1 rfl (.inr (.inl rfl)) rfl)) me_int)) (mg_name 16 nd rfl (.inl rfl)) (fun (a37 : D) => (me_ifE (mt_truth (me_call okis_binomial_odd (Nat.le_of_ble_eq_true rfl) rfl (ma_cons (me_addD (me_var 14 rfl (.inr (.inl rfl)) rfl) (me_var 1 rfl (.inr (.inl rfl)) rfl)) (ma_cons (me_var 16 rfl (.inl rfl) rfl) ma_nil)))) me_int me_int)))))) (fun x36 => ?_)
    show MR _ _ [some .bag, some (.val x1), some (.val s4), none, some (.val x5), some (.val x6), some (.val x7), some (.val x8), some (.val x9), some (.val x10), some (.own ((s24 ++ [x31]) ++ [x34])), none, some (.val x20), some (.val x28), some (.val x35), some (.val x36), none] _
    refine mr_append 10 rfl (.inl rfl) (me_new (mf_lst (ma_cons (me_call okpoly_product (Nat.le_of_ble_eq_true rfl) rfl (ma_cons (me_call okpoly_moved (Nat.le_of_ble_eq_true rfl) rfl (ma_cons (me_addD (me_mulD (me_tup (ma_cons me_int ma_nil)) (me_var 14 rfl (.inr (.inl rfl)) rfl)) (me_tup (ma_cons me_int ma_nil))) ma_nil)) (ma_cons (me_call ok_law_poly (Nat.le_of_ble_eq_true rfl) rfl (ma_cons (me_var 2 rfl (.inl rfl) rfl) ma_nil)) ma_nil))) (ma_cons (me_var 15 rfl (.inl rfl) rfl) ma_nil)))) rfl (fun x39 => ?_)
    show MR _ _ [some .bag, some (.val x1), some (.val s4), none, some (.val x5), some (.val x6), some (.val x7), some (.val x8), some (.val x9), some (.val x10), some (.own (((s24 ++ [x31]) ++ [x34]) ++ [x39])), none, some (.val x20), some (.val x28), some (.val x35), some (.val x36), none] _
    refine mr_freeze 10 rfl ?_
    show MR _ _ [some .bag, some (.val x1), some (.val s4), none, some (.val x5), some (.val x6), some (.val x7), some (.val x8), some (.val x9), some (.val x10), some (.val (.list (((s24 ++ [x31]) ++ [x34]) ++ [x39]))), none, some (.val x20), some (.val x28), some (.val x35), some (.val x36), none] _
    exact (mr_ret (me_andB (me_call ok_law_agree (Nat.le_of_ble_eq_true rfl) rfl (ma_cons (me_var 10 rfl (.inl rfl) rfl) ma_nil)) (me_one (me_eq (me_repr rfl Z.repr_ (me_new (mf_lst (ma_cons (me_var 6 rfl (.inl rfl) rfl) (ma_cons (me_var 7 rfl (.inl rfl) rfl) ma_nil))))) (me_var 9 rfl (.inl rfl) rfl)))))
abbrev s_law_are_joined_right : Stmt := topS 34
theorem sc_law_are_joined_right : FnScope ["bag", "turn", "i", "j", "one", "other", "a", "b", "found", "n", "more", "k", "due"] ["bag"] (defScope s_law_are_joined_right) := ⟨rfl, rfl, rfl, by decide +kernel, rfl, by decide +kernel, by decide +kernel⟩
def b_law_are_joined_right : Wp D := bnd (bnd (ret (.int 2)) rangeW) fun ds => bnd (forF (S := Unit) (fun (s1 : Unit) (d : D) => bnd ((PW.ret) d) fun (a12 : D) => bnd (op2 addD (ret (.int 1)) (bnd (consW (ret (.int 32)) (ret [])) drawF)) fun (x13 : D) => bnd (bnd (consW (ret (.int 33)) (ret [])) drawF) fun (x14 : D) => bnd (bnd (consW (bnd (consW (ret x13) (ret [])) flamp_poly) (consW (bnd (consW (op2 addD (ret x14) (ret (.int 1))) (ret [])) flamp_poly) (ret []))) fpoly_product) fun (x15 : D) => bnd (bnd (consW (bnd (consW (op2 subI (ret x13) (ret (.int 1))) (ret [])) flamp_poly) (consW (bnd (consW (ret x14) (ret [])) flamp_poly) (ret []))) fpoly_product) fun (x16 : D) => bnd (bnd (consW (ret (.int 66)) (ret [])) drawF) fun (x17 : D) => bnd (bnd (consW (bnd (lstW (consW (bnd (consW (ret (.int 66)) (ret [])) drawF) (consW (ret (.int 12)) (consW (ret (.int 30)) (consW (ret (.int 60)) (consW (ret (.int 64)) (ret []))))))) fun ds => ret (.list ds)) (ret [])) f_law_pick) fun (x18 : D) => bnd (lstW (consW (bnd (lstW (consW (bnd (consW (ret x15) (consW (ret x16) (ret []))) fpoly_sum) (consW (bnd (consW (op2 addD (ret x13) (ret x14)) (ret [])) flamp_poly) (ret [])))) fun ds => ret (.list ds)) (ret []))) fun (x19 : List D) => appW (bnd (lstW (consW (bnd (consW (bnd (consW (ret x17) (ret [])) flamp_poly) (consW (bnd (consW (ret x18) (ret [])) flamp_poly) (ret []))) fpoly_divisor) (consW (bnd (consW (bnd (consW (ret x17) (consW (ret x18) (ret []))) f_law_gcd) (ret [])) flamp_poly) (ret [])))) fun ds => ret (.list ds)) x19 fun (x20 : D) => bnd (tnot (bnd (bnd (consW (ret (.list (x19 ++ [x20]))) (ret [])) f_law_agree) truthD)) fun t21 => ifW t21 (retF (ret (.bool false))) (ret (.nx ()))) ds ()) (endR fun (s2 : Unit) => bnd (bnd (ret (.int 6)) rangeW) fun ds => bnd (forF (S := Unit) (fun (s3 : Unit) (d : D) => bnd ((PW.ret) d) fun (a5 : D) => bnd (bnd (consW (bnd (lstW (consW (bnd (consW (ret (.int 70)) (ret [])) drawF) (consW (op2 mulD (bnd (consW (op2 powI (ret (.int 10)) (ret (.int 9))) (ret [])) drawF) (ret (.int 1000))) (consW (op2 powI (ret (.int 10)) (ret (.int 12))) (consW (op2 subI (op2 shlI (ret (.int 1)) (ret (.int 39))) (ret (.int 1))) (ret [])))))) fun ds => ret (.list ds)) (ret [])) f_law_pick) fun (x6 : D) => bnd (bnd (bnd (op2 ltI (ret x6) (op2 powI (ret (.int 10)) (ret (.int 12)))) boolD) fun t8 => ifW t8 (op2 addD (ret x6) (ret (.int 1))) (op2 powI (ret (.int 10)) (ret (.int 12)))) fun (x7 : D) => bnd (bnd (consW (bnd (lstW (consW (op2 andI (ret x6) (bnd (consW (op2 shlI (ret (.int 1)) (ret (.int 28))) (ret [])) drawF)) (consW (bnd (consW (op2 powI (ret (.int 10)) (ret (.int 9))) (ret [])) drawF) (consW (ret x6) (consW (ret (.int 0)) (consW (ret x7) (ret []))))))) fun ds => ret (.list ds)) (ret [])) f_law_pick) fun (x9 : D) => bnd (bnd (consW (ret x6) (consW (ret x9) (ret []))) f_law_is_odd) fun (x10 : D) => bnd (tnot (bnd (bnd (consW (bnd (lstW (consW (bnd (lstW (consW (bnd (consW (ret x6) (consW (ret x9) (ret []))) fis_binomial_odd) (consW (ret x10) (ret [])))) fun ds => ret (.list ds)) (consW (bnd (lstW (consW (bnd (consW (ret x9) (consW (ret x6) (ret []))) fun ds => fis_binomial_odd (perm 0 2 [1, 0] [] ds)) (consW (ret x10) (ret [])))) fun ds => ret (.list ds)) (ret [])))) fun ds => ret (.list ds)) (ret [])) f_law_agree) truthD)) fun t11 => ifW t11 (retF (ret (.bool false))) (ret (.nx ()))) ds ()) (endR fun (s4 : Unit) => ret (.bool true)))
def f_law_are_joined_right : List D → Wp D
  | [] => b_law_are_joined_right 
  | _ => nay
theorem ok_law_are_joined_right (h_law_are_joined_right : Has K mg "_law_are_joined_right" s_law_are_joined_right) (Z : Free mg) (okis_binomial_odd : FnS P w K mg base "is_binomial_odd" sis_binomial_odd 1 false ["n", "k"] fis_binomial_odd) (okpoly_sum : FnS P w K mg base "poly_sum" spoly_sum 2 false ["one", "other"] fpoly_sum) (okpoly_product : FnS P w K mg base "poly_product" spoly_product 2 false ["one", "other"] fpoly_product) (okpoly_divisor : FnS P w K mg base "poly_divisor" spoly_divisor 2 false ["one", "other"] fpoly_divisor) (oklamp_poly : FnS P w K mg base "lamp_poly" slamp_poly 2 false ["i"] flamp_poly) (ok_law_draw : FnS P w K mg base "_law_draw" s_law_draw 1 true ["bag", "below"] drawF) (ok_law_pick : FnS P w K mg base "_law_pick" s_law_pick 2 true ["bag", "some"] f_law_pick) (ok_law_agree : FnS P w K mg base "_law_agree" s_law_agree 2 false ["rows"] f_law_agree) (ok_law_gcd : FnS P w K mg base "_law_gcd" s_law_gcd 1 false ["a", "b"] f_law_gcd) (ok_law_is_odd : FnS P w K mg base "_law_is_odd" s_law_is_odd 1 false ["n", "k"] f_law_is_odd) : FnS P w K mg base "_law_are_joined_right" s_law_are_joined_right 3 true ["bag"] f_law_are_joined_right := by
  obtain ⟨a, fd, gm, F⟩ := h_law_are_joined_right
  have nd := sc_law_are_joined_right.nd
  refine fnS_of true 12 F gm sc_law_are_joined_right (F.binds (ps := ["bag"]) fun _ _ _ _ _ _ us hl => match us, hl with | [_], _ => rfl) rfl (by decide) (fun ds Q h => ?_) fun ds hl => ?_
  · unfold f_law_are_joined_right at h; split at h; · rfl
    · exact h.elim
  · obtain ⟨rfl⟩ := len0 hl
    refine (show MR _ _ _ (b_law_are_joined_right ) from ?_)
    delta b_law_are_joined_right
    show MR _ _ [some .bag, none, none, none, none, none, none, none, none, none, none, none, none] _
    refine mr_forF (fun (s1 : Unit) => [some .bag, none, none, none, none, none, none, none, none, none, none, none, none]) () (.keep (.drop (.drop (.drop (.drop (.drop (.drop (.drop (.drop (.drop (.drop (.drop (.drop .nil))))))))))))) (mi_range rfl Z.range_ me_int) (fun s1 => (mg_name 1 nd rfl (.inl rfl))) (fun s1 (a12 : D) => ?_) (fun s2 => ?_)
    · show MS _ _ [some .bag, some (.val a12), none, none, none, none, none, none, none, none, none, none, none] _ _ _
      refine ms_par2 2 3 nd rfl rfl rfl rfl (mx_val (me_addD me_int (me_callB ok_law_draw 0 (Nat.le_of_ble_eq_true rfl) rfl rfl (.inl rfl) rfl (by decide) (ma_cons me_int ma_nil)))) (mx_val (me_callB ok_law_draw 0 (Nat.le_of_ble_eq_true rfl) rfl rfl (.inl rfl) rfl (by decide) (ma_cons me_int ma_nil))) (fun x13 x14 => ?_) (hne := by decide) (hw := by first | (intro _ _; rfl) | (intro v h; cases v; cases h; rfl))
      show MS _ _ [some .bag, some (.val a12), some (.val x13), some (.val x14), none, none, none, none, none, none, none, none, none] _ _ _
      refine ms_asg 4 nd rfl (.inl rfl) (mx_val (me_call okpoly_product (Nat.le_of_ble_eq_true rfl) rfl (ma_cons (me_call oklamp_poly (Nat.le_of_ble_eq_true rfl) rfl (ma_cons (me_var 2 rfl (.inl rfl) rfl) ma_nil)) (ma_cons (me_call oklamp_poly (Nat.le_of_ble_eq_true rfl) rfl (ma_cons (me_addD (me_var 3 rfl (.inl rfl) rfl) me_int) ma_nil)) ma_nil)))) (fun x15 => ?_)
      show MS _ _ [some .bag, some (.val a12), some (.val x13), some (.val x14), some (.val x15), none, none, none, none, none, none, none, none] _ _ _
      refine ms_asg 5 nd rfl (.inl rfl) (mx_val (me_call okpoly_product (Nat.le_of_ble_eq_true rfl) rfl (ma_cons (me_call oklamp_poly (Nat.le_of_ble_eq_true rfl) rfl (ma_cons (me_sub (me_var 2 rfl (.inl rfl) rfl) me_int) ma_nil)) (ma_cons (me_call oklamp_poly (Nat.le_of_ble_eq_true rfl) rfl (ma_cons (me_var 3 rfl (.inl rfl) rfl) ma_nil)) ma_nil)))) (fun x16 => ?_)
      show MS _ _ [some .bag, some (.val a12), some (.val x13), some (.val x14), some (.val x15), some (.val x16), none, none, none, none, none, none, none] _ _ _
      refine ms_par2 6 7 nd rfl rfl rfl rfl (mx_val (me_callB ok_law_draw 0 (Nat.le_of_ble_eq_true rfl) rfl rfl (.inl rfl) rfl (by decide) (ma_cons me_int ma_nil))) (mx_val (me_callB ok_law_pick 0 (Nat.le_of_ble_eq_true rfl) rfl rfl (.inl rfl) rfl (by decide) (ma_cons (me_new (mf_lst (ma_cons (me_callB ok_law_draw 0 (Nat.le_of_ble_eq_true rfl) rfl rfl (.inl rfl) rfl (by decide) (ma_cons me_int ma_nil)) (ma_cons me_int (ma_cons me_int (ma_cons me_int (ma_cons me_int ma_nil))))))) ma_nil))) (fun x17 x18 => ?_) (hne := by decide) (hw := by first | (intro _ _; rfl) | (intro v h; cases v; cases h; rfl))
      show MS _ _ [some .bag, some (.val a12), some (.val x13), some (.val x14), some (.val x15), some (.val x16), some (.val x17), some (.val x18), none, none, none, none, none] _ _ _
      refine ms_asg 8 nd rfl (.inl rfl) (mx_own (mf_lst (ma_cons (me_new (mf_lst (ma_cons (me_call okpoly_sum (Nat.le_of_ble_eq_true rfl) rfl (ma_cons (me_var 4 rfl (.inl rfl) rfl) (ma_cons (me_var 5 rfl (.inl rfl) rfl) ma_nil))) (ma_cons (me_call oklamp_poly (Nat.le_of_ble_eq_true rfl) rfl (ma_cons (me_addD (me_var 2 rfl (.inl rfl) rfl) (me_var 3 rfl (.inl rfl) rfl)) ma_nil)) ma_nil)))) ma_nil))) (fun x19 => ?_)
      show MS _ _ [some .bag, some (.val a12), some (.val x13), some (.val x14), some (.val x15), some (.val x16), some (.val x17), some (.val x18), some (.own x19), none, none, none, none] _ _ _
      refine ms_append 8 rfl (.inl rfl) (me_new (mf_lst (ma_cons (me_call okpoly_divisor (Nat.le_of_ble_eq_true rfl) rfl (ma_cons (me_call oklamp_poly (Nat.le_of_ble_eq_true rfl) rfl (ma_cons (me_var 6 rfl (.inl rfl) rfl) ma_nil)) (ma_cons (me_call oklamp_poly (Nat.le_of_ble_eq_true rfl) rfl (ma_cons (me_var 7 rfl (.inl rfl) rfl) ma_nil)) ma_nil))) (ma_cons (me_call oklamp_poly (Nat.le_of_ble_eq_true rfl) rfl (ma_cons (me_call ok_law_gcd (Nat.le_of_ble_eq_true rfl) rfl (ma_cons (me_var 6 rfl (.inl rfl) rfl) (ma_cons (me_var 7 rfl (.inl rfl) rfl) ma_nil))) ma_nil)) ma_nil)))) rfl (fun x20 => ?_)
      show MS _ _ [some .bag, some (.val a12), some (.val x13), some (.val x14), some (.val x15), some (.val x16), some (.val x17), some (.val x18), some (.own (x19 ++ [x20])), none, none, none, none] _ _ _
      refine ms_freeze 8 rfl ?_
      show MS _ _ [some .bag, some (.val a12), some (.val x13), some (.val x14), some (.val x15), some (.val x16), some (.val x17), some (.val x18), some (.val (.list (x19 ++ [x20]))), none, none, none, none] _ _ _
      refine ms_ifr (mt_not (mt_truth (me_call ok_law_agree (Nat.le_of_ble_eq_true rfl) rfl (ma_cons (me_var 8 rfl (.inl rfl) rfl) ma_nil)))) ?_ ?_
      · show MR _ _ [some .bag, some (.val a12), some (.val x13), some (.val x14), some (.val x15), some (.val x16), some (.val x17), some (.val x18), some (.val (.list (x19 ++ [x20]))), none, none, none, none] _
        exact (mr_ret me_bl)
      show MS _ _ [some .bag, some (.val a12), some (.val x13), some (.val x14), some (.val x15), some (.val x16), some (.val x17), some (.val x18), some (.val (.list (x19 ++ [x20]))), none, none, none, none] _ _ _
      exact (ms_nil (.keep (.drop (.drop (.drop (.drop (.drop (.drop (.drop (.drop (.drop (.drop (.drop (.drop .nil))))))))))))))
    show MR _ _ [some .bag, none, none, none, none, none, none, none, none, none, none, none, none] _
    refine mr_forF (fun (s3 : Unit) => [some .bag, none, none, none, none, none, none, none, none, none, none, none, none]) () (.keep (.drop (.drop (.drop (.drop (.drop (.drop (.drop (.drop (.drop (.drop (.drop (.drop .nil))))))))))))) (mi_range rfl Z.range_ me_int) (fun s3 => (mg_name 1 nd rfl (.inl rfl))) (fun s3 (a5 : D) => ?_) (fun s4 => ?_)
    · show MS _ _ [some .bag, some (.val a5), none, none, none, none, none, none, none, none, none, none, none] _ _ _
      refine ms_asg 9 nd rfl (.inl rfl) (mx_val (me_callB ok_law_pick 0 (Nat.le_of_ble_eq_true rfl) rfl rfl (.inl rfl) rfl (by decide) (ma_cons (me_new (mf_lst (ma_cons (me_callB ok_law_draw 0 (Nat.le_of_ble_eq_true rfl) rfl rfl (.inl rfl) rfl (by decide) (ma_cons me_int ma_nil)) (ma_cons (me_mulD (me_callB ok_law_draw 0 (Nat.le_of_ble_eq_true rfl) rfl rfl (.inl rfl) rfl (by decide) (ma_cons (me_pow me_int me_int) ma_nil)) me_int) (ma_cons (me_pow me_int me_int) (ma_cons (me_sub (me_shl me_int me_int) me_int) ma_nil)))))) ma_nil))) (fun x6 => ?_)
      show MS _ _ [some .bag, some (.val a5), none, none, none, none, none, none, none, some (.val x6), none, none, none] _ _ _
      refine ms_asg 10 nd rfl (.inl rfl) (mx_val (me_ifE (mt_lt (me_var 9 rfl (.inl rfl) rfl) (me_pow me_int me_int)) (me_addD (me_var 9 rfl (.inl rfl) rfl) me_int) (me_pow me_int me_int))) (fun x7 => ?_)
      show MS _ _ [some .bag, some (.val a5), none, none, none, none, none, none, none, some (.val x6), some (.val x7), none, none] _ _ _
      refine ms_asg 11 nd rfl (.inl rfl) (mx_val (me_callB ok_law_pick 0 (Nat.le_of_ble_eq_true rfl) rfl rfl (.inl rfl) rfl (by decide) (ma_cons (me_new (mf_lst (ma_cons (me_and (me_var 9 rfl (.inl rfl) rfl) (me_callB ok_law_draw 0 (Nat.le_of_ble_eq_true rfl) rfl rfl (.inl rfl) rfl (by decide) (ma_cons (me_shl me_int me_int) ma_nil))) (ma_cons (me_callB ok_law_draw 0 (Nat.le_of_ble_eq_true rfl) rfl rfl (.inl rfl) rfl (by decide) (ma_cons (me_pow me_int me_int) ma_nil)) (ma_cons (me_var 9 rfl (.inl rfl) rfl) (ma_cons me_int (ma_cons (me_var 10 rfl (.inl rfl) rfl) ma_nil))))))) ma_nil))) (fun x9 => ?_)
      show MS _ _ [some .bag, some (.val a5), none, none, none, none, none, none, none, some (.val x6), some (.val x7), some (.val x9), none] _ _ _
      refine ms_asg 12 nd rfl (.inl rfl) (mx_val (me_call ok_law_is_odd (Nat.le_of_ble_eq_true rfl) rfl (ma_cons (me_var 9 rfl (.inl rfl) rfl) (ma_cons (me_var 11 rfl (.inl rfl) rfl) ma_nil)))) (fun x10 => ?_)
      show MS _ _ [some .bag, some (.val a5), none, none, none, none, none, none, none, some (.val x6), some (.val x7), some (.val x9), some (.val x10)] _ _ _
      refine ms_ifr (mt_not (mt_truth (me_call ok_law_agree (Nat.le_of_ble_eq_true rfl) rfl (ma_cons (me_new (mf_lst (ma_cons (me_new (mf_lst (ma_cons (me_call okis_binomial_odd (Nat.le_of_ble_eq_true rfl) rfl (ma_cons (me_var 9 rfl (.inl rfl) rfl) (ma_cons (me_var 11 rfl (.inl rfl) rfl) ma_nil))) (ma_cons (me_var 12 rfl (.inl rfl) rfl) ma_nil)))) (ma_cons (me_new (mf_lst (ma_cons (me_callK0 (ks := ["k", "n"]) [1, 0] okis_binomial_odd (Nat.le_of_ble_eq_true rfl) rfl (by decide) (fun _ _ _ _ _ _ us ws hu hw => match us, ws, hu, hw with | [], [_, _], _, _ => rfl) (mk_cons (me_var 11 rfl (.inl rfl) rfl) (mk_cons (me_var 9 rfl (.inl rfl) rfl) mk_nil))) (ma_cons (me_var 12 rfl (.inl rfl) rfl) ma_nil)))) ma_nil)))) ma_nil)))) ?_ ?_
      · show MR _ _ [some .bag, some (.val a5), none, none, none, none, none, none, none, some (.val x6), some (.val x7), some (.val x9), some (.val x10)] _
        exact (mr_ret me_bl)
      show MS _ _ [some .bag, some (.val a5), none, none, none, none, none, none, none, some (.val x6), some (.val x7), some (.val x9), some (.val x10)] _ _ _
      exact (ms_nil (.keep (.drop (.drop (.drop (.drop (.drop (.drop (.drop (.drop (.drop (.drop (.drop (.drop .nil))))))))))))))
    show MR _ _ [some .bag, none, none, none, none, none, none, none, none, none, none, none, none] _
    exact (mr_ret me_bl)
abbrev slaw : Stmt := topS 35
theorem sclaw : FnScope ["script", "bag"] ["script"] (defScope slaw) := ⟨rfl, rfl, rfl, by decide +kernel, rfl, by decide +kernel, by decide +kernel⟩
def blaw : Wp D := bnd (tor (tnot (bnd (bnd (ret []) f_law_are_lamps_right) truthD)) (tnot (bnd (bnd (ret []) f_law_are_joined_right) truthD))) fun t1 => ifW t1 (ret (.bool false)) (andW (bnd (ret []) f_law_are_polys_right) (bnd (ret []) f_law_are_polys_right))
theorem oklaw {a : Addr} {fd : FuncData} (F : Fun K "law" "law" slaw a fd) (hown : Has K mg "_law_own_bag" s_law_own_bag) (Z : Free mg) (ok_law_are_lamps_right : FnS P w K mg base "_law_are_lamps_right" s_law_are_lamps_right 3 true ["bag"] f_law_are_lamps_right) (ok_law_are_polys_right : FnS P w K mg base "_law_are_polys_right" s_law_are_polys_right 4 true ["bag"] f_law_are_polys_right) (ok_law_are_joined_right : FnS P w K mg base "_law_are_joined_right" s_law_are_joined_right 3 true ["bag"] f_law_are_joined_right) : FnG P w K mg base 5 a fd ["script"] (lawSp K blaw) := by
  obtain ⟨ao, fdo, go, Fo⟩ := hown
  have nd := sclaw.nd
  refine law_fn F sclaw (ok_own Fo Z.int_ Z.abs_ Z.len_ Z.list_ Z.reversed_) go Fo.kp (Fo.binds (ps := ["script"]) fun _ _ _ _ _ _ us hl => match us, hl with | [_], _ => rfl) (by decide) rfl rfl rfl rfl ?_
  delta blaw
  show MR _ _ [none, some .bag] _
  refine mr_ifr (mt_w (mw_or (mt_not (mt_truth (me_callB ok_law_are_lamps_right 1 (Nat.le_of_ble_eq_true rfl) rfl rfl (.inl rfl) rfl (by decide) ma_nil))) (mw_or1 (mt_not (mt_truth (me_callB ok_law_are_joined_right 1 (Nat.le_of_ble_eq_true rfl) rfl rfl (.inl rfl) rfl (by decide) ma_nil)))))) ?_ ?_
  · show MR _ _ [none, some .bag] _
    exact (mr_ret me_bl)
  show MR _ _ [none, some .bag] _
  exact (mr_ret (me_andB (me_callB ok_law_are_polys_right 1 (Nat.le_of_ble_eq_true rfl) rfl rfl (.inl rfl) rfl (by decide) ma_nil) (me_one (me_callB ok_law_are_polys_right 1 (Nat.le_of_ble_eq_true rfl) rfl rfl (.inl rfl) rfl (by decide) ma_nil))))
end
theorem all_mk {l : PySem.W.OpenLaw} {w : World} {K : PySem.W.Frag} {h : Heap} {mg : Str → Option Value} {fa : Addr} (X : K.In h) (G : h.Ns mainGlobals mg) (hfa : mg "law" = some (.ref fa))
    (m_law_own_bag : Met K "_law_own_bag" s_law_own_bag) (mis_binomial_odd : Met K "is_binomial_odd" sis_binomial_odd) (mmask_poly : Met K "mask_poly" smask_poly) (mlamp_poly : Met K "lamp_poly" slamp_poly) (m_law_draw : Met K "_law_draw" s_law_draw) (m_law_pick : Met K "_law_pick" s_law_pick) (m_law_same : Met K "_law_same" s_law_same) (m_law_agree : Met K "_law_agree" s_law_agree) (m_law_poly : Met K "_law_poly" s_law_poly) (m_law_lamp : Met K "_law_lamp" s_law_lamp) (m_law_is_odd : Met K "_law_is_odd" s_law_is_odd) (m_law_are_lamps_right : Met K "_law_are_lamps_right" s_law_are_lamps_right) (mpoly_mask : Met K "poly_mask" spoly_mask) (mpoly_sum : Met K "poly_sum" spoly_sum) (mmasks_product : Met K "masks_product" smasks_product) (mpoly_product : Met K "poly_product" spoly_product) (mmasks_rest : Met K "masks_rest" smasks_rest) (mpoly_rest : Met K "poly_rest" spoly_rest) (mpoly_divisor : Met K "poly_divisor" spoly_divisor) (mpoly_moved : Met K "poly_moved" spoly_moved) (m_law_times : Met K "_law_times" s_law_times) (m_law_degree : Met K "_law_degree" s_law_degree) (m_law_rest : Met K "_law_rest" s_law_rest) (m_law_divisor : Met K "_law_divisor" s_law_divisor) (m_law_moved : Met K "_law_moved" s_law_moved) (m_law_some_poly : Met K "_law_some_poly" s_law_some_poly) (m_law_are_polys_right : Met K "_law_are_polys_right" s_law_are_polys_right) (m_law_gcd : Met K "_law_gcd" s_law_gcd) (m_law_are_joined_right : Met K "_law_are_joined_right" s_law_are_joined_right) (mlaw : Met K "law" slaw)
    (zabs : PySem.W.nsIn K mainGlobals "abs" = some none) (zall : PySem.W.nsIn K mainGlobals "all" = some none) (zenumerate : PySem.W.nsIn K mainGlobals "enumerate" = some none) (zint : PySem.W.nsIn K mainGlobals "int" = some none) (zlen : PySem.W.nsIn K mainGlobals "len" = some none) (zlist : PySem.W.nsIn K mainGlobals "list" = some none) (zrange : PySem.W.nsIn K mainGlobals "range" = some none) (zrepr : PySem.W.nsIn K mainGlobals "repr" = some none) (zreversed : PySem.W.nsIn K mainGlobals "reversed" = some none) (zsum : PySem.W.nsIn K mainGlobals "sum" = some none) (ztuple : PySem.W.nsIn K mainGlobals "tuple" = some none) :
    ∃ fd : FuncData, (∀ (s : Shared) (u : Value), BindsTo s fd ⟨[u], []⟩ [("script", u)]) ∧ ∀ base : Heap, K.In base → base.Ns mainGlobals mg → FnG l.prog w K mg base 5 fa fd ["script"] (lawSp K blaw) := by
  have Z : Free mg := ⟨PySem.W.mg_none_of X G zabs, PySem.W.mg_none_of X G zall, PySem.W.mg_none_of X G zenumerate, PySem.W.mg_none_of X G zint, PySem.W.mg_none_of X G zlen, PySem.W.mg_none_of X G zlist, PySem.W.mg_none_of X G zrange, PySem.W.mg_none_of X G zrepr, PySem.W.mg_none_of X G zreversed, PySem.W.mg_none_of X G zsum, PySem.W.mg_none_of X G ztuple⟩
  have h_law_own_bag := has_of X G m_law_own_bag
  have his_binomial_odd := has_of X G mis_binomial_odd
  have hmask_poly := has_of X G mmask_poly
  have hlamp_poly := has_of X G mlamp_poly
  have h_law_draw := has_of X G m_law_draw
  have h_law_pick := has_of X G m_law_pick
  have h_law_same := has_of X G m_law_same
  have h_law_agree := has_of X G m_law_agree
  have h_law_poly := has_of X G m_law_poly
  have h_law_lamp := has_of X G m_law_lamp
  have h_law_is_odd := has_of X G m_law_is_odd
  have h_law_are_lamps_right := has_of X G m_law_are_lamps_right
  have hpoly_mask := has_of X G mpoly_mask
  have hpoly_sum := has_of X G mpoly_sum
  have hmasks_product := has_of X G mmasks_product
  have hpoly_product := has_of X G mpoly_product
  have hmasks_rest := has_of X G mmasks_rest
  have hpoly_rest := has_of X G mpoly_rest
  have hpoly_divisor := has_of X G mpoly_divisor
  have hpoly_moved := has_of X G mpoly_moved
  have h_law_times := has_of X G m_law_times
  have h_law_degree := has_of X G m_law_degree
  have h_law_rest := has_of X G m_law_rest
  have h_law_divisor := has_of X G m_law_divisor
  have h_law_moved := has_of X G m_law_moved
  have h_law_some_poly := has_of X G m_law_some_poly
  have h_law_are_polys_right := has_of X G m_law_are_polys_right
  have h_law_gcd := has_of X G m_law_gcd
  have h_law_are_joined_right := has_of X G m_law_are_joined_right
  have hlaw := has_of X G mlaw
  obtain ⟨a, fd, gm, F⟩ := hlaw
  cases hfa.symm.trans gm
  refine ⟨fd, fun s u => ?_, fun base _ _ => ?_⟩
  · obtain ⟨oc, od, kV, doc, pm, an, cdv, ct, osl, rfl, _⟩ := F.ex
    exact .of_eq rfl
  have okis_binomial_odd_ := okis_binomial_odd (P := l.prog) (w := w) (base := base) his_binomial_odd Z 
  have okmask_poly_ := okmask_poly (P := l.prog) (w := w) (base := base) hmask_poly Z 
  have oklamp_poly_ := oklamp_poly (P := l.prog) (w := w) (base := base) hlamp_poly Z okmask_poly_
  have ok_law_draw_ := ok_draw (P := l.prog) (w := w) (base := base) h_law_draw Z.range_ Z.int_
  have ok_law_pick_ := ok_law_pick (P := l.prog) (w := w) (base := base) h_law_pick Z ok_law_draw_
  have ok_law_same_ := ok_law_same (P := l.prog) (w := w) (base := base) h_law_same Z 
  have ok_law_agree_ := ok_law_agree (P := l.prog) (w := w) (base := base) h_law_agree Z ok_law_same_
  have ok_law_poly_ := ok_law_poly (P := l.prog) (w := w) (base := base) h_law_poly Z 
  have ok_law_lamp_ := ok_law_lamp (P := l.prog) (w := w) (base := base) h_law_lamp Z 
  have ok_law_is_odd_ := ok_law_is_odd (P := l.prog) (w := w) (base := base) h_law_is_odd Z 
  have ok_law_are_lamps_right_ := ok_law_are_lamps_right (P := l.prog) (w := w) (base := base) h_law_are_lamps_right Z okis_binomial_odd_ oklamp_poly_ ok_law_draw_ ok_law_pick_ ok_law_same_ ok_law_agree_ ok_law_poly_ ok_law_lamp_ ok_law_is_odd_
  have okpoly_mask_ := okpoly_mask (P := l.prog) (w := w) (base := base) hpoly_mask Z 
  have okpoly_sum_ := okpoly_sum (P := l.prog) (w := w) (base := base) hpoly_sum Z okpoly_mask_ okmask_poly_
  have okmasks_product_ := okmasks_product (P := l.prog) (w := w) (base := base) hmasks_product Z 
  have okpoly_product_ := okpoly_product (P := l.prog) (w := w) (base := base) hpoly_product Z okpoly_mask_ okmask_poly_ okmasks_product_
  have okmasks_rest_ := okmasks_rest (P := l.prog) (w := w) (base := base) hmasks_rest Z 
  have okpoly_rest_ := okpoly_rest (P := l.prog) (w := w) (base := base) hpoly_rest Z okpoly_mask_ okmask_poly_ okmasks_rest_
  have okpoly_divisor_ := okpoly_divisor (P := l.prog) (w := w) (base := base) hpoly_divisor Z okpoly_mask_ okmask_poly_ okmasks_rest_
  have okpoly_moved_ := okpoly_moved (P := l.prog) (w := w) (base := base) hpoly_moved Z okmask_poly_
  have ok_law_times_ := ok_law_times (P := l.prog) (w := w) (base := base) h_law_times Z 
  have ok_law_degree_ := ok_law_degree (P := l.prog) (w := w) (base := base) h_law_degree Z 
  have ok_law_rest_ := ok_law_rest (P := l.prog) (w := w) (base := base) h_law_rest Z ok_law_degree_
  have ok_law_divisor_ := ok_law_divisor (P := l.prog) (w := w) (base := base) h_law_divisor Z ok_law_rest_
  have ok_law_moved_ := ok_law_moved (P := l.prog) (w := w) (base := base) h_law_moved Z ok_law_degree_
  have ok_law_some_poly_ := ok_law_some_poly (P := l.prog) (w := w) (base := base) h_law_some_poly Z ok_law_draw_
  have ok_law_are_polys_right_ := ok_law_are_polys_right (P := l.prog) (w := w) (base := base) h_law_are_polys_right Z okis_binomial_odd_ okpoly_sum_ okpoly_product_ okpoly_rest_ okpoly_divisor_ okpoly_moved_ ok_law_draw_ ok_law_pick_ ok_law_agree_ ok_law_poly_ ok_law_times_ ok_law_rest_ ok_law_divisor_ ok_law_moved_ ok_law_is_odd_ ok_law_some_poly_
  have ok_law_gcd_ := ok_law_gcd (P := l.prog) (w := w) (base := base) h_law_gcd Z 
  have ok_law_are_joined_right_ := ok_law_are_joined_right (P := l.prog) (w := w) (base := base) h_law_are_joined_right Z okis_binomial_odd_ okpoly_sum_ okpoly_product_ okpoly_divisor_ oklamp_poly_ ok_law_draw_ ok_law_pick_ ok_law_agree_ ok_law_gcd_ ok_law_is_odd_
  exact oklaw F h_law_own_bag Z ok_law_are_lamps_right_ ok_law_are_polys_right_ ok_law_are_joined_right_
end L57

set_option Elab.async false
set_option linter.all false
set_option maxRecDepth 100000
set_option maxHeartbeats 4000000
namespace L57
open PySem PySem.Spec PyProof.Rows L2 PW
theorem shr_zero {k n : Nat} : k >>> n = 0 ↔ bl k ≤ n := by
  rw [← Nat.not_lt, ← shr_pos, Nat.pos_iff_ne_zero, Classical.not_not]
theorem line20 : 2 ^ 20 ≤ sizeLine := by decide
theorem line27 : 1000000 ≤ 2 ^ 27 := by decide
theorem e_poly_mask {m : Nat} (h : bl m ≤ 1000) : fpoly_mask [polyD m] = PW.ret (nI m) := poly_mask_w (by omega)
theorem e_mask_poly {m : Nat} (h : bl m ≤ 1000) : fmask_poly [nI m] = PW.ret (polyD m) := mask_poly_w (by have := line20; omega)
theorem e_law_poly {m : Nat} (h : bl m ≤ 300) : f_law_poly [nI m] = PW.ret (polyD m) := law_poly_w (k := 300) (by decide) h
/-! ### products -/
theorem goes_prod {c : D × D → Wp Bool} {b : D × D → Wp (D × D)} (a k : Nat) (hc : ∀ f p, c (f, nI p) = PW.ret (!decide (k >>> p = 0))) (hb : ∀ f p, p < bl k → b (nI f, nI p) = PW.ret (nI (if bitAt k p = 1 then f ^^^ (a <<< p) else f), nI (p + 1))) :
    ∀ n p : Nat, p + n = bl k → Goes c b (nI (clN a k p), nI p) (nI (clN a k (bl k)), nI (bl k))
  | 0, p, h => by
    have e : p = bl k := by omega
    subst e
    refine .stop ?_
    rw [hc, decide_eq_true (shr_zero.mpr (Nat.le_refl _))]
    rfl
  | n + 1, p, h => by
    refine .go (s1 := (nI (clN a k (p + 1)), nI (p + 1))) ?_ ?_ (goes_prod a k hc hb n (p + 1) (by omega))
    · rw [hc, decide_eq_false fun z => by have := shr_zero.mp z; omega]
      rfl
    · rw [hb _ p (by omega)]
      rfl
theorem turn_prod {a k f p : Nat} (ha : bl a + p ≤ 2 ^ 27) : (bnd (bnd (op2 eqD (op2 andI (op2 shrI (PW.ret (nI k)) (PW.ret (nI p))) (PW.ret (.int 1))) (PW.ret (.int 1))) boolD) fun t => ifW t (bnd (op2 xorI (PW.ret (nI f)) (op2 shlI (PW.ret (nI a)) (PW.ret (nI p)))) fun x => PW.ret x) (PW.ret (nI f))) = PW.ret (nI (if bitAt k p = 1 then f ^^^ (a <<< p) else f)) := by
  show (bnd (bnd (bnd (bnd (shrI (nI k) (nI p)) fun x => andI x (nI 1)) fun x => eqD x (nI 1)) boolD) fun t => ifW t (bnd (bnd (shlI (nI a) (nI p)) fun y => xorI (nI f) y) fun x => PW.ret x) (PW.ret (nI f))) = _
  rw [shrI_nat, bnd_ret, andI_nat, and_one, bnd_ret, eqD_nat, shlI_nat ha]
  simp only [bnd_ret, xorI_nat]
  show ifW (decide (bitAt k p = 1)) _ _ = _
  by_cases h : bitAt k p = 1
  · rw [decide_eq_true h, if_pos h]; rfl
  · rw [decide_eq_false h, if_neg h]; rfl
theorem e_masks_product {a k : Nat} (h1 : bl a ≤ 500) (h2 : bl k ≤ 500) : fmasks_product [nI a, nI k] = PW.ret (nI (clN a k (bl k))) := by
  show bmasks_product (nI a) (nI k) = _
  unfold bmasks_product
  rw [bnd_ret, bnd_ret]
  refine (congrArg (fun m => bnd m _) (loopW_eq (s2 := (nI (clN a k (bl k)), nI (bl k))) (goes_prod a k (fun f p => ?_) (fun f p hp => ?_) (bl k) 0 (by omega)))).trans rfl
  · show bnd (bnd (shrI (nI k) (nI p)) fun x => neD x (nI 0)) boolD = _
    rw [shrI_nat, bnd_ret, neD_nat]
    rfl
  · have := turn_prod (k := k) (f := f) (show bl a + p ≤ 2 ^ 27 by omega)
    rw [← bnd_bnd]
    refine (congrArg (fun m => bnd m _) this).trans ?_
    show PW.ret (_, PyData.int ((p : Int) + 1)) = _
    congr 1
theorem e_law_times {a k : Nat} (h1 : bl a ≤ 500) (h2 : bl k ≤ 140) : f_law_times [nI a, nI k] = PW.ret (nI (clN a k (bl k))) := by
  show b_law_times (nI a) (nI k) = _
  unfold b_law_times
  rw [bnd_ret, bnd_ret, show rangeW (.int 140) = PW.ret ((List.range 140).map nI) from rangeW_nat (n := 140) (by decide), bnd_ret]
  have go : ∀ n : Nat, n ≤ 140 → ((List.range n).map nI).foldl (fun (s d : D) => match s, d with
      | .int f, .int p => nI (if bitAt k p.toNat = 1 then f.toNat ^^^ (a <<< p.toNat) else f.toNat)
      | _, _ => .none) (nI 0) = nI (clN a k n) := fun n => by
    induction n with
    | zero => intro _; rfl
    | succ n ih =>
      intro hn
      rw [List.range_succ, List.map_append, List.foldl_append, ih (by omega)]
      rfl
  have inv := forW_inv (b := fun (s2 : D) (d : D) => bnd (PW.ret d) fun (a4 : D) => bnd (bnd (op2 eqD (op2 andI (op2 shrI (PW.ret (nI k)) (PW.ret a4)) (PW.ret (.int 1))) (PW.ret (.int 1))) boolD) fun t5 => bnd (ifW t5 (bnd (op2 xorI (PW.ret s2) (op2 shlI (PW.ret (nI a)) (PW.ret a4))) fun (x7 : D) => PW.ret x7) (PW.ret s2)) fun (s6 : D) => PW.ret s6)
    (fun (s d : D) => match s, d with
      | .int f, .int p => nI (if bitAt k p.toNat = 1 then f.toNat ^^^ (a <<< p.toNat) else f.toNat)
      | _, _ => .none) (fun s => ∃ f : Nat, s = nI f) ((List.range 140).map nI) (nI 0) ⟨0, rfl⟩ (fun s hs d hd => by
        obtain ⟨f, rfl⟩ := hs
        obtain ⟨p, hp, rfl⟩ := List.mem_map.mp hd
        have hp := List.mem_range.mp hp
        have := turn_prod (k := k) (f := f) (show bl a + p ≤ 2 ^ 27 by omega)
        exact ⟨this, _, rfl⟩)
  refine (congrArg (fun m => bnd m _) inv).trans ?_
  rw [go 140 (Nat.le_refl _)]
  show PW.ret (nI (clN a k 140)) = _
  rw [show (140 : Nat) = bl k + (140 - bl k) by omega, clN_high]
/-! ### rests -/
theorem bitsW_nat (m : Nat) : bitsW (PW.ret (nI m)) = PW.ret (nI (bl m)) := by
  show PW.ret (PyData.int ((Builtin.Int.intBits (m : Int) : Nat) : Int)) = _
  rw [intBits_nat]
theorem subI_nat {a b : Nat} (h : b ≤ a) : subI (nI a) (nI b) = PW.ret (nI (a - b)) := by
  rw [subI_int]
  congr 1
  show PyData.int _ = PyData.int _
  congr 1
  omega
theorem geI_nat (a b : Nat) : geI (nI a) (nI b) = PW.ret (.bool (decide (b ≤ a))) := by
  rw [geI_int]
  congr 2
  exact decide_eq_decide.mpr (by omega)
theorem gtI_zero (a : Nat) : gtI (nI a) (.int 0) = PW.ret (.bool (!decide (a = 0))) := by
  rw [gtI_int]
  congr 2
  by_cases h : a = 0
  · rw [h]; rfl
  · rw [decide_eq_false h, decide_eq_true (by omega)]; rfl
theorem goes_rest {c : D → Wp Bool} {b : D → Wp D} {k : Nat} (hk : k ≠ 0) (hc : ∀ v, c (nI v) = PW.ret (decide (bl k ≤ bl v))) (hb : ∀ v, bl v ≤ 1000 → bl k ≤ bl v → b (nI v) = PW.ret (nI (v ^^^ (k <<< (bl v - bl k))))) :
    ∀ n v : Nat, bl v ≤ n → n ≤ 1000 → Goes c b (nI v) (nI (restN k n v))
  | 0, v, h, _ => .stop (by
    have := bl_ne.mp hk
    rw [hc, decide_eq_false (by omega)])
  | n + 1, v, h, hn => by
    rw [restN]
    by_cases g : bl k ≤ bl v
    · rw [if_pos g]
      have l := restN_step hk g
      exact .go (by rw [hc, decide_eq_true g]) (hb v (by omega) g) (goes_rest hk hc hb n _ (by omega) (by omega))
    · rw [if_neg g]
      exact .stop (by rw [hc, decide_eq_false g])
theorem turn_rest {k v : Nat} (hv : bl v ≤ 1000) (g : bl k ≤ bl v) : (bnd (op2 xorI (PW.ret (nI v)) (op2 shlI (PW.ret (nI k)) (PW.ret (nI (bl v - bl k))))) fun x => PW.ret x) = PW.ret (nI (v ^^^ (k <<< (bl v - bl k)))) := by
  show (bnd (bnd (shlI (nI k) (nI (bl v - bl k))) fun y => xorI (nI v) y) fun x => PW.ret x) = _
  rw [shlI_nat (by have := line27; omega), bnd_ret, xorI_nat]
  rfl
theorem e_masks_rest {u k : Nat} (hk : k ≠ 0) (h1 : bl u ≤ 500) (h2 : bl k ≤ 500) : fmasks_rest [nI u, nI k] = PW.ret (nI (rest k u)) := by
  show bmasks_rest (nI u) (nI k) = _
  unfold bmasks_rest
  rw [bitsW_nat, bnd_ret]
  refine (congrArg (fun m => bnd m _) (loopW_eq (s2 := nI (rest k u)) (goes_rest hk (fun v => ?_) (fun v hv g => ?_) (bl u) u (Nat.le_refl _) (by omega)))).trans rfl
  · show bnd (bnd (bitsW (PW.ret (nI v))) fun x => geI x (nI (bl k))) boolD = _
    rw [bitsW_nat, bnd_ret, geI_nat]
    rfl
  · refine Eq.trans ?_ (turn_rest hv g)
    show (bnd (bnd (bnd (bnd (bitsW (PW.ret (nI v))) fun x => subI x (nI (bl k))) fun y => shlI (nI k) y) fun y => xorI (nI v) y) fun x => PW.ret x) = _
    rw [bitsW_nat, bnd_ret, subI_nat g]
    rfl
theorem e_law_degree {m : Nat} (h : m ≠ 0) : f_law_degree [nI m] = PW.ret (nI (bl m - 1)) := by
  show (bnd (bitsW (PW.ret (nI m))) fun x => subI x (nI 1)) = _
  rw [bitsW_nat, bnd_ret, subI_nat (by have := bl_ne.mp h; omega)]
theorem e_law_rest {u k : Nat} (hk : k ≠ 0) (h1 : bl u ≤ 500) (h2 : bl k ≤ 500) : f_law_rest [nI u, nI k] = PW.ret (nI (rest k u)) := by
  show b_law_rest (nI u) (nI k) = _
  unfold b_law_rest
  have kp := bl_ne.mp hk
  refine (congrArg (fun m => bnd m _) (loopW_eq (s2 := nI (rest k u)) (goes_rest hk (fun v => ?_) (fun v hv g => ?_) (bl u) u (Nat.le_refl _) (by omega)))).trans rfl
  · show bnd (bnd (bnd (f_law_degree [nI k]) fun y => shlI (nI 1) y) fun y => geI (nI v) y) boolD = _
    rw [e_law_degree hk, bnd_ret, shlI_nat (by have : bl 1 = 1 := by decide +kernel
                                               have := line27; omega), bnd_ret, geI_nat]
    show PW.ret (decide _) = _
    congr 1
    refine decide_eq_decide.mpr ?_
    rw [Nat.shiftLeft_eq, Nat.one_mul, ← lt_bl_iff]
    omega
  · have hv0 : v ≠ 0 := bl_ne.mpr (by omega)
    refine Eq.trans ?_ (turn_rest hv g)
    show (bnd (bnd (bnd (bnd (f_law_degree [nI v]) fun x => bnd (f_law_degree [nI k]) fun y => subI x y) fun y => shlI (nI k) y) fun y => xorI (nI v) y) fun x => PW.ret x) = _
    rw [e_law_degree hv0, bnd_ret, e_law_degree hk, bnd_ret, subI_nat (by omega), show bl v - 1 - (bl k - 1) = bl v - bl k by omega]
    rfl
/-! ### divisors -/
theorem goes_gcd {c : D × D → Wp Bool} {b : D × D → Wp (D × D)} (hc : ∀ u v : Nat, c (nI u, nI v) = PW.ret (!decide (v = 0))) (hb : ∀ u v, v ≠ 0 → bl u ≤ 500 → bl v ≤ 500 → b (nI u, nI v) = PW.ret (nI v, nI (rest v u))) :
    ∀ n u v : Nat, bl v ≤ n → bl u ≤ 500 → bl v ≤ 500 → Goes c b (nI u, nI v) (nI (gcdN n u v), nI 0)
  | 0, u, v, h, _, _ => by
    have e : v = 0 := Classical.byContradiction fun z => by have := bl_ne.mp z; omega
    subst e
    exact .stop (by rw [hc]; rfl)
  | n + 1, u, v, h, h1, h2 => by
    rw [gcdN]
    by_cases z : v = 0
    · rw [if_pos z]
      subst z
      exact .stop (by rw [hc]; rfl)
    · rw [if_neg z]
      have l : bl (rest v u) < bl v := rest_lt z _ _ (Nat.le_refl _)
      exact .go (by rw [hc, decide_eq_false z]; rfl) (hb u v z h1 h2) (goes_gcd hc hb n _ _ (by omega) h2 (by omega))
theorem e_poly_divisor {u v : Nat} (h1 : bl u ≤ 500) (h2 : bl v ≤ 500) : fpoly_divisor [polyD u, polyD v] = PW.ret (polyD (gcdN (bl v) u v)) := by
  show bpoly_divisor (polyD u) (polyD v) = _
  unfold bpoly_divisor
  show bnd (fpoly_mask [polyD u]) _ = _
  rw [e_poly_mask (by omega), bnd_ret]
  show bnd (fpoly_mask [polyD v]) _ = _
  rw [e_poly_mask (by omega), bnd_ret]
  refine (congrArg (fun m => bnd m _) (loopW_eq (s2 := (nI (gcdN (bl v) u v), nI 0)) (goes_gcd (fun u v => ?_) (fun u v z h1 h2 => ?_) (bl v) u v (Nat.le_refl _) h1 h2))).trans ?_
  · show bnd (neD (nI v) (nI 0)) boolD = _
    rw [neD_nat]
    rfl
  · show bnd (fmasks_rest [nI u, nI v]) (fun x => PW.ret (nI v, x)) = _
    rw [e_masks_rest z h1 h2]
    rfl
  · show fmask_poly [nI (gcdN (bl v) u v)] = _
    exact e_mask_poly (Nat.le_trans (gcdN_le _ _ _ 500 h1 h2) (by decide))
theorem e_law_divisor {u v : Nat} (h1 : bl u ≤ 500) (h2 : bl v ≤ 500) : f_law_divisor [nI u, nI v] = PW.ret (nI (gcdN (bl v) u v)) := by
  show b_law_divisor (nI u) (nI v) = _
  unfold b_law_divisor
  refine (congrArg (fun m => bnd m _) (loopW_eq (s2 := (nI (gcdN (bl v) u v), nI 0)) (goes_gcd (fun u v => ?_) (fun u v z h1 h2 => ?_) (bl v) u v (Nat.le_refl _) h1 h2))).trans rfl
  · show bnd (gtI (nI v) (.int 0)) boolD = _
    rw [gtI_zero]
    rfl
  · show bnd (f_law_rest [nI u, nI v]) (fun x => PW.ret (nI v, x)) = _
    rw [e_law_rest z h1 h2]
    rfl
theorem goes_num {c : D × D → Wp Bool} {b : D × D → Wp (D × D)} (hc : ∀ u v : Nat, c (nI u, nI v) = PW.ret (!decide (v = 0))) (hb : ∀ u v, v ≠ 0 → b (nI u, nI v) = PW.ret (nI v, nI (u % v))) :
    ∀ v u : Nat, Goes c b (nI u, nI v) (nI (Nat.gcd u v), nI 0) := fun v => by
  induction v using Nat.strongRecOn with
  | ind v ih =>
    intro u
    by_cases z : v = 0
    · subst z
      rw [Nat.gcd_zero_right]
      exact .stop (by rw [hc]; rfl)
    · have := ih (u % v) (Nat.mod_lt _ (Nat.pos_of_ne_zero z)) v
      rw [show Nat.gcd u v = Nat.gcd v (u % v) by rw [Nat.gcd_comm u v, Nat.gcd_rec v u, Nat.gcd_comm]]
      exact .go (by rw [hc, decide_eq_false z]; rfl) (hb u v z) this
theorem e_law_gcd (u v : Nat) : f_law_gcd [nI u, nI v] = PW.ret (nI (Nat.gcd u v)) := by
  show b_law_gcd (nI u) (nI v) = _
  unfold b_law_gcd
  refine (congrArg (fun m => bnd m _) (loopW_eq (s2 := (nI (Nat.gcd u v), nI 0)) (goes_num (fun u v => ?_) (fun u v z => ?_) v u))).trans rfl
  · show bnd (gtI (nI v) (.int 0)) boolD = _
    rw [gtI_zero]
    rfl
  · show bnd (grd _ (PW.ret (PyData.int _))) (fun x => PW.ret (nI v, x)) = _
    rw [grd_t (show (0 : Int) < (v : Int) by omega)]
    rfl
/-! ### x + 1 for x -/
theorem forW_at {S : Type} {b : S → D → Wp S} (st : Nat → S) : ∀ (ds : List D) (o : Nat), (∀ i d, ds[i]? = some d → b (st (o + i)) d = PW.ret (st (o + i + 1))) → forW b ds (st o) = PW.ret (st (o + ds.length))
  | [], o, _ => rfl
  | d :: ds, o, h => by
    rw [forW_cons, show st o = st (o + 0) from rfl, h 0 d rfl, bnd_ret]
    refine (forW_at st ds (o + 1) fun i e he => ?_).trans ?_
    · rw [show o + 1 + i = o + (i + 1) by omega]
      exact h (i + 1) e he
    · rw [List.length_cons, show o + 1 + ds.length = o + (ds.length + 1) by omega]
/-- the highest j items -/
def topN (m j : Nat) : List Nat := (bitsN m).drop (bl m - j)
theorem topN_succ {m j : Nat} (h : j < bl m) : topN m (j + 1) = bitAt m (bl m - 1 - j) :: topN m j := by
  unfold topN
  have hl : (bitsN m).length = bl m := by rw [bitsN, List.length_map, List.length_range]
  rw [List.drop_eq_getElem_cons (by omega), show bl m - (j + 1) + 1 = bl m - j by omega]
  congr 1
  unfold bitsN
  rw [List.getElem_map, List.getElem_range]
  congr 1
  omega
theorem topN_le (m j : Nat) : bl (hornN (topN m j)) ≤ j := by
  have hl : (bitsN m).length = bl m := by rw [bitsN, List.length_map, List.length_range]
  refine Nat.le_trans (horn_le _ fun b hb => ?_) (by rw [topN, List.length_drop]; omega)
  obtain ⟨i, _, rfl⟩ := List.mem_map.mp (List.mem_of_mem_drop hb)
  exact bitAt_le m i
theorem topN_all (m : Nat) : hornN (topN m (bl m)) = mv m := by
  unfold topN mv
  rw [Nat.sub_self, List.drop_zero]
theorem turn_moved {f b : Nat} (hf : bl f ≤ 1000) : (bnd (op2 xorI (op2 xorI (op2 shlI (PW.ret (nI f)) (PW.ret (.int 1))) (PW.ret (nI f))) (PW.ret (nI b))) fun x => PW.ret x) = PW.ret (nI (twice1 f ^^^ b)) := by
  show (bnd (bnd (bnd (shlI (nI f) (nI 1)) fun x => xorI x (nI f)) fun x => xorI x (nI b)) fun x => PW.ret x) = _
  rw [shlI_nat (by have := line27; omega), bnd_ret, xorI_nat, bnd_ret, xorI_nat]
  rfl
theorem e_poly_moved {m : Nat} (h : bl m ≤ 500) : fpoly_moved [polyD m] = PW.ret (polyD (mv m)) := by
  show bpoly_moved (polyD m) = _
  unfold bpoly_moved
  rw [bnd_ret]
  show bnd (forW _ (bitsL m).reverse (nI 0)) _ = _
  have z : nI 0 = nI (hornN (topN m 0)) := by
    have := topN_le m 0
    rw [show hornN (topN m 0) = 0 from Classical.byContradiction fun q => by have := bl_ne.mp q; omega]
  rw [z]
  refine (congrArg (fun m => bnd m _) (forW_at (fun j => nI (hornN (topN m j))) (bitsL m).reverse 0 fun i d hd => ?_)).trans ?_
  · have hi : i < bl m := by
      have := (List.getElem?_eq_some_iff.mp hd).1
      rwa [List.length_reverse, bitsL_len] at this
    have e : d = nI (bitAt m (bl m - 1 - i)) := by
      rw [List.getElem?_reverse (by rw [bitsL_len]; exact hi), bitsL_len] at hd
      unfold bitsL at hd
      rw [List.getElem?_map, List.getElem?_range (by omega)] at hd
      exact (Option.some.inj hd).symm
    rw [e, Nat.zero_add, topN_succ hi]
    have := topN_le m i
    exact turn_moved (by omega)
  · rw [Nat.zero_add, List.length_reverse, bitsL_len, topN_all]
    exact e_mask_poly (by have := mv_le m; omega)
theorem e_law_moved {m : Nat} (h : bl m ≤ 500) : f_law_moved [nI m] = PW.ret (nI (mv m)) := by
  show b_law_moved (nI m) = _
  unfold b_law_moved
  rw [bnd_ret]
  have dg : f_law_degree [nI m] = PW.ret (.int ((bl m : Int) - 1)) := by
    show (bnd (bitsW (PW.ret (nI m))) fun x => subI x (.int 1)) = _
    rw [bitsW_nat, bnd_ret, subI_int]
  show bnd (bnd (bnd (f_law_degree [nI m]) fun x => addD x (.int 1)) rangeW) _ = _
  rw [dg]
  show bnd (rangeW (.int ((bl m : Int) - 1 + 1))) _ = _
  rw [show rangeW (.int ((bl m : Int) - 1 + 1)) = PW.ret ((List.range (bl m)).map nI) by
    rw [show (bl m : Int) - 1 + 1 = (bl m : Int) by omega]
    exact rangeW_nat (by omega), bnd_ret]
  have z : nI 0 = nI (hornN (topN m 0)) := by
    have := topN_le m 0
    rw [show hornN (topN m 0) = 0 from Classical.byContradiction fun q => by have := bl_ne.mp q; omega]
  rw [show (PyData.int 0 : D) = nI 0 from rfl, z]
  refine (congrArg (fun m => bnd m _) (forW_at (fun j => nI (hornN (topN m j))) ((List.range (bl m)).map nI) 0 fun i d hd => ?_)).trans ?_
  · have hi : i < bl m := by
      have := (List.getElem?_eq_some_iff.mp hd).1
      rwa [List.length_map, List.length_range] at this
    rw [List.getElem?_map, List.getElem?_range hi] at hd
    cases hd
    rw [Nat.zero_add, topN_succ hi]
    have := topN_le m i
    refine Eq.trans ?_ (turn_moved (by omega))
    show (bnd (bnd (op2 xorI (op2 shlI (PW.ret (nI (hornN (topN m i)))) (PW.ret (.int 1))) (PW.ret (nI (hornN (topN m i))))) fun x => bnd (bnd (bnd (bnd (f_law_degree [nI m]) fun x => subI x (nI i)) fun y => shrI (nI m) y) fun x => andI x (nI 1)) fun y => xorI x y) fun x => PW.ret x) = _
    rw [dg, bnd_ret, subI_int, show (bl m : Int) - 1 - (i : Int) = ((bl m - 1 - i : Nat) : Int) by omega, bnd_ret, shrI_nat, bnd_ret, andI_nat, and_one]
    rfl
  · rw [Nat.zero_add, List.length_map, List.length_range, topN_all]
    rfl
/-! ### lamps -/
def lampP : Nat → Nat × Nat
  | 0 => (0, 1)
  | i + 1 => ((lampP i).2, ((lampP i).2 <<< 1) ^^^ (lampP i).1)
theorem lampP_le : ∀ i : Nat, bl (lampP i).1 ≤ i ∧ bl (lampP i).2 ≤ i + 1
  | 0 => ⟨Nat.le_refl _, by decide +kernel⟩
  | i + 1 => by
    obtain ⟨h1, h2⟩ := lampP_le i
    have := bl_shl_le (lampP i).2 1
    exact ⟨h2, bl_xor_le (by omega) (by omega)⟩
theorem turn_lamp {i : Nat} (h : i ≤ 1000) : (bnd (PW.ret (nI (lampP i).2)) fun x => bnd (op2 xorI (op2 shlI (PW.ret (nI (lampP i).2)) (PW.ret (.int 1))) (PW.ret (nI (lampP i).1))) fun y => PW.ret (x, y)) = PW.ret (nI (lampP (i + 1)).1, nI (lampP (i + 1)).2) := by
  have := (lampP_le i).2
  show (bnd (bnd (shlI (nI (lampP i).2) (nI 1)) fun x => xorI x (nI (lampP i).1)) fun y => PW.ret (nI (lampP i).2, y)) = _
  rw [shlI_nat (by have := line27; omega), bnd_ret, xorI_nat]
  rfl
theorem e_lamp_poly {i : Nat} (h : i ≤ 500) : flamp_poly [nI i] = PW.ret (polyD (lampP i).1) := by
  show blamp_poly (nI i) = _
  unfold blamp_poly
  rw [bnd_ret, bnd_ret, bnd_ret, rangeW_nat (by omega), bnd_ret]
  refine (congrArg (fun m => bnd m _) (forW_at (fun j => (nI (lampP j).1, nI (lampP j).2)) ((List.range i).map nI) 0 fun j d hd => ?_)).trans ?_
  · have hj : j < i := by
      have := (List.getElem?_eq_some_iff.mp hd).1
      rwa [List.length_map, List.length_range] at this
    rw [Nat.zero_add]
    exact turn_lamp (by omega)
  · rw [Nat.zero_add, List.length_map, List.length_range]
    exact e_mask_poly (by have := (lampP_le i).1; omega)
theorem e_law_lamp {i : Nat} (h : i ≤ 500) : f_law_lamp [nI i] = PW.ret (nI (lampP i).1) := by
  show b_law_lamp (nI i) = _
  unfold b_law_lamp
  rw [bnd_ret, bnd_ret, bnd_ret, rangeW_nat (by omega), bnd_ret]
  refine (congrArg (fun m => bnd m _) (forW_at (fun j => (nI (lampP j).1, nI (lampP j).2)) ((List.range i).map nI) 0 fun j d hd => ?_)).trans ?_
  · have hj : j < i := by
      have := (List.getElem?_eq_some_iff.mp hd).1
      rwa [List.length_map, List.length_range] at this
    rw [Nat.zero_add]
    exact turn_lamp (by omega)
  · rw [Nat.zero_add, List.length_map, List.length_range]
    rfl
/-! ### the small ones -/
theorem e_law_is_odd (n k : Nat) : f_law_is_odd [nI n, nI k] = PW.ret (.bool (decide (n &&& k = k))) := by
  show (bnd (andI (nI n) (nI k)) fun x => eqD x (nI k)) = _
  rw [andI_nat, bnd_ret, eqD_nat]
theorem e_is_binomial_odd (n k : Nat) : fis_binomial_odd [nI n, nI k] = PW.ret (.bool (decide (n &&& k = k))) := e_law_is_odd n k
theorem e_poly_sum {u v : Nat} (h1 : bl u ≤ 500) (h2 : bl v ≤ 500) : fpoly_sum [polyD u, polyD v] = PW.ret (polyD (u ^^^ v)) := by
  show bnd (bnd (fpoly_mask [polyD u]) fun x => bnd (fpoly_mask [polyD v]) fun y => xorI x y) (fun x => fmask_poly [x]) = _
  rw [e_poly_mask (by omega), bnd_ret, e_poly_mask (by omega), bnd_ret, xorI_nat, bnd_ret]
  exact e_mask_poly (Nat.le_trans (bl_xor_le h1 h2) (by decide))
theorem e_poly_product {u v : Nat} (h1 : bl u ≤ 500) (h2 : bl v ≤ 500) : fpoly_product [polyD u, polyD v] = PW.ret (polyD (clN u v (bl v))) := by
  show bnd (bnd (fpoly_mask [polyD u]) fun x => bnd (fpoly_mask [polyD v]) fun y => fmasks_product [x, y]) (fun x => fmask_poly [x]) = _
  rw [e_poly_mask (by omega), bnd_ret, e_poly_mask (by omega), bnd_ret, e_masks_product h1 h2, bnd_ret]
  exact e_mask_poly (by have := clN_le u v (bl v); omega)
theorem e_poly_rest {u v : Nat} (hv : v ≠ 0) (h1 : bl u ≤ 500) (h2 : bl v ≤ 500) : fpoly_rest [polyD u, polyD v] = PW.ret (polyD (rest v u)) := by
  show bpoly_rest (polyD u) (polyD v) = _
  unfold bpoly_rest
  have e : eqD (polyD v) (.tuple []) = PW.ret (.bool false) := by
    unfold eqD
    rw [grd_t ⟨((fine_poly (by omega)).mono (by decide) (by decide)).shaped, by decide +kernel⟩]
    congr 2
    have : bitsL v ≠ [] := fun z => by
      have := bitsL_len v
      rw [z] at this
      exact bl_ne.mp hv this.symm
    unfold polyD
    cases hb : bitsL v with
    | nil => exact absurd hb this
    | cons x r => rw [PyData.eqv]; simp [PyData.eqvAll]
  show bnd (bnd (bnd (grd _ (PW.ret (PyData.tuple []))) fun y => eqD (polyD v) y) boolD) _ = _
  rw [grd_t (by decide), bnd_ret, e]
  show bnd (bnd (fpoly_mask [polyD u]) fun x => bnd (fpoly_mask [polyD v]) fun y => fmasks_rest [x, y]) (fun x => fmask_poly [x]) = _
  rw [e_poly_mask (by omega), bnd_ret, e_poly_mask (by omega), bnd_ret, e_masks_rest hv h1 h2, bnd_ret]
  exact e_mask_poly (by have := rest_le hv (u := u); omega)
theorem e_law_same {d : D} (h : Fine 64 (2 ^ 20) d) : f_law_same [d, d] = PW.ret (.bool true) := same_self h
theorem e_law_agree {ds : List D} (h : ∀ d ∈ ds, Fine 64 (2 ^ 20) d) (hl : ds.length ≤ sizeLine) : f_law_agree [.list (ds.map fun d => .list [d, d])] = PW.ret (.bool true) := agree_rows (f := f_law_same) ds (fun d hd => e_law_same (h d hd)) hl
end L57

set_option Elab.async false
set_option linter.all false
set_option maxRecDepth 100000
set_option maxHeartbeats 4000000
namespace L57
open PySem PySem.Spec PyProof.Rows L2 PW
def rowN (i k : Nat) : Bool := (if 2 * k + 1 ≤ i then (bitAt (lampP i).1 (i - 1 - 2 * k) == 1) == decide ((i - 1 - k) &&& k = k) else true) && (if 2 * k + 2 ≤ i then bitAt (lampP i).1 (i - 1 - 2 * k - 1) == 0 else true)
theorem rows_ok : (List.range 66).all (fun i => (List.range i).all fun k => rowN i k) = true := by decide +kernel
theorem wide_ok : (List.range 66).all (fun i => bl (lampP i).1 == i) = true := by decide +kernel
theorem single_ok : [1, 2, 4, 8, 16, 32, 64].all (fun i => ((bitsN (lampP i).1).sum) == 1) = true := by decide +kernel
theorem row_ok {i k : Nat} (hi : i ≤ 65) (hk : k < i) : rowN i k = true := List.all_eq_true.mp (List.all_eq_true.mp rows_ok i (List.mem_range.mpr (by omega))) k (List.mem_range.mpr hk)
theorem lamp_bl {i : Nat} (hi : i ≤ 65) : bl (lampP i).1 = i := by simpa using List.all_eq_true.mp wide_ok i (List.mem_range.mpr (by omega))
theorem eqv_bool (a b : Bool) : PyData.eqv (.bool a) (.bool b) = (a == b) := by rw [PyData.eqv]
theorem neD_bool (a b : Bool) : neD (.bool a) (.bool b) = PW.ret (.bool (!(a == b))) := by
  unfold neD
  rw [grd_t ⟨shaped_bool a, shaped_bool b⟩, eqv_bool]
theorem ixW_poly {m p : Nat} (h : p < bl m) : ixW (bitsL m) (nI p) = PW.ret (nI (bitAt m p)) := by
  unfold ixW
  dsimp only
  rw [atI_nat (v := nI (bitAt m p)) (by
    unfold bitsL
    rw [List.getElem?_map, List.getElem?_range h]
    rfl)]
theorem seqD_poly (m : Nat) : seqD (polyD m) = PW.ret (bitsL m) := rfl
theorem sum_poly (m : Nat) : (intsW fun ns => PW.ret (.int ns.sum)) (bitsL m) = PW.ret (nI (bitsN m).sum) := by
  have hm : ∀ ns : List Nat, intsOf (ns.map nI) = some (ns.map fun n : Nat => (n : Int)) := fun ns => by
    induction ns with
    | nil => rfl
    | cons n ns ih => rw [List.map_cons, intsOf, ih]; rfl
  have e : bitsL m = (bitsN m).map nI := by
    unfold bitsL bitsN
    rw [List.map_map]
    rfl
  have hs : ∀ ns : List Nat, (ns.map fun n : Nat => (n : Int)).sum = (ns.sum : Nat) := fun ns => by
    induction ns with
    | nil => rfl
    | cons n ns ih => rw [List.map_cons, List.sum_cons, List.sum_cons, ih]; omega
  unfold intsW
  rw [e, hm]
  show PW.ret (PyData.int _) = _
  rw [hs]
theorem pick_ok {β : Type} {ds : List D} {k : D → Wp β} {Q : β → Prop} (h0 : ds ≠ []) (h : ds.length < 2 ^ 64) (q : ∀ d ∈ ds, k d Q) : bnd (f_law_pick [.list ds]) k Q := pick_bnd h0 h q
theorem fine_p {m : Nat} (h : bl m ≤ 1000) : Fine 64 (2 ^ 20) (polyD m) := (fine_poly h).mono (by decide) (by decide)
theorem fine_b (b : Bool) : Fine 64 (2 ^ 20) (.bool b) := (Fine.bool b).mono (by decide) (by decide)
theorem lamps_ok {Q : D → Prop} (q : Q (.bool true)) : b_law_are_lamps_right Q := by
  unfold b_law_are_lamps_right
  simp only [op2, consW, lstW, tupW, tnot, tand, tor, atW, sumW, bnd_bnd, bnd_ret, bnd_grd, List.length_cons, List.length_nil, Nat.reduceAdd, grd_few, Nat.reduceLeDiff, perm_1, perm_10, seqD_tuple, ifW_f]
  rw [show rangeW (.int 4) = PW.ret ((List.range 4).map nI) from rangeW_nat (n := 4) (by decide), bnd_ret]
  refine forF_R (fun _ => True) trivial (fun s d hd _ R nx _ _ => ?_) (fun s _ => q)
  refine draw_bnd ⟨by decide, by decide⟩ fun d1 a1 b1 => draw_bnd ⟨by decide, by decide⟩ fun d2 a2 b2 => draw_bnd ⟨by decide, by decide⟩ fun d3 a3 b3 => ?_
  obtain ⟨d1, rfl⟩ := Int.eq_ofNat_of_zero_le a1
  obtain ⟨d2, rfl⟩ := Int.eq_ofNat_of_zero_le a2
  obtain ⟨d3, rfl⟩ := Int.eq_ofNat_of_zero_le a3
  have one : bl 1 = 1 := by decide +kernel
  rw [show shlI (.int 1) (.int (d3 : Int)) = PW.ret (nI (1 <<< d3)) from shlI_nat (a := 1) (by omega), bnd_ret]
  have p3 : 1 <<< d3 ≤ 64 := by
    rw [Nat.shiftLeft_eq, Nat.one_mul]
    exact Nat.pow_le_pow_right (by decide) (show d3 ≤ 6 by omega)
  refine pick_ok (by simp) (by show 7 < 2 ^ 64; decide) fun x hx => ?_
  obtain ⟨i, rfl, hi⟩ : ∃ i : Nat, x = nI i ∧ i ≤ 65 := by
    simp only [List.mem_cons, List.not_mem_nil, or_false] at hx
    rcases hx with h | h | h | h | h | h | h
    · exact ⟨d1, h, by omega⟩
    · exact ⟨d2, h, by omega⟩
    · exact ⟨64, h, by omega⟩
    · exact ⟨65, h, by omega⟩
    · exact ⟨0, h, by omega⟩
    · exact ⟨1, h, by omega⟩
    · exact ⟨1 <<< d3, h, by omega⟩
  have hl := (lampP_le i).1
  rw [e_lamp_poly (by omega), bnd_ret]
  refine draw_bnd ⟨by decide, by decide⟩ fun d4 a4 b4 => ?_
  rw [eqD_int, bnd_ret, e_law_lamp (by omega), bnd_ret, e_law_poly (by omega), bnd_ret, bnd_ret]
  rw [show f_law_agree [.list [.list [polyD (lampP i).1, polyD (lampP i).1], .list [polyD (lampP i).1, polyD (lampP i).1]]] = PW.ret (.bool true) from e_law_agree (ds := [polyD (lampP i).1, polyD (lampP i).1]) (fun d hd => by
    simp only [List.mem_cons, List.not_mem_nil, or_false] at hd
    rcases hd with rfl | rfl <;> exact fine_p (by omega)) (by show 2 ≤ sizeLine; decide)]
  simp only [bnd_ret, truthD_bool, Bool.not_true, ifW_f]
  rw [rangeW_nat (by omega), bnd_ret]
  refine forF_F (fun _ => True) trivial (fun s d hd _ R nx _ _ => ?_) (fun s _ => ?_)
  · obtain ⟨k, hk, rfl⟩ := List.mem_map.mp hd
    have hk := List.mem_range.mp hk
    have s1 : subI (nI i) (.int 1) = PW.ret (nI (i - 1)) := subI_nat (b := 1) (by omega)
    have s2 : subI (nI (i - 1)) (nI k) = PW.ret (nI (i - 1 - k)) := subI_nat (by omega)
    have s3 : mulD (.int 2) (nI k) = PW.ret (.int (2 * (k : Int))) := mulD_int (by
      have h1 : Builtin.Int.intBits 2 = 2 := by decide +kernel
      have h2 : Builtin.Int.intBits (k : Int) ≤ 7 := by rw [intBits_nat]; exact bl_le (by omega)
      show (Builtin.Int.intBits 2 : Int) + (Builtin.Int.intBits (k : Int) : Int) ≤ 134217728
      omega)
    have s4 : subI (nI (i - 1)) (.int (2 * (k : Int))) = PW.ret (.int ((i : Int) - 1 - 2 * (k : Int))) := by
      rw [subI_int]
      congr 2
      omega
    simp only [s1, s2, s3, s4, bnd_ret, e_law_is_odd, e_is_binomial_odd, ifW_same, e_law_same (fine_b _), truthD_bool, Bool.not_true, ifW_f, geI_int, ltI_int, boolD_bool]
    have row := row_ok hi hk
    have wide := lamp_bl hi
    unfold rowN at row
    rw [Bool.and_eq_true] at row
    have second : bnd (ifW (decide (0 < (i : Int) - 1 - 2 * (k : Int))) (bnd (seqD (polyD (lampP i).1)) fun a => bnd (subI (.int ((i : Int) - 1 - 2 * (k : Int))) (.int 1)) fun a_1 => bnd (ixW a a_1) fun a => bnd (eqD a (.int 1)) boolD) (PW.ret false)) (fun t17 => ifW t17 (PW.ret (Fl.rt (S := Unit) (T := Unit) (PyData.bool false))) (PW.ret (Fl.nx ()))) R := by
      by_cases g : 2 * k + 2 ≤ i
      · rw [decide_eq_true (by omega), ifW_t, seqD_poly, bnd_ret, show (i : Int) - 1 - 2 * (k : Int) = ((i - 1 - 2 * k : Nat) : Int) by omega, show subI (.int ((i - 1 - 2 * k : Nat) : Int)) (.int 1) = PW.ret (nI (i - 1 - 2 * k - 1)) from subI_nat (b := 1) (by omega), bnd_ret, ixW_poly (by omega), bnd_ret]
        have z := row.2
        rw [if_pos g, beq_iff_eq] at z
        rw [z, show eqD (nI 0) (.int 1) = PW.ret (.bool false) from eqD_nat 0 1]
        exact nx () trivial
      · rw [decide_eq_false (by omega), ifW_f, bnd_ret, ifW_f]
        exact nx () trivial
    by_cases g : 2 * k + 1 ≤ i
    · rw [decide_eq_true (show (i : Int) - 1 - 2 * (k : Int) ≥ 0 by omega), ifW_t, seqD_poly, bnd_ret]
      have z := row.1
      rw [if_pos g, beq_iff_eq] at z
      have e : ixW (bitsL (lampP i).1) (.int ((i : Int) - 1 - 2 * (k : Int))) = PW.ret (nI (bitAt (lampP i).1 (i - 1 - 2 * k))) := by
        rw [show (i : Int) - 1 - 2 * (k : Int) = ((i - 1 - 2 * k : Nat) : Int) by omega]
        exact ixW_poly (by omega)
      rw [e, bnd_ret, show eqD (nI (bitAt (lampP i).1 (i - 1 - 2 * k))) (.int 1) = PW.ret (.bool (decide (bitAt (lampP i).1 (i - 1 - 2 * k) = 1))) from eqD_nat _ 1, bnd_ret, neD_bool]
      rw [← z]
      have y : (!(decide (bitAt (lampP i).1 (i - 1 - 2 * k) = 1) == (bitAt (lampP i).1 (i - 1 - 2 * k) == 1))) = false := by
        cases h : (bitAt (lampP i).1 (i - 1 - 2 * k) == 1)
        · rw [decide_eq_false (by simpa using h)]; rfl
        · rw [decide_eq_true (by simpa using h)]; rfl
      rw [y, bnd_ret, boolD_bool, bnd_ret, ifW_f]
      exact second
    · rw [decide_eq_false (by omega), ifW_f, bnd_ret, ifW_f]
      exact second
  · have hb : ∃ b : Bool, inQ (nI i) [.int 1, .int 2, .int 4, .int 8, .int 16, .int 32, .int 64] = PW.ret (.bool b) ∧ (b = true → (bitsN (lampP i).1).sum = 1) := by
      unfold inQ
      rw [grd_t ⟨shaped_int _, by decide +kernel⟩]
      refine ⟨_, rfl, fun h => ?_⟩
      simp only [List.any_cons, List.any_nil, Bool.or_false, Bool.or_eq_true, PyData.eqv, decide_eq_true_eq, beq_iff_eq] at h
      have one : i = 1 ∨ i = 2 ∨ i = 4 ∨ i = 8 ∨ i = 16 ∨ i = 32 ∨ i = 64 := by omega
      have := List.all_eq_true.mp single_ok i (by simpa using one)
      simpa using this
    obtain ⟨b, hb, hs⟩ := hb
    rw [hb, bnd_ret, boolD_bool, bnd_ret, seqD_poly, bnd_ret, sum_poly, bnd_ret, show ∀ n : Nat, neD (nI n) (.int 1) = PW.ret (.bool (!decide (n = 1))) from fun n => neD_nat n 1, bnd_ret, boolD_bool]
    cases b with
    | false => exact nx () trivial
    | true =>
      rw [hs rfl]
      exact nx () trivial
end L57

set_option Elab.async false
set_option linter.all false
set_option maxRecDepth 100000
set_option maxHeartbeats 40000000
namespace L57
open PySem PySem.Spec PyProof.Rows L2 PW
def joinN (i j : Nat) : Bool := (clN (lampP (i + 1)).1 (lampP (j + 1)).1 (bl (lampP (j + 1)).1) ^^^ clN (lampP i).1 (lampP j).1 (bl (lampP j).1)) == (lampP (i + 1 + j)).1
theorem join_all : (List.range 32).all (fun i => (List.range 33).all fun j => joinN i j) = true := by decide +kernel
def divN (i j : Nat) : Bool := gcdN (bl (lampP j).1) (lampP i).1 (lampP j).1 == (lampP (Nat.gcd i j)).1
theorem div_all : (List.range 66).all (fun i => (List.range 66).all fun j => divN i j) = true := by decide +kernel
theorem big1 : (1000000000000 : Int) = ((1000000000000 : Nat) : Int) := by decide +kernel
theorem big2 : (549755813887 : Int) = ((549755813887 : Nat) : Int) := by decide +kernel
theorem pow12 : ∃ M : Nat, powI (.int 10) (.int 12) = PW.ret (nI M) := ⟨1000000000000, by
  refine (grd_t (by unfold CPow; decide)).trans ?_
  exact congrArg (fun i => PW.ret (PyData.int i)) (by decide +kernel)⟩
theorem less39 : ∃ L : Nat, subI (.int 549755813888) (.int 1) = PW.ret (nI L) := ⟨549755813887, by
  refine (subI_int _ _).trans ?_
  exact congrArg (fun i => PW.ret (PyData.int i)) (by decide +kernel)⟩
theorem more_bnd {β : Type} {b : Bool} {n M : Nat} {k : D → Wp β} {Q : β → Prop} (h : ∀ z : Nat, k (nI z) Q) : bnd (ifW b (addD (nI n) (.int 1)) (PW.ret (nI M))) k Q := by
  cases b
  · exact h M
  · exact h (n + 1)
theorem join_ok {i j : Nat} (hi : i < 32) (hj : j < 33) : clN (lampP (i + 1)).1 (lampP (j + 1)).1 (bl (lampP (j + 1)).1) ^^^ clN (lampP i).1 (lampP j).1 (bl (lampP j).1) = (lampP (i + 1 + j)).1 := by
  have := List.all_eq_true.mp (List.all_eq_true.mp join_all i (List.mem_range.mpr hi)) j (List.mem_range.mpr hj)
  exact eq_of_beq this
theorem div_ok {i j : Nat} (hi : i < 66) (hj : j < 66) : gcdN (bl (lampP j).1) (lampP i).1 (lampP j).1 = (lampP (Nat.gcd i j)).1 := by
  have := List.all_eq_true.mp (List.all_eq_true.mp div_all i (List.mem_range.mpr hi)) j (List.mem_range.mpr hj)
  exact eq_of_beq this
theorem agree1 {x : D} (h : Fine 64 (2 ^ 20) x) : f_law_agree [.list [.list [x, x]]] = PW.ret (.bool true) := e_law_agree (ds := [x]) (fun d hd => by
  simp only [List.mem_cons, List.not_mem_nil, or_false] at hd
  rw [hd]
  exact h) (by show 1 ≤ sizeLine; decide)
theorem agree2 {x y : D} (h : Fine 64 (2 ^ 20) x) (g : Fine 64 (2 ^ 20) y) : f_law_agree [.list [.list [x, x], .list [y, y]]] = PW.ret (.bool true) := e_law_agree (ds := [x, y]) (fun d hd => by
  simp only [List.mem_cons, List.not_mem_nil, or_false] at hd
  rcases hd with rfl | rfl
  · exact h
  · exact g) (by show 2 ≤ sizeLine; decide)
theorem joined_ok {Q : D → Prop} (q : Q (.bool true)) : b_law_are_joined_right Q := by
  unfold b_law_are_joined_right
  simp only [op2, consW, lstW, tupW, tnot, tand, tor, atW, sumW, appW, bnd_bnd, bnd_ret, bnd_grd, List.length_cons, List.length_nil, Nat.reduceAdd, grd_few, grd_few1, Nat.reduceLeDiff, perm_1, perm_10, List.cons_append, List.nil_append]
  rw [show rangeW (.int 2) = PW.ret ((List.range 2).map nI) from rangeW_nat (n := 2) (by decide), bnd_ret]
  refine forF_R (fun _ => True) trivial (fun s d hd _ R nx _ _ => ?_) (fun s _ => ?_)
  · refine draw_bnd ⟨by decide, by decide⟩ fun d1 a1 b1 => ?_
    obtain ⟨i, rfl⟩ := Int.eq_ofNat_of_zero_le a1
    rw [show addD (.int 1) (.int (i : Int)) = PW.ret (nI (i + 1)) by rw [addD_int]; congr 2; omega, bnd_ret]
    refine draw_bnd ⟨by decide, by decide⟩ fun d2 a2 b2 => ?_
    obtain ⟨j, rfl⟩ := Int.eq_ofNat_of_zero_le a2
    have hi : i < 32 := by omega
    have hj : j < 33 := by omega
    have l1 := (lampP_le (i + 1)).1
    have l2 := (lampP_le (j + 1)).1
    have l3 := (lampP_le i).1
    have l4 := (lampP_le j).1
    have c1 := clN_le (lampP (i + 1)).1 (lampP (j + 1)).1 (bl (lampP (j + 1)).1)
    have c2 := clN_le (lampP i).1 (lampP j).1 (bl (lampP j).1)
    rw [e_lamp_poly (by omega), bnd_ret, show addD (.int (j : Int)) (.int 1) = PW.ret (nI (j + 1)) from rfl, bnd_ret, e_lamp_poly (by omega), bnd_ret, e_poly_product (by omega) (by omega), bnd_ret,
      show subI (nI (i + 1)) (.int 1) = PW.ret (nI i) from subI_nat (a := i + 1) (b := 1) (by omega), bnd_ret, e_lamp_poly (by omega), bnd_ret, e_lamp_poly (by omega), bnd_ret, e_poly_product (by omega) (by omega), bnd_ret]
    refine draw_bnd ⟨by decide, by decide⟩ fun d3 a3 b3 => draw_bnd ⟨by decide, by decide⟩ fun d4 a4 b4 => ?_
    obtain ⟨a, rfl⟩ := Int.eq_ofNat_of_zero_le a3
    obtain ⟨b0, rfl⟩ := Int.eq_ofNat_of_zero_le a4
    refine pick_ok (by simp) (by show 5 < 2 ^ 64; decide) fun x hx => ?_
    obtain ⟨b, rfl, hb⟩ : ∃ b : Nat, x = nI b ∧ b < 66 := by
      simp only [List.mem_cons, List.not_mem_nil, or_false] at hx
      rcases hx with h | h | h | h | h
      · exact ⟨b0, h, by omega⟩
      · exact ⟨12, h, by omega⟩
      · exact ⟨30, h, by omega⟩
      · exact ⟨60, h, by omega⟩
      · exact ⟨64, h, by omega⟩
    have ha : a < 66 := by omega
    have l5 := (lampP_le a).1
    have l6 := (lampP_le b).1
    have l7 := (lampP_le (i + 1 + j)).1
    have lg : Nat.gcd a b < 66 := by
      by_cases z : b = 0
      · rw [z, Nat.gcd_zero_right]; exact ha
      · exact Nat.lt_of_le_of_lt (Nat.gcd_le_right _ (Nat.pos_of_ne_zero z)) hb
    have l8 := (lampP_le (Nat.gcd a b)).1
    rw [e_poly_sum (by omega) (by omega), bnd_ret, show addD (nI (i + 1)) (.int (j : Int)) = PW.ret (nI (i + 1 + j)) from rfl, bnd_ret, e_lamp_poly (by omega), bnd_ret, e_lamp_poly (by omega), bnd_ret, e_lamp_poly (by omega), bnd_ret, e_poly_divisor (by omega) (by omega), bnd_ret, e_law_gcd, bnd_ret, e_lamp_poly (by omega), bnd_ret,
      join_ok hi hj, div_ok ha hb, agree2 (fine_p (by omega)) (fine_p (by omega)), bnd_ret, truthD_bool, bnd_ret]
    exact nx () trivial
  · have p9 : powI (.int 10) (.int 9) = PW.ret (.int 1000000000) := grd_t (by unfold CPow; decide)
    obtain ⟨M, p12⟩ := pow12
    have one : bl 1 = 1 := by decide +kernel
    have s39 : shlI (.int 1) (.int 39) = PW.ret (.int 549755813888) := shlI_nat (a := 1) (b := 39) (by have := line27; omega)
    have s28 : shlI (.int 1) (.int 28) = PW.ret (.int 268435456) := shlI_nat (a := 1) (b := 28) (by have := line27; omega)
    obtain ⟨L, s39b⟩ := less39
    simp only [p9, p12, s39, s39b, s28, bnd_ret]
    rw [show rangeW (.int 6) = PW.ret ((List.range 6).map nI) from rangeW_nat (n := 6) (by decide), bnd_ret]
    refine forF_R (fun _ => True) trivial (fun s d hd _ R nx _ _ => ?_) (fun s _ => q)
    refine draw_bnd ⟨by decide, by decide⟩ fun d1 a1 b1 => draw_bnd ⟨by decide, by decide⟩ fun d2 a2 b2 => ?_
    obtain ⟨d1, rfl⟩ := Int.eq_ofNat_of_zero_le a1
    obtain ⟨d2, rfl⟩ := Int.eq_ofNat_of_zero_le a2
    rw [show mulD (.int (d2 : Int)) (.int 1000) = PW.ret (nI (d2 * 1000)) from mulD_int (by
      have h1 : Builtin.Int.intBits (d2 : Int) ≤ 40 := by rw [intBits_nat]; exact bl_le (by omega)
      have h2 : Builtin.Int.intBits 1000 = 10 := by decide +kernel
      show (Builtin.Int.intBits (d2 : Int) : Int) + (Builtin.Int.intBits 1000 : Int) ≤ 134217728
      omega), bnd_ret]
    refine pick_ok (by simp) (by show 4 < 2 ^ 64; decide) fun x hx => ?_
    obtain ⟨n, rfl⟩ : ∃ n : Nat, x = nI n := by
      simp only [List.mem_cons, List.not_mem_nil, or_false] at hx
      rcases hx with h | h | h | h
      · exact ⟨d1, h⟩
      · exact ⟨d2 * 1000, h⟩
      · exact ⟨M, h⟩
      · exact ⟨L, h⟩
    clear hx
    rw [ltI_int, bnd_ret, boolD_bool, bnd_ret]
    refine more_bnd fun z => ?_
    refine draw_bnd ⟨by decide, by decide⟩ fun d3 a3 b3 => ?_
    obtain ⟨d3, rfl⟩ := Int.eq_ofNat_of_zero_le a3
    rw [show andI (nI n) (.int (d3 : Int)) = PW.ret (nI (n &&& d3)) from andI_nat _ _, bnd_ret]
    refine draw_bnd ⟨by decide, by decide⟩ fun d4 a4 b4 => ?_
    obtain ⟨d4, rfl⟩ := Int.eq_ofNat_of_zero_le a4
    refine pick_ok (by simp) (by show 5 < 2 ^ 64; decide) fun x hx => ?_
    obtain ⟨k, rfl⟩ : ∃ k : Nat, x = nI k := by
      simp only [List.mem_cons, List.not_mem_nil, or_false] at hx
      rcases hx with h | h | h | h | h
      · exact ⟨_, h⟩
      · exact ⟨_, h⟩
      · exact ⟨_, h⟩
      · exact ⟨0, h⟩
      · exact ⟨_, h⟩
    rw [e_law_is_odd, bnd_ret, e_is_binomial_odd, bnd_ret, bnd_ret, agree2 (fine_b _) (fine_b _), bnd_ret, truthD_bool, bnd_ret]
    exact nx () trivial
end L57

set_option Elab.async false
set_option linter.all false
set_option maxRecDepth 100000
set_option maxHeartbeats 40000000
namespace L57
open PySem PySem.Spec PyProof.Rows L2 PW
/-! ### finite facts -/
def pw : Nat → Nat
  | 0 => 1
  | n + 1 => twice1 (pw n)
def oddRow (n : Nat) : List Nat := (List.range (n + 1)).map fun k => if n &&& k = k then 1 else 0
theorem moved_all : (List.range 40).all (fun n => bitsN (mv (1 <<< n)) == oddRow n) = true := by decide +kernel
theorem single_all : (List.range 50).all (fun n => (List.replicate n [0]).flatten ++ [1] == bitsN (1 <<< n)) = true := by decide +kernel
theorem both_all : (List.range 50).all (fun m => (List.range 40).all fun n => bitsN (clN (mv (1 <<< m)) (pw n) (bl (pw n))) == oddRow (m + n)) = true := by decide +kernel
theorem moved_row {n : Nat} (h : n < 40) : bitsN (mv (1 <<< n)) = oddRow n := eq_of_beq (List.all_eq_true.mp moved_all n (List.mem_range.mpr h))
theorem single_row {n : Nat} (h : n < 50) : (List.replicate n [0]).flatten ++ [1] = bitsN (1 <<< n) := eq_of_beq (List.all_eq_true.mp single_all n (List.mem_range.mpr h))
theorem both_row {m n : Nat} (h1 : m < 50) (h2 : n < 40) : bitsN (clN (mv (1 <<< m)) (pw n) (bl (pw n))) = oddRow (m + n) := eq_of_beq (List.all_eq_true.mp (List.all_eq_true.mp both_all m (List.mem_range.mpr h1)) n (List.mem_range.mpr h2))
theorem pw_le : ∀ n : Nat, bl (pw n) ≤ n + 1
  | 0 => by decide +kernel
  | n + 1 => by
    have h := pw_le n
    have h1 := bl_shl_le (pw n) 1
    exact bl_xor_le (by omega) (by omega)
theorem bl_one (n : Nat) : bl (1 <<< n) = n + 1 := by
  rw [bl_shl (by decide), show bl 1 = 1 by decide +kernel]
  omega
theorem bitsL_nat (m : Nat) : bitsL m = (bitsN m).map nI := by
  unfold bitsL bitsN
  rw [List.map_map]
  rfl
def oddD (n : Nat) : List D := (List.range (n + 1)).map fun k => if decide (n &&& k = k) then .int 1 else .int 0
theorem oddD_eq (n : Nat) : oddD n = (oddRow n).map nI := by
  unfold oddD oddRow
  rw [List.map_map]
  refine List.map_congr_left fun k _ => ?_
  show _ = nI (if n &&& k = k then 1 else 0)
  by_cases h : n &&& k = k
  · rw [decide_eq_true h, if_pos h]; rfl
  · rw [decide_eq_false h, if_neg h]; rfl
theorem polyD_of {m n : Nat} (h : bitsN m = oddRow n) : polyD m = .tuple (oddD n) := by
  unfold polyD
  rw [bitsL_nat, h, oddD_eq]
theorem single_w {n : Nat} (h : n < 50) : (bnd (mulD (.tuple [.int 0]) (nI n)) fun a => addD a (.tuple [.int 1])) = PW.ret (polyD (1 <<< n)) := by
  have l : (List.replicate n [PyData.int 0]).flatten.length = n := by simp
  show bnd (grd _ (PW.ret (PyData.tuple (List.replicate ((n : Int).toNat) [PyData.int 0]).flatten))) _ = _
  rw [grd_t ⟨by omega, by omega, by decide⟩, Int.toNat_natCast]
  show grd ((List.replicate n [PyData.int 0]).flatten.length + 1 ≤ sizeLine) (PW.ret (PyData.tuple ((List.replicate n [PyData.int 0]).flatten ++ [PyData.int 1]))) = _
  rw [grd_t (by rw [l]; have : 1000 ≤ sizeLine := by decide
                omega)]
  congr 1
  unfold polyD
  congr 1
  rw [bitsL_nat, ← single_row h, List.map_append, List.map_flatten, List.map_replicate]
  rfl
/-! ### lists made place by place, and draws in loops -/
theorem comp_bnd {β : Type} {n : Nat} {f : D → Wp D} {k : List D → Wp β} (g : Nat → D) (hn : n ≤ sizeLine) (h : ∀ i, i < n → f (nI i) = PW.ret (g i)) : (bnd (rangeW (nI n)) fun ds => grd (ds.length ≤ sizeLine) (bnd (compM f ds) k)) = k ((List.range n).map g) := by
  have e := comp0_range (f := f) g hn h
  have : (bnd (rangeW (nI n)) fun ds => grd (ds.length ≤ sizeLine) (bnd (compM f ds) k)) = bnd (comp0 (rangeW (nI n)) PW.ret f) k := rfl
  rw [this, e, bnd_ret]
theorem forW_all {S : Type} {b : S → D → Wp S} {Q : S → Prop} (I : Nat → S → Prop) (T : Nat) (q : ∀ s, I T s → Q s) : ∀ (ds : List D) (o : Nat), o + ds.length = T → (∀ (j : Nat) (s : S), ∀ d ∈ ds, j < T → I j s → ∀ R : S → Prop, (∀ s2, I (j + 1) s2 → R s2) → b s d R) → ∀ s, I o s → forW b ds s Q
  | [], o, e, _, s, i => q s (by rw [← e]; exact i)
  | d :: ds, o, e, h, s, i => h o s d List.mem_cons_self (by rw [List.length_cons] at e; omega) i _ fun s2 i2 => forW_all I T q ds (o + 1) (by rw [List.length_cons] at e; omega) (fun j s e he => h j s e (List.mem_cons_of_mem _ he)) s2 i2
theorem some_poly_ok {β : Type} {c : Nat} (hc : c ≤ 1000) {k : D → Wp β} {Q : β → Prop} (h : ∀ m : Nat, bl m ≤ c → k (nI m) Q) : bnd (f_law_some_poly [nI c]) k Q := by
  show bnd (b_law_some_poly (nI c)) k Q
  unfold b_law_some_poly
  simp only [op2, consW, bnd_bnd, bnd_ret]
  rw [show addD (nI c) (.int 1) = PW.ret (nI (c + 1)) from rfl, bnd_ret]
  refine draw_bnd ⟨by omega, by omega⟩ fun d a b => ?_
  obtain ⟨d, rfl⟩ := Int.eq_ofNat_of_zero_le a
  rw [show rangeW (.int (d : Int)) = PW.ret ((List.range d).map nI) from rangeW_nat (by omega), bnd_ret]
  have hd : d ≤ c := by omega
  clear a b
  refine forW_all (fun j s => ∃ m : Nat, s = nI m ∧ bl m ≤ j) d (fun s i => ?_) _ 0 (by rw [List.length_map, List.length_range, Nat.zero_add]) (fun j s e he hj i R r => ?_) _ ⟨0, rfl, by decide⟩
  · obtain ⟨m, rfl, hm⟩ := i
    exact h m (by omega)
  · obtain ⟨m, rfl, hm⟩ := i
    show (bnd (shlI (nI m) (.int 1)) fun x => bnd (drawF [.int 2]) fun y => orI x y) R
    rw [show shlI (nI m) (.int 1) = PW.ret (nI (m <<< 1)) from shlI_nat (b := 1) (by have := line27; omega), bnd_ret]
    refine draw_bnd ⟨by decide, by decide⟩ fun z a b => ?_
    obtain ⟨z, rfl⟩ := Int.eq_ofNat_of_zero_le a
    rw [show orI (nI (m <<< 1)) (.int (z : Int)) = PW.ret (nI ((m <<< 1) ||| z)) from orI_nat _ _]
    refine r _ ⟨_, rfl, bl_le (Nat.or_lt_two_pow ?_ ?_)⟩
    · have := bl_shl_le m 1
      exact bl_le_iff.mp (by omega)
    · exact Nat.lt_of_lt_of_le (show z < 2 ^ 1 by omega) (Nat.pow_le_pow_right (by decide) (by omega))
theorem rows_bnd {β : Type} {m : Wp (List D)} {k : List D → Wp β} {Q : β → Prop} (h : ∃ L : List D, m = PW.ret (L.map fun d => .list [d, d]) ∧ (∀ d ∈ L, Fine 64 (2 ^ 20) d) ∧ L.length ≤ 7)
    (q : ∀ L : List D, (∀ d ∈ L, Fine 64 (2 ^ 20) d) → L.length ≤ 7 → k (L.map fun d => .list [d, d]) Q) : bnd m k Q := by
  obtain ⟨L, rfl, h1, h2⟩ := h
  exact q L h1 h2
theorem odd_comp {β : Type} {n : Nat} {f : D → Wp D} {k : List D → Wp β} (hn : n ≤ 1000) (h : ∀ i, f (nI i) = bnd (f_law_is_odd [nI n, nI i]) fun a => bnd (truthD a) fun t => ifW t (PW.ret (.int 1)) (PW.ret (.int 0))) : (bnd (rangeW (nI (n + 1))) fun ds => grd (ds.length ≤ sizeLine) (bnd (compM f ds) k)) = k (oddD n) :=
  comp_bnd _ (by have := line20; omega) fun i _ => by
    rw [h, e_law_is_odd, bnd_ret, truthD_bool, bnd_ret]
    cases decide (n &&& i = i) <;> rfl
end L57

set_option Elab.async false
set_option linter.all false
set_option maxRecDepth 100000
set_option maxHeartbeats 40000000
namespace L57
open PySem PySem.Spec PyProof.Rows L2 PW
theorem polys_ok {Q : D → Prop} (q : Q (.bool true)) : b_law_are_polys_right Q := by
  unfold b_law_are_polys_right
  simp only [op2, consW, lstW, tupW, tuW, tnot, tand, tor, atW, sumW, appW, extW, andW, bnd_bnd, bnd_ret, bnd_grd, List.length_cons, List.length_nil, Nat.reduceAdd, grd_few, grd_few1, Nat.reduceLeDiff, perm_1, perm_10, List.cons_append, List.nil_append]
  refine draw_bnd ⟨by decide, by decide⟩ fun d1 a1 b1 => draw_bnd ⟨by decide, by decide⟩ fun d2 a2 b2 => ?_
  obtain ⟨d1, rfl⟩ := Int.eq_ofNat_of_zero_le a1
  obtain ⟨d2, rfl⟩ := Int.eq_ofNat_of_zero_le a2
  have one : bl 1 = 1 := by decide +kernel
  have l27 := line27
  rw [show shlI (.int 1) (.int (d2 : Int)) = PW.ret (nI (1 <<< d2)) from shlI_nat (a := 1) (by omega), bnd_ret]
  have p2 : 1 <<< d2 ≤ 32 := by
    rw [Nat.shiftLeft_eq, Nat.one_mul]
    exact Nat.pow_le_pow_right (by decide) (show d2 ≤ 5 by omega)
  refine draw_bnd ⟨by decide, by decide⟩ fun d3 a3 b3 => ?_
  obtain ⟨d3, rfl⟩ := Int.eq_ofNat_of_zero_le a3
  refine pick_ok (by simp) (by show 3 < 2 ^ 64; decide) fun x hx => ?_
  obtain ⟨n, rfl, hn⟩ : ∃ n : Nat, x = nI n ∧ n < 40 := by
    simp only [List.mem_cons, List.not_mem_nil, or_false] at hx
    rcases hx with h | h | h
    · exact ⟨d1, h, by omega⟩
    · exact ⟨1 <<< d2, h, by omega⟩
    · exact ⟨d3, h, by omega⟩
  clear hx p2
  rw [rangeW_nat (by omega), bnd_ret]
  have hpw : forW (fun (s3 : D) (d : D) => bnd (shlI s3 (.int 1)) fun a => bnd (xorI a s3) fun x41 => PW.ret x41) ((List.range n).map nI) (.int 1) = PW.ret (nI (pw n)) := by
    refine (forW_at (fun j => nI (pw j)) ((List.range n).map nI) 0 fun j d hd => ?_).trans (by rw [List.length_map, List.length_range, Nat.zero_add])
    have hj : j < n := by
      have := (List.getElem?_eq_some_iff.mp hd).1
      rwa [List.length_map, List.length_range] at this
    have := pw_le j
    rw [Nat.zero_add, show shlI (nI (pw j)) (.int 1) = PW.ret (nI (pw j <<< 1)) from shlI_nat (b := 1) (by omega), bnd_ret, xorI_nat]
    rfl
  rw [hpw, bnd_ret]
  have hp := pw_le n
  refine some_poly_ok (c := 40) (by decide) fun m1 hm1 => ?_
  rw [show shlI (.int 1) (nI n) = PW.ret (nI (1 <<< n)) from shlI_nat (a := 1) (by omega), bnd_ret]
  have h1n := bl_one n
  refine pick_ok (by simp) (by show 3 < 2 ^ 64; decide) fun x hx => ?_
  obtain ⟨u, rfl, hu⟩ : ∃ u : Nat, x = nI u ∧ bl u ≤ 40 := by
    simp only [List.mem_cons, List.not_mem_nil, or_false] at hx
    rcases hx with h | h | h
    · exact ⟨m1, h, hm1⟩
    · exact ⟨pw n, h, by omega⟩
    · exact ⟨1 <<< n, h, by omega⟩
  clear hx
  refine pick_ok (by simp) (by show 2 < 2 ^ 64; decide) fun x hx => ?_
  obtain ⟨c, rfl, hc⟩ : ∃ c : Nat, x = nI c ∧ c ≤ 40 := by
    simp only [List.mem_cons, List.not_mem_nil, or_false] at hx
    rcases hx with h | h
    · exact ⟨6, h, by omega⟩
    · exact ⟨40, h, by omega⟩
  clear hx
  refine some_poly_ok (by omega) fun v hv => ?_
  have hv : bl v ≤ 40 := by omega
  rw [e_law_poly (by omega), bnd_ret, e_law_poly (by omega), bnd_ret]
  refine draw_bnd ⟨by decide, by decide⟩ fun d4 a4 b4 => ?_
  have fx : Fine 64 (2 ^ 20) (polyD u) := fine_p (by omega)
  have fy : Fine 64 (2 ^ 20) (polyD v) := fine_p (by omega)
  have fxy : Fine 64 (2 ^ 20) (.list [polyD u, polyD v]) := (Fine.lst (dep := 1) (wt := 41000) fun d hd => by
    simp only [List.mem_cons, List.not_mem_nil, or_false] at hd
    rcases hd with rfl | rfl
    · exact fine_poly (by omega)
    · exact fine_poly (by omega)).mono (by decide) (by show 2 * (41000 + 1) ≤ 2 ^ 20; decide)
  have cu := clN_le u v (bl v)
  have gu := gcdN_le (bl v) u v 40 hu hv
  have mu := mv_le u
  have xu := bl_xor_le hu hv
  rw [eqD_int, bnd_ret, reprW_fine fxy, bnd_ret]
  simp only [truthD_bool, bnd_ret, ifW_same]
  rw [e_poly_sum (by omega) (by omega), bnd_ret, xorI_nat, bnd_ret, e_law_poly (by omega), bnd_ret, e_law_times (by omega) (by omega), bnd_ret, e_law_poly (by omega), bnd_ret, e_poly_product (by omega) (by omega), bnd_ret,
    e_law_divisor (by omega) (by omega), bnd_ret, e_law_poly (by omega), bnd_ret, e_poly_divisor (by omega) (by omega), bnd_ret, e_poly_divisor (by omega) (by omega), bnd_ret, ← gcdN_swap (bl v) (bl u) u v (Nat.le_refl _) (Nat.le_refl _),
    e_poly_moved (by omega), bnd_ret, e_law_moved (by omega), bnd_ret, e_law_poly (by omega), bnd_ret, e_poly_moved (by omega), bnd_ret, mv_mv, gtI_zero, bnd_ret, boolD_bool, bnd_ret]
  refine rows_bnd ?_ fun L hL hl => ?_
  · by_cases z : v = 0
    · refine ⟨[polyD (u ^^^ v), polyD (clN u v (bl v)), polyD (gcdN (bl v) u v), polyD (gcdN (bl v) u v), polyD (mv u), polyD u], ?_, fun d hd => ?_, by show 6 ≤ 7; decide⟩
      · rw [decide_eq_true z]
        rfl
      · simp only [List.mem_cons, List.not_mem_nil, or_false] at hd
        rcases hd with rfl | rfl | rfl | rfl | rfl | rfl <;> exact fine_p (by omega)
    · have ru := rest_le z (u := u)
      refine ⟨[polyD (u ^^^ v), polyD (clN u v (bl v)), polyD (gcdN (bl v) u v), polyD (gcdN (bl v) u v), polyD (mv u), polyD u, polyD (rest v u)], ?_, fun d hd => ?_, by show 7 ≤ 7; decide⟩
      · rw [decide_eq_false z]
        show (bnd (f_law_rest [nI u, nI v]) _) = _
        rw [e_law_rest z (by omega) (by omega), bnd_ret, e_law_poly (by omega), bnd_ret, e_poly_rest z (by omega) (by omega), bnd_ret]
        rfl
      · simp only [List.mem_cons, List.not_mem_nil, or_false] at hd
        rcases hd with rfl | rfl | rfl | rfl | rfl | rfl | rfl <;> exact fine_p (by omega)
  rw [← bnd_bnd, single_w (by omega), bnd_ret]
  have l24 : 1000 < sizeLine := by decide
  rw [e_poly_moved (by omega), bnd_ret]
  rw [show addD (nI n) (.int 1) = PW.ret (nI (n + 1)) from rfl, bnd_ret]
  rw [odd_comp (n := n) (f := fun a29 => bnd (f_law_is_odd [nI n, a29]) fun a => bnd (truthD a) fun t30 => ifW t30 (PW.ret (PyData.int 1)) (PW.ret (PyData.int 0))) (by omega) (fun i => rfl)]
  rw [grd_t (show (L.map fun d => PyData.list [d, d]).length < sizeLine by rw [List.length_map]; omega)]
  rw [bnd_ret, bnd_ret]
  rw [odd_comp (n := n) (f := fun a29 => bnd (fis_binomial_odd [nI n, a29]) fun a => bnd (truthD a) fun t30 => ifW t30 (PW.ret (PyData.int 1)) (PW.ret (PyData.int 0))) (by omega) (fun i => by rw [e_is_binomial_odd, e_law_is_odd])]
  rw [grd_t (by rw [List.length_append, List.length_map, List.length_singleton]; omega)]
  refine draw_bnd ⟨by decide, by decide⟩ fun d5 a5 b5 => ?_
  obtain ⟨m, rfl⟩ := Int.eq_ofNat_of_zero_le a5
  have hm : m < 50 := by omega
  have h1m := bl_one m
  have mm := mv_le (1 <<< m)
  have cc := clN_le (mv (1 <<< m)) (pw n) (bl (pw n))
  have mn := mv_le (1 <<< n)
  rw [show addD (.int (m : Int)) (nI n) = PW.ret (nI (m + n)) from rfl]
  simp only [bnd_ret]
  rw [show addD (nI (m + n)) (.int 1) = PW.ret (nI (m + n + 1)) from rfl, bnd_ret]
  rw [odd_comp (n := m + n) (f := fun a29 => bnd (fis_binomial_odd [nI (m + n), a29]) fun a => bnd (truthD a) fun t30 => ifW t30 (PW.ret (PyData.int 1)) (PW.ret (PyData.int 0))) (by omega) (fun i => by rw [e_is_binomial_odd, e_law_is_odd])]
  rw [← bnd_bnd (m := mulD (.tuple [.int 0]) (.int (m : Int))), single_w hm, bnd_ret, e_poly_moved (by omega), bnd_ret, e_law_poly (by omega), bnd_ret, e_poly_product (by omega) (by omega), bnd_ret]
  rw [grd_t (by simp only [List.length_append, List.length_map, List.length_singleton]; omega)]
  rw [← polyD_of (moved_row hn), ← polyD_of (both_row hm hn)]
  have e : ∀ A B C : D, L.map (fun d => PyData.list [d, d]) ++ [.list [A, A]] ++ [.list [B, B]] ++ [.list [C, C]] = (L ++ [A] ++ [B] ++ [C]).map fun d => .list [d, d] := fun A B C => by
    rw [List.map_append, List.map_append, List.map_append]
    rfl
  have ag := e_law_agree (ds := L ++ [polyD (mv (1 <<< n))] ++ [polyD (mv (1 <<< n))] ++ [polyD (clN (mv (1 <<< m)) (pw n) (bl (pw n)))]) (fun d hd => by
    simp only [List.mem_append, List.mem_singleton] at hd
    rcases hd with ((h | h) | h) | h
    · exact hL d h
    · rw [h]; exact fine_p (by omega)
    · rw [h]; exact fine_p (by omega)
    · rw [h]; exact fine_p (by omega)) (by simp only [List.length_append, List.length_singleton]; omega)
  rw [e, ag, bnd_ret, boolD_bool, bnd_ret, ifW_t, eqD_self (shaped_str fxy)]
  exact q
theorem lamps_bnd {β : Type} {k : D → Wp β} {Q : β → Prop} (q : k (.bool true) Q) : bnd (f_law_are_lamps_right []) k Q := by
  have e : f_law_are_lamps_right [] = b_law_are_lamps_right := by rw [f_law_are_lamps_right]
  rw [e]
  unfold bnd
  exact lamps_ok q
theorem joined_bnd {β : Type} {k : D → Wp β} {Q : β → Prop} (q : k (.bool true) Q) : bnd (f_law_are_joined_right []) k Q := by
  have e : f_law_are_joined_right [] = b_law_are_joined_right := by rw [f_law_are_joined_right]
  rw [e]
  unfold bnd
  exact joined_ok q
theorem polys_bnd {β : Type} {k : D → Wp β} {Q : β → Prop} (q : k (.bool true) Q) : bnd (f_law_are_polys_right []) k Q := by
  have e : f_law_are_polys_right [] = b_law_are_polys_right := by rw [f_law_are_polys_right]
  rw [e]
  unfold bnd
  exact polys_ok q
theorem polys_last {Q : D → Prop} (q : Q (.bool true)) : f_law_are_polys_right [] Q := by
  have e : f_law_are_polys_right [] = b_law_are_polys_right := by rw [f_law_are_polys_right]
  rw [e]
  exact polys_ok q
theorem law_true : blaw fun d => d = .bool true := by
  unfold blaw
  simp only [tor, tnot, andW, bnd_bnd, bnd_ret]
  refine lamps_bnd ?_
  simp only [truthD_bool, bnd_ret, Bool.not_true, ifW_f, bnd_bnd]
  refine joined_bnd ?_
  simp only [truthD_bool, bnd_ret, Bool.not_true, ifW_f, bnd_bnd]
  refine polys_bnd ?_
  rw [boolD_bool, bnd_ret, ifW_t]
  exact polys_last rfl
end L57

open PySem PySem.W PyProof.Rows
set_option maxHeartbeats 0 in
theorem PySem.Challenge.cw_countedbytwos_k57_whole_lamps_and_figure_holds : PySem.Challenge.rw_countedbytwos_k57_whole_lamps_and_figure.Holds := by
  w_on; o_law; k_head; (case hw => w_witness2)
  k_fill
  refine PW.walkG (l := PySem.Challenge.rw_countedbytwos_k57_whole_lamps_and_figure) (n := 63) (k := 5) (x := "script") (sp := fun K => PW.lawSp K L57.blaw) rfl (by decide) rfl ⟨rfl, by decide, by decide⟩ (fun w h Y => PySem.W.kIn_of Y) ?F (fun _ _ a ns hl _ hS => ⟨a, ns, rfl, hS, hl, L57.law_true, fun _ => rfl⟩)
  case F =>
    intro w mg fa h KX G hmg
    refine' L57.all_mk KX G hmg ?m0 ?m1 ?m2 ?m3 ?m4 ?m5 ?m6 ?m7 ?m8 ?m9 ?m10 ?m11 ?m12 ?m13 ?m14 ?m15 ?m16 ?m17 ?m18 ?m19 ?m20 ?m21 ?m22 ?m23 ?m24 ?m25 ?m26 ?m27 ?m28 ?m29 ?z0 ?z1 ?z2 ?z3 ?z4 ?z5 ?z6 ?z7 ?z8 ?z9 ?z10
    (case m0 => refine' PW.met_mk ?a ?l ?c ?k; (case a => k_is); (case l => k_is); (case c => k_is); (case k => k_is))
    (case m1 => refine' PW.met_mk ?a ?l ?c ?k; (case a => k_is); (case l => k_is); (case c => k_is); (case k => k_is))
    (case m2 => refine' PW.met_mk ?a ?l ?c ?k; (case a => k_is); (case l => k_is); (case c => k_is); (case k => k_is))
    (case m3 => refine' PW.met_mk ?a ?l ?c ?k; (case a => k_is); (case l => k_is); (case c => k_is); (case k => k_is))
    (case m4 => refine' PW.met_mk ?a ?l ?c ?k; (case a => k_is); (case l => k_is); (case c => k_is); (case k => k_is))
    (case m5 => refine' PW.met_mk ?a ?l ?c ?k; (case a => k_is); (case l => k_is); (case c => k_is); (case k => k_is))
    (case m6 => refine' PW.met_mk ?a ?l ?c ?k; (case a => k_is); (case l => k_is); (case c => k_is); (case k => k_is))
    (case m7 => refine' PW.met_mk ?a ?l ?c ?k; (case a => k_is); (case l => k_is); (case c => k_is); (case k => k_is))
    (case m8 => refine' PW.met_mk ?a ?l ?c ?k; (case a => k_is); (case l => k_is); (case c => k_is); (case k => k_is))
    (case m9 => refine' PW.met_mk ?a ?l ?c ?k; (case a => k_is); (case l => k_is); (case c => k_is); (case k => k_is))
    (case m10 => refine' PW.met_mk ?a ?l ?c ?k; (case a => k_is); (case l => k_is); (case c => k_is); (case k => k_is))
    (case m11 => refine' PW.met_mk ?a ?l ?c ?k; (case a => k_is); (case l => k_is); (case c => k_is); (case k => k_is))
    (case m12 => refine' PW.met_mk ?a ?l ?c ?k; (case a => k_is); (case l => k_is); (case c => k_is); (case k => k_is))
    (case m13 => refine' PW.met_mk ?a ?l ?c ?k; (case a => k_is); (case l => k_is); (case c => k_is); (case k => k_is))
    (case m14 => refine' PW.met_mk ?a ?l ?c ?k; (case a => k_is); (case l => k_is); (case c => k_is); (case k => k_is))
    (case m15 => refine' PW.met_mk ?a ?l ?c ?k; (case a => k_is); (case l => k_is); (case c => k_is); (case k => k_is))
    (case m16 => refine' PW.met_mk ?a ?l ?c ?k; (case a => k_is); (case l => k_is); (case c => k_is); (case k => k_is))
    (case m17 => refine' PW.met_mk ?a ?l ?c ?k; (case a => k_is); (case l => k_is); (case c => k_is); (case k => k_is))
    (case m18 => refine' PW.met_mk ?a ?l ?c ?k; (case a => k_is); (case l => k_is); (case c => k_is); (case k => k_is))
    (case m19 => refine' PW.met_mk ?a ?l ?c ?k; (case a => k_is); (case l => k_is); (case c => k_is); (case k => k_is))
    (case m20 => refine' PW.met_mk ?a ?l ?c ?k; (case a => k_is); (case l => k_is); (case c => k_is); (case k => k_is))
    (case m21 => refine' PW.met_mk ?a ?l ?c ?k; (case a => k_is); (case l => k_is); (case c => k_is); (case k => k_is))
    (case m22 => refine' PW.met_mk ?a ?l ?c ?k; (case a => k_is); (case l => k_is); (case c => k_is); (case k => k_is))
    (case m23 => refine' PW.met_mk ?a ?l ?c ?k; (case a => k_is); (case l => k_is); (case c => k_is); (case k => k_is))
    (case m24 => refine' PW.met_mk ?a ?l ?c ?k; (case a => k_is); (case l => k_is); (case c => k_is); (case k => k_is))
    (case m25 => refine' PW.met_mk ?a ?l ?c ?k; (case a => k_is); (case l => k_is); (case c => k_is); (case k => k_is))
    (case m26 => refine' PW.met_mk ?a ?l ?c ?k; (case a => k_is); (case l => k_is); (case c => k_is); (case k => k_is))
    (case m27 => refine' PW.met_mk ?a ?l ?c ?k; (case a => k_is); (case l => k_is); (case c => k_is); (case k => k_is))
    (case m28 => refine' PW.met_mk ?a ?l ?c ?k; (case a => k_is); (case l => k_is); (case c => k_is); (case k => k_is))
    (case m29 => refine' PW.met_mk ?a ?l ?c ?k; (case a => k_is); (case l => k_is); (case c => k_is); (case k => k_is))
    (case z0 => k_is)
    (case z1 => k_is)
    (case z2 => k_is)
    (case z3 => k_is)
    (case z4 => k_is)
    (case z5 => k_is)
    (case z6 => k_is)
    (case z7 => k_is)
    (case z8 => k_is)
    (case z9 => k_is)
    (case z10 => k_is)
