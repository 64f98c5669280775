import PyProof.Rows.All
import Wide.All
import OpenK.AllK
import Wide.FinOn
import HandS.ForMost
import HandS.Walk
import HandS.Zip
import HandS.TupAny
import HandS.TupMul
import HandS.More
import HandS.Steps
import HandS.Wide
import HandS.DeepEq
import KE.GoesEnum
import PySem.Challenge.RW_truelevels_k37_report_is_told
set_option Elab.async false
set_option linter.all false
set_option maxRecDepth 100000
set_option maxHeartbeats 4000000
/-! The mathematics: loops, sums, Bellman-Ford. Plain Lean. -/
namespace TL

/-! ### loops -/
inductive LoopN {α : Type} (c : α → Bool) (f : α → α) : Nat → α → α → Prop
  | done {a : α} (h : c a = false) : LoopN c f 0 a a
  | step {a r : α} {k : Nat} (h : c a = true) (t : LoopN c f k (f a) r) : LoopN c f (k + 1) a r

section
variable {α : Type} {c : α → Bool} {f : α → α}
theorem LoopN.uniq : ∀ {k k' : Nat} {a r r' : α}, LoopN c f k a r → LoopN c f k' a r' → r = r' := by
  intro k k' a r r' h
  induction h generalizing k' with
  | done h =>
    intro h'
    cases h' with
    | done _ => rfl
    | step h2 _ => rw [h] at h2; cases h2
  | step h t ih =>
    intro h'
    cases h' with
    | done h2 => rw [h] at h2; cases h2
    | step _ t' => exact ih t'
theorem LoopN.end_false : ∀ {k : Nat} {a r : α}, LoopN c f k a r → c r = false := by
  intro k a r h
  induction h with
  | done h => exact h
  | step _ _ ih => exact ih
theorem LoopN.go {k : Nat} {a r : α} (h : LoopN c f k a r) (hc : c a = true) : ∃ k', k = k' + 1 ∧ LoopN c f k' (f a) r := by
  cases h with
  | done h2 => rw [hc] at h2; cases h2
  | step _ t => exact ⟨_, rfl, t⟩
theorem LoopN.stop {k : Nat} {a r : α} (h : LoopN c f k a r) (hc : c a = false) : r = a := by
  cases h with
  | done _ => rfl
  | step h2 _ => rw [hc] at h2; cases h2
theorem LoopN.keeps {I : α → Prop} (hI : ∀ a, I a → c a = true → I (f a)) : ∀ {k : Nat} {a r : α}, LoopN c f k a r → I a → I r := by
  intro k a r h
  induction h with
  | done h => exact id
  | step h _ ih => exact fun i => ih (hI _ i h)
/-- lexicographic measure -/
theorem LoopN.ex2 {I : α → Prop} (m1 m2 : α → Nat) (hI : ∀ a, I a → c a = true → I (f a) ∧ (m1 (f a) < m1 a ∨ (m1 (f a) = m1 a ∧ m2 (f a) < m2 a))) :
    ∀ (x y : Nat) (a : α), m1 a = x → m2 a = y → I a → ∃ k r, LoopN c f k a r := by
  intro x
  induction x using Nat.strongRecOn with
  | _ x ihx =>
    intro y
    induction y using Nat.strongRecOn with
    | _ y ihy =>
      intro a hx hy ia
      cases hc : c a with
      | false => exact ⟨0, a, .done hc⟩
      | true =>
        obtain ⟨i2, d⟩ := hI a ia hc
        rcases d with d | ⟨e, d⟩
        · obtain ⟨k, r, l⟩ := ihx (m1 (f a)) (by omega) (m2 (f a)) (f a) rfl rfl i2
          exact ⟨k + 1, r, .step hc l⟩
        · obtain ⟨k, r, l⟩ := ihy (m2 (f a)) (by omega) (f a) (by omega) rfl i2
          exact ⟨k + 1, r, .step hc l⟩
theorem LoopN.ex1 {I : α → Prop} (m : α → Nat) (hI : ∀ a, I a → c a = true → I (f a) ∧ m (f a) < m a) (a : α) (ia : I a) : ∃ k r, LoopN c f k a r :=
  LoopN.ex2 (I := I) m (fun _ => 0) (fun a i h => ⟨(hI a i h).1, .inl (hI a i h).2⟩) _ _ a rfl rfl ia
end
open Classical in
noncomputable def whileL {α : Type} (c : α → Bool) (f : α → α) (a : α) : α := if h : ∃ r k, LoopN c f k a r then h.choose else a
theorem whileL_eq {α : Type} {c : α → Bool} {f : α → α} {k : Nat} {a r : α} (h : LoopN c f k a r) : whileL c f a = r := by
  have e : ∃ r k, LoopN c f k a r := ⟨r, k, h⟩
  unfold whileL
  rw [dif_pos e]
  obtain ⟨k', h'⟩ := e.choose_spec
  exact h'.uniq h

/-- a for: turn by turn -/
def upto {α : Type} (F : Nat → α → α) (a : α) : Nat → α
  | 0 => a
  | k + 1 => F k (upto F a k)
theorem upto_inv {α : Type} {F : Nat → α → α} {a : α} (I : Nat → α → Prop) (h0 : I 0 a) (n : Nat) (hs : ∀ i x, i < n → I i x → I (i + 1) (F i x)) : ∀ k, k ≤ n → I k (upto F a k)
  | 0, _ => h0
  | k + 1, h => hs k _ h (upto_inv I h0 n hs k (by omega))

/-! ### sums -/
def sumN (F : Nat → Nat) : Nat → Nat
  | 0 => 0
  | n + 1 => sumN F n + F n
def sumZ (F : Nat → Int) : Nat → Int
  | 0 => 0
  | n + 1 => sumZ F n + F n
theorem sumN_congr {F G : Nat → Nat} : ∀ {n : Nat}, (∀ j, j < n → F j = G j) → sumN F n = sumN G n
  | 0, _ => rfl
  | n + 1, h => by rw [sumN, sumN, sumN_congr fun j hj => h j (by omega), h n (by omega)]
theorem sumZ_congr {F G : Nat → Int} : ∀ {n : Nat}, (∀ j, j < n → F j = G j) → sumZ F n = sumZ G n
  | 0, _ => rfl
  | n + 1, h => by rw [sumZ, sumZ, sumZ_congr fun j hj => h j (by omega), h n (by omega)]
theorem sumN_upd {F G : Nat → Nat} {y : Nat} : ∀ {n : Nat}, y < n → (∀ j, j ≠ y → G j = F j) → sumN G n + F y = sumN F n + G y
  | 0, h, _ => by omega
  | n + 1, h, e => by
    rw [sumN, sumN]
    by_cases hy : y = n
    · subst hy
      rw [sumN_congr (F := G) (G := F) fun j hj => e j (by omega)]
      omega
    · have := sumN_upd (n := n) (by omega) e
      rw [e n (by omega)]
      omega
theorem sumZ_upd {F G : Nat → Int} {y : Nat} : ∀ {n : Nat}, y < n → (∀ j, j ≠ y → G j = F j) → sumZ G n + F y = sumZ F n + G y
  | 0, h, _ => by omega
  | n + 1, h, e => by
    rw [sumZ, sumZ]
    by_cases hy : y = n
    · subst hy
      rw [sumZ_congr (F := G) (G := F) fun j hj => e j (by omega)]
      omega
    · have := sumZ_upd (n := n) (by omega) e
      rw [e n (by omega)]
      omega
theorem sumZ_add {F G : Nat → Int} : ∀ {n : Nat}, sumZ (fun j => F j + G j) n = sumZ F n + sumZ G n
  | 0 => rfl
  | n + 1 => by rw [sumZ, sumZ, sumZ, sumZ_add]; omega
theorem sumZ_sub {F G : Nat → Int} : ∀ {n : Nat}, sumZ (fun j => F j - G j) n = sumZ F n - sumZ G n
  | 0 => rfl
  | n + 1 => by rw [sumZ, sumZ, sumZ, sumZ_sub]; omega
theorem sumZ_zero {F : Nat → Int} : ∀ {n : Nat}, (∀ j, j < n → F j = 0) → sumZ F n = 0
  | 0, _ => rfl
  | n + 1, h => by rw [sumZ, sumZ_zero fun j hj => h j (by omega), h n (by omega)]; rfl
theorem sumZ_le {F G : Nat → Int} : ∀ {n : Nat}, (∀ j, j < n → F j ≤ G j) → sumZ F n ≤ sumZ G n
  | 0, _ => Int.le_refl _
  | n + 1, h => by
    rw [sumZ, sumZ]
    have := sumZ_le (F := F) (G := G) (n := n) fun j hj => h j (by omega)
    have := h n (by omega)
    omega
/-- termwise at most, sums alike: terms alike -/
theorem sumZ_tight {F G : Nat → Int} : ∀ {n : Nat}, (∀ j, j < n → F j ≤ G j) → sumZ F n = sumZ G n → ∀ j, j < n → F j = G j
  | 0, _, _, j, hj => by omega
  | n + 1, h, e, j, hj => by
    rw [sumZ, sumZ] at e
    have h1 := sumZ_le (F := F) (G := G) (n := n) fun j hj => h j (by omega)
    have h2 := h n (by omega)
    by_cases hjn : j = n
    · subst hjn; omega
    · exact sumZ_tight (n := n) (fun j hj => h j (by omega)) (by omega) j (by omega)
theorem sumN_zero {F : Nat → Nat} : ∀ {n : Nat}, (∀ j, j < n → F j = 0) → sumN F n = 0
  | 0, _ => rfl
  | n + 1, h => by rw [sumN, sumN_zero fun j hj => h j (by omega), h n (by omega)]

/-! ### lists by places -/
def gi (h : List Int) (i : Nat) : Int := h.getD i 0
theorem gi_set {h : List Int} {i j : Nat} {x : Int} (hi : i < h.length) : gi (h.set i x) j = if j = i then x else gi h j := by
  unfold gi
  simp only [List.getD_eq_getElem?_getD, List.getElem?_set]
  by_cases e : i = j
  · subst e; simp [hi]
  · rw [if_neg e, if_neg (Ne.symm e)]
theorem gi_rep {n j : Nat} {x : Int} (h : j < n) : gi (List.replicate n x) j = x := by
  unfold gi
  simp [List.getD_eq_getElem?_getD, h]
def go {β : Type} (c : List (Option β)) (i : Nat) : Option β := c.getD i none
theorem go_set {β : Type} {c : List (Option β)} {i j : Nat} {x : Option β} (hi : i < c.length) : go (c.set i x) j = if j = i then x else go c j := by
  unfold go
  simp only [List.getD_eq_getElem?_getD, List.getElem?_set]
  by_cases e : i = j
  · subst e; simp [hi]
  · rw [if_neg e, if_neg (Ne.symm e)]
theorem go_rep {β : Type} {n j : Nat} : go (List.replicate n (none : Option β)) j = none := by
  unfold go
  by_cases h : j < n <;> simp [List.getD_eq_getElem?_getD, h]
theorem go_out {β : Type} {c : List (Option β)} {i : Nat} (h : c.length ≤ i) : go c i = none := by
  unfold go
  simp [List.getD_eq_getElem?_getD, h]

/-! ### Bellman-Ford -/
structure Stp where
  fr : Nat
  to : Nat
  w : Int
  ix : Nat
  sg : Int
structure BF where
  c : List (Option Int)
  l : List (Option Stp)
  ch : Bool
def lower (t : Int) : Option Int → Bool
  | none => true
  | some d => decide (t < d)
def relax (s : BF) (e : Stp) : BF := match go s.c e.fr with
  | none => s
  | some d => if lower (d + e.w) (go s.c e.to) = true then ⟨s.c.set e.to (some (d + e.w)), s.l.set e.to (some e), true⟩ else s
def dS : Stp := ⟨0, 0, 0, 0, 0⟩
def pass (es : List Stp) (s : BF) : BF := upto (fun i s => relax s (es.getD i dS)) ⟨s.c, s.l, false⟩ es.length
def bf0 (n st : Nat) : BF := ⟨(List.replicate n none).set st (some 0), List.replicate n none, true⟩

structure Feas (n st : Nat) (es : List Stp) (g : Nat → Int) : Prop where
  sn : st < n
  g0 : g st = 0
  fr : ∀ e ∈ es, e.fr < n
  to : ∀ e ∈ es, e.to < n
  le : ∀ e ∈ es, g e.to ≤ g e.fr + e.w
def Tight (es : List Stp) (s : BF) (t : Nat → Nat) (v : Nat) (d : Int) : Prop :=
  ∃ e, e ∈ es ∧ go s.l v = some e ∧ e.to = v ∧ ∃ du, go s.c e.fr = some du ∧ du + e.w ≤ d ∧ (du + e.w = d → t e.fr < t v)
structure BI (n st : Nat) (es : List Stp) (g : Nat → Int) (s : BF) : Prop where
  lc : s.c.length = n
  ll : s.l.length = n
  c0 : go s.c st = some 0
  l0 : go s.l st = none
  ge : ∀ j d, go s.c j = some d → g j ≤ d
  tr : ∃ (t : Nat → Nat) (T : Nat), (∀ j, t j < T) ∧ ∀ v d, v ≠ st → go s.c v = some d → Tight es s t v d
def Closed (es : List Stp) (c : List (Option Int)) : Prop := ∀ e ∈ es, ∀ du, go c e.fr = some du → ∃ dv, go c e.to = some dv ∧ dv ≤ du + e.w
def m1 (s : BF) : Nat := sumN (fun j => if go s.c j = none then 1 else 0) s.c.length
def m2 (g : Nat → Int) (s : BF) : Nat := sumN (fun j => ((go s.c j).getD 0 - g j).toNat) s.c.length
/-- what a relaxing did -/
theorem relax_or (s : BF) (e : Stp) : (relax s e = s ∧ ∀ du, go s.c e.fr = some du → ∃ dv, go s.c e.to = some dv ∧ dv ≤ du + e.w) ∨
    ∃ d, go s.c e.fr = some d ∧ lower (d + e.w) (go s.c e.to) = true ∧ relax s e = ⟨s.c.set e.to (some (d + e.w)), s.l.set e.to (some e), true⟩ := by
  unfold relax
  cases h : go s.c e.fr with
  | none => exact .inl ⟨rfl, fun du q => by cases q⟩
  | some d =>
    cases hl : lower (d + e.w) (go s.c e.to) with
    | true => exact .inr ⟨d, rfl, hl, by simp only [hl, if_true]⟩
    | false =>
      refine .inl ⟨by simp [hl], fun du q => ?_⟩
      cases q
      cases h2 : go s.c e.to with
      | none => rw [h2] at hl; cases hl
      | some dv =>
        rw [h2] at hl
        have := of_decide_eq_false hl
        exact ⟨dv, rfl, by omega⟩
section
variable {n st : Nat} {es : List Stp} {g : Nat → Int} {s : BF}
theorem upd_facts {e : Stp} {d : Int} (F : Feas n st es g) (B : BI n st es g s) (he : e ∈ es) (hd : go s.c e.fr = some d) (hl : lower (d + e.w) (go s.c e.to) = true) : e.to ≠ st ∧ e.fr ≠ e.to ∧ g e.to ≤ d + e.w := by
  have h1 := B.ge _ _ hd
  have h2 := F.le e he
  refine ⟨fun q => ?_, fun q => ?_, by omega⟩
  · rw [q, B.c0] at hl
    have := of_decide_eq_true hl
    rw [q, F.g0] at h2
    omega
  · rw [← q, hd] at hl
    have := of_decide_eq_true hl
    rw [q] at h2
    omega
theorem BI.relax {e : Stp} (F : Feas n st es g) (B : BI n st es g s) (he : e ∈ es) : BI n st es g (relax s e) := by
  rcases relax_or s e with ⟨q, _⟩ | ⟨d, hd, hl, q⟩
  · rw [q]; exact B
  · obtain ⟨n1, n2, h3⟩ := upd_facts F B he hd hl
    rw [q]
    have ht : e.to < s.c.length := by rw [B.lc]; exact F.to e he
    have ht' : e.to < s.l.length := by rw [B.ll]; exact F.to e he
    refine ⟨by rw [List.length_set]; exact B.lc, by rw [List.length_set]; exact B.ll, ?_, ?_, ?_, ?_⟩
    · rw [go_set ht, if_neg (Ne.symm n1)]; exact B.c0
    · rw [go_set ht', if_neg (Ne.symm n1)]; exact B.l0
    · intro j x hx
      rw [go_set ht] at hx
      by_cases hj : j = e.to
      · rw [if_pos hj] at hx
        cases hx
        rw [hj]; exact h3
      · rw [if_neg hj] at hx
        exact B.ge j x hx
    · obtain ⟨t, T, hT, tr⟩ := B.tr
      refine ⟨fun j => if j = e.to then T else t j, T + 1, fun j => ?_, fun v x hv hx => ?_⟩
      · show (if j = e.to then T else t j) < T + 1
        by_cases hj : j = e.to
        · rw [if_pos hj]; omega
        · rw [if_neg hj]; have := hT j; omega
      · rw [go_set ht] at hx
        by_cases hj : v = e.to
        · rw [if_pos hj] at hx
          cases hx
          refine ⟨e, he, ?_, hj.symm, d, ?_, by omega, fun _ => ?_⟩
          · rw [go_set ht', if_pos hj]
          · rw [go_set ht, if_neg n2]; exact hd
          · show (if e.fr = e.to then T else t e.fr) < (if v = e.to then T else t v)
            rw [if_neg n2, if_pos hj]; exact hT _
        · rw [if_neg hj] at hx
          obtain ⟨e', m, l', to', du, hu, le, lt⟩ := tr v x hv hx
          by_cases hu' : e'.fr = e.to
          · refine ⟨e', m, ?_, to', d + e.w, ?_, ?_, fun q => ?_⟩
            · rw [go_set ht', if_neg hj]; exact l'
            · rw [go_set ht, if_pos hu']
            · rw [← hu', hu] at hl
              have := of_decide_eq_true hl
              omega
            · rw [← hu', hu] at hl
              have := of_decide_eq_true hl
              omega
          · refine ⟨e', m, ?_, to', du, ?_, le, fun q => ?_⟩
            · rw [go_set ht', if_neg hj]; exact l'
            · rw [go_set ht, if_neg hu']; exact hu
            · show (if e'.fr = e.to then T else t e'.fr) < (if v = e.to then T else t v)
              rw [if_neg hu', if_neg hj]; exact lt q
/-- a relaxing that changed lowered the measure -/
theorem relax_less {e : Stp} (F : Feas n st es g) (B : BI n st es g s) (he : e ∈ es) :
    relax s e = s ∨ ((relax s e).ch = true ∧ (m1 (relax s e) < m1 s ∨ (m1 (relax s e) = m1 s ∧ m2 g (relax s e) < m2 g s))) := by
  rcases relax_or s e with ⟨q, _⟩ | ⟨d, hd, hl, q⟩
  · exact .inl q
  · right
    obtain ⟨n1, n2, h3⟩ := upd_facts F B he hd hl
    rw [q]
    have ht : e.to < s.c.length := by rw [B.lc]; exact F.to e he
    refine ⟨rfl, ?_⟩
    unfold m1 m2
    simp only [List.length_set]
    cases h2 : go s.c e.to with
    | none =>
      left
      have := sumN_upd (F := fun j => if go s.c j = none then 1 else 0) (G := fun j => if go (s.c.set e.to (some (d + e.w))) j = none then 1 else 0) ht (fun j hj => by simp only [go_set ht, if_neg hj])
      simp only [go_set ht, if_pos, h2] at this
      simp only [go_set ht] at *
      simp at this
      omega
    | some dv =>
      right
      rw [h2] at hl
      have lt := of_decide_eq_true hl
      have a1 := sumN_upd (F := fun j => if go s.c j = none then 1 else 0) (G := fun j => if go (s.c.set e.to (some (d + e.w))) j = none then 1 else 0) ht (fun j hj => by simp only [go_set ht, if_neg hj])
      have a2 := sumN_upd (F := fun j => ((go s.c j).getD 0 - g j).toNat) (G := fun j => ((go (s.c.set e.to (some (d + e.w))) j).getD 0 - g j).toNat) ht (fun j hj => by simp only [go_set ht, if_neg hj])
      have g1 : go (s.c.set e.to (some (d + e.w))) e.to = some (d + e.w) := by rw [go_set ht, if_pos rfl]
      simp only [g1, h2] at a1 a2
      simp at a1 a2
      have b1 := B.ge _ _ h2
      refine ⟨a1, ?_⟩
      omega
def Less (g : Nat → Int) (s s' : BF) : Prop := m1 s < m1 s' ∨ (m1 s = m1 s' ∧ m2 g s < m2 g s')
theorem pass_spec (F : Feas n st es g) (B : BI n st es g s) : BI n st es g (pass es s) ∧ (((pass es s).ch = false ∧ Closed es (pass es s).c ∧ (pass es s).c = s.c) ∨ ((pass es s).ch = true ∧ Less g (pass es s) s)) := by
  have key := upto_inv (F := fun i s => relax s (es.getD i dS)) (a := (⟨s.c, s.l, false⟩ : BF))
    (fun i x => BI n st es g x ∧ ((x = ⟨s.c, s.l, false⟩ ∧ ∀ j, j < i → ∀ e, es[j]? = some e → ∀ du, go s.c e.fr = some du → ∃ dv, go s.c e.to = some dv ∧ dv ≤ du + e.w) ∨ (x.ch = true ∧ Less g x s)))
    ⟨⟨B.lc, B.ll, B.c0, B.l0, B.ge, B.tr⟩, .inl ⟨rfl, fun j hj => by omega⟩⟩ es.length (fun i x hi ⟨bx, o⟩ => by
      have he : es[i]? = some es[i] := List.getElem?_eq_getElem hi
      have hg : es.getD i dS = es[i] := by simp [List.getD_eq_getElem?_getD, hi]
      have hm : es[i] ∈ es := List.getElem_mem hi
      show BI n st es g (TL.relax x (es.getD i dS)) ∧ _
      rw [hg]
      refine ⟨bx.relax F hm, ?_⟩
      rcases o with ⟨e1, cl⟩ | ⟨c1, l1⟩
      · rcases relax_or x es[i] with ⟨q, cl2⟩ | ⟨d, hd, hl, q⟩
        · refine .inl ⟨by rw [q]; exact e1, fun j hj e hj2 => ?_⟩
          by_cases hji : j = i
          · subst hji
            rw [he] at hj2
            cases hj2
            rw [e1] at cl2
            exact cl2
          · exact cl j (by omega) e hj2
        · rcases relax_less F bx hm with q2 | ⟨c2, l2⟩
          · rw [q] at q2
            rw [e1] at q2
            have := congrArg BF.ch q2
            cases this
          · refine .inr ⟨c2, ?_⟩
            rw [e1] at l2 ⊢
            exact l2
      · rcases relax_less F bx hm with q2 | ⟨c2, l2⟩
        · rw [q2]; exact .inr ⟨c1, l1⟩
        · refine .inr ⟨c2, ?_⟩
          unfold Less at *
          omega) es.length (Nat.le_refl _)
  refine ⟨key.1, ?_⟩
  rcases key.2 with ⟨e1, cl⟩ | r
  · left
    have e2 : pass es s = ⟨s.c, s.l, false⟩ := e1
    rw [e2]
    refine ⟨rfl, fun e he du hu => ?_, rfl⟩
    obtain ⟨j, hj⟩ := List.getElem?_of_mem he
    have hlt : j < es.length := (List.getElem?_eq_some_iff.mp hj).1
    exact cl j hlt e hj du hu
  · exact .inr r
theorem bf0_BI (F : Feas n st es g) : BI n st es g (bf0 n st) := by
  have hl : st < (List.replicate n (none : Option Int)).length := by rw [List.length_replicate]; exact F.sn
  have hgo : ∀ j, go (bf0 n st).c j = if j = st then some 0 else none := fun j => by
    show go ((List.replicate n none).set st (some 0)) j = _
    rw [go_set hl, go_rep]
  refine ⟨by simp [bf0], by simp [bf0], by rw [hgo, if_pos rfl], go_rep, fun j d h => ?_, ⟨fun _ => 0, 1, fun _ => Nat.zero_lt_one, fun v d hv h => ?_⟩⟩
  · rw [hgo] at h
    by_cases hj : j = st
    · rw [if_pos hj] at h
      cases h
      rw [hj, F.g0]
      exact Int.le_refl _
    · rw [if_neg hj] at h; cases h
  · rw [hgo, if_neg hv] at h; cases h
theorem bf_spec (F : Feas n st es g) : ∃ k r, LoopN (fun s : BF => s.ch) (pass es) k (bf0 n st) r ∧ BI n st es g r ∧ Closed es r.c := by
  have hI : ∀ a : BF, (BI n st es g a ∧ (a.ch = false → Closed es a.c)) → a.ch = true → (BI n st es g (pass es a) ∧ ((pass es a).ch = false → Closed es (pass es a).c)) ∧
      (m1 (pass es a) < m1 a ∨ (m1 (pass es a) = m1 a ∧ 2 * m2 g (pass es a) + (if (pass es a).ch = true then 1 else 0) < 2 * m2 g a + (if a.ch = true then 1 else 0))) := fun a ia hc => by
    obtain ⟨b, o⟩ := pass_spec F ia.1
    rcases o with ⟨c0, cl, e1⟩ | ⟨c1, l1⟩
    · refine ⟨⟨b, fun _ => cl⟩, ?_⟩
      have a1 : m1 (pass es a) = m1 a := by unfold m1; rw [e1]
      have a2 : m2 g (pass es a) = m2 g a := by unfold m2; rw [e1]
      rw [a1, a2, hc, c0]
      simp
    · refine ⟨⟨b, fun q => by rw [c1] at q; cases q⟩, ?_⟩
      rw [hc, c1]
      unfold Less at l1
      simp only [if_true]
      omega
  obtain ⟨k, r, l⟩ := LoopN.ex2 (c := fun s : BF => s.ch) (f := pass es) (I := fun s => BI n st es g s ∧ (s.ch = false → Closed es s.c)) m1 (fun s => 2 * m2 g s + (if s.ch = true then 1 else 0)) hI _ _ (bf0 n st) rfl rfl ⟨bf0_BI F, fun h => by cases h⟩
  obtain ⟨b, cl⟩ := l.keeps (I := fun s => BI n st es g s ∧ (s.ch = false → Closed es s.c)) (fun a ia hc => (hI a ia hc).1) ⟨bf0_BI F, fun h => by cases h⟩
  exact ⟨k, r, l, b, cl l.end_false⟩
end
end TL

/-! The mathematics: flows, misses, the search for best heights. Plain Lean. -/
namespace TL

theorem upto_foldl {α β : Type} (g : α → β → α) (d : β) (P : List β) (a : α) : ∀ k, k ≤ P.length → upto (fun i x => g x (P.getD i d)) a k = (P.take k).foldl g a
  | 0, _ => by simp [upto]
  | k + 1, h => by
    have hk : k < P.length := by omega
    rw [upto, upto_foldl g d P a k (by omega), List.take_add_one, List.foldl_append]
    simp [List.getD_eq_getElem?_getD, hk]
theorem upto_all {α β : Type} (g : α → β → α) (d : β) (P : List β) (a : α) : upto (fun i x => g x (P.getD i d)) a P.length = P.foldl g a := by
  rw [upto_foldl g d P a _ (Nat.le_refl _), List.take_length]
theorem mem_upto {α : Type} (L : Nat → List α) (x : α) : ∀ k, x ∈ upto (fun i acc => acc ++ L i) [] k ↔ ∃ i, i < k ∧ x ∈ L i
  | 0 => by simp [upto]
  | k + 1 => by
    rw [upto, List.mem_append, mem_upto L x k]
    constructor
    · rintro (⟨i, h, m⟩ | m)
      · exact ⟨i, by omega, m⟩
      · exact ⟨k, by omega, m⟩
    · rintro ⟨i, h, m⟩
      by_cases e : i = k
      · subst e; exact .inr m
      · exact .inl ⟨i, by omega, m⟩

structure Rd where
  a : Nat
  b : Nat
  v : Int
def dR : Rd := ⟨0, 0, 0⟩
structure Ok (n : Nat) (rs : List Rd) : Prop where
  a : ∀ r ∈ rs, r.a < n
  b : ∀ r ∈ rs, r.b < n
  ne : ∀ r ∈ rs, r.a ≠ r.b
abbrev rat (rs : List Rd) (i : Nat) : Rd := rs.getD i dR
theorem rat_mem {rs : List Rd} {i : Nat} (h : i < rs.length) : rat rs i ∈ rs := by
  simp only [rat, List.getD_eq_getElem?_getD, List.getElem?_eq_getElem h, Option.getD_some]
  exact List.getElem_mem h
theorem rat_get {rs : List Rd} {i : Nat} (h : i < rs.length) : rs[i]? = some (rat rs i) := by
  simp [rat, List.getD_eq_getElem?_getD, List.getElem?_eq_getElem h]
def miss (r : Rd) (h : List Int) : Int := r.v - gi h r.b + gi h r.a
def absI (n : Int) : Int := if n < 0 then -n else n
def costZ (rs : List Rd) (h : List Int) : Int := sumZ (fun i => absI (miss (rat rs i) h)) rs.length
def worth (rs : List Rd) (f : List Int) : Int := sumZ (fun i => gi f i * (rat rs i).v) rs.length

/-! ### excess -/
def exStep (x : List Int) (r : Rd) (f : Int) : List Int := (x.set r.a (gi x r.a - f)).set r.b (gi (x.set r.a (gi x r.a - f)) r.b + f)
def exTo (n : Nat) (rs : List Rd) (f : List Int) (k : Nat) : List Int := upto (fun i x => exStep x (rat rs i) (gi f i)) (List.replicate n 0) k
def excess (n : Nat) (rs : List Rd) (f : List Int) : List Int := exTo n rs f rs.length
theorem exTo_len (n : Nat) (rs : List Rd) (f : List Int) : ∀ k, (exTo n rs f k).length = n
  | 0 => by simp [exTo, upto]
  | k + 1 => by
    show (exStep (exTo n rs f k) (rat rs k) (gi f k)).length = n
    simp only [exStep, List.length_set]
    exact exTo_len n rs f k
theorem dot_set {φ : Nat → Int} {x : List Int} {n y : Nat} {d : Int} (hx : x.length = n) (hy : y < n) :
    sumZ (fun j => φ j * gi (x.set y (gi x y + d)) j) n = sumZ (fun j => φ j * gi x j) n + φ y * d := by
  have hy' : y < x.length := by omega
  have := sumZ_upd (F := fun j => φ j * gi x j) (G := fun j => φ j * gi (x.set y (gi x y + d)) j) hy (fun j hj => by
    show φ j * gi (x.set y (gi x y + d)) j = φ j * gi x j
    rw [gi_set hy', if_neg hj])
  have e : gi (x.set y (gi x y + d)) y = gi x y + d := by rw [gi_set hy', if_pos rfl]
  have e2 : φ y * (gi x y + d) = φ y * gi x y + φ y * d := Int.mul_add _ _ _
  simp only [e, e2] at this
  omega
theorem ex_dot {n : Nat} {rs : List Rd} (O : Ok n rs) (f : List Int) (φ : Nat → Int) : ∀ k, k ≤ rs.length →
    sumZ (fun j => φ j * gi (exTo n rs f k) j) n = sumZ (fun i => gi f i * (φ (rat rs i).b - φ (rat rs i).a)) k
  | 0, _ => by
    show _ = (0 : Int)
    refine sumZ_zero fun j hj => ?_
    show φ j * gi (List.replicate n 0) j = 0
    rw [gi_rep hj]
    exact Int.mul_zero _
  | k + 1, h => by
    have hm := rat_mem (rs := rs) (i := k) (by omega)
    have hl := exTo_len n rs f k
    rw [sumZ, ← ex_dot O f φ k (by omega)]
    show sumZ (fun j => φ j * gi (exStep (exTo n rs f k) (rat rs k) (gi f k)) j) n = _
    unfold exStep
    rw [dot_set (by rw [List.length_set]; exact hl) (O.b _ hm)]
    have e0 : gi (exTo n rs f k) (rat rs k).a - gi f k = gi (exTo n rs f k) (rat rs k).a + -gi f k := Int.sub_eq_add_neg
    rw [e0, dot_set hl (O.a _ hm)]
    generalize gi f k = F
    generalize φ (rat rs k).a = A
    generalize φ (rat rs k).b = B
    have : F * (B - A) = B * F + A * -F := by rw [Int.mul_sub, Int.mul_neg, Int.mul_comm F B, Int.mul_comm F A]; omega
    omega
theorem sumZ_single {x : Nat → Int} {j : Nat} : ∀ {n : Nat}, j < n → sumZ (fun i => (if i = j then 1 else 0) * x i) n = x j
  | 0, h => by omega
  | n + 1, h => by
    rw [sumZ]
    by_cases e : n = j
    · subst e
      rw [sumZ_zero fun i hi => by rw [if_neg (by omega), Int.zero_mul], if_pos rfl, Int.one_mul, Int.zero_add]
    · rw [sumZ_single (n := n) (by omega), if_neg e, Int.zero_mul, Int.add_zero]
def inc (r : Rd) (j : Nat) : Int := (if r.b = j then 1 else 0) - (if r.a = j then 1 else 0)
theorem ex_at {n : Nat} {rs : List Rd} (O : Ok n rs) (f : List Int) {j : Nat} (hj : j < n) : gi (excess n rs f) j = sumZ (fun i => gi f i * inc (rat rs i) j) rs.length := by
  have := ex_dot O f (fun i => if i = j then 1 else 0) rs.length (Nat.le_refl _)
  rw [sumZ_single (x := fun i => gi (exTo n rs f rs.length) i) hj] at this
  exact this
theorem ex_sum {n : Nat} {rs : List Rd} (O : Ok n rs) (f : List Int) : sumZ (fun j => gi (excess n rs f) j) n = 0 := by
  have := ex_dot O f (fun _ => 1) rs.length (Nat.le_refl _)
  rw [sumZ_congr (F := fun j => 1 * gi (exTo n rs f rs.length) j) (G := fun j => gi (excess n rs f) j) fun j _ => Int.one_mul _] at this
  rw [this]
  exact sumZ_zero fun i _ => by show gi f i * (1 - 1) = 0; exact Int.mul_zero _
theorem ex_set {n : Nat} {rs : List Rd} (O : Ok n rs) {f : List Int} {i j : Nat} {d : Int} (hf : f.length = rs.length) (hi : i < rs.length) (hj : j < n) :
    gi (excess n rs (f.set i (gi f i + d))) j = gi (excess n rs f) j + d * inc (rat rs i) j := by
  have hi' : i < f.length := by omega
  rw [ex_at O _ hj, ex_at O _ hj]
  have := sumZ_upd (F := fun k => gi f k * inc (rat rs k) j) (G := fun k => gi (f.set i (gi f i + d)) k * inc (rat rs k) j) hi (fun k hk => by
    show gi (f.set i (gi f i + d)) k * inc (rat rs k) j = gi f k * inc (rat rs k) j
    rw [gi_set hi', if_neg hk])
  have e : gi (f.set i (gi f i + d)) i = gi f i + d := by rw [gi_set hi', if_pos rfl]
  have e2 : (gi f i + d) * inc (rat rs i) j = gi f i * inc (rat rs i) j + d * inc (rat rs i) j := Int.add_mul _ _ _
  simp only [e, e2] at this
  omega

/-! ### duality -/
def FB (rs : List Rd) (f : List Int) : Prop := f.length = rs.length ∧ ∀ i, i < rs.length → -1 ≤ gi f i ∧ gi f i ≤ 1
def CS (rs : List Rd) (h f : List Int) : Prop := ∀ i, i < rs.length → (gi f i < 1 → miss (rat rs i) h ≤ 0) ∧ (-1 < gi f i → 0 ≤ miss (rat rs i) h)
def Even (n : Nat) (rs : List Rd) (f : List Int) : Prop := ∀ j, j < n → gi (excess n rs f) j = 0
theorem three {x : Int} (h : -1 ≤ x ∧ x ≤ 1) : x = -1 ∨ x = 0 ∨ x = 1 := by omega
theorem worth_eq {n : Nat} {rs : List Rd} (O : Ok n rs) {f : List Int} (E : Even n rs f) (h : List Int) : sumZ (fun i => gi f i * miss (rat rs i) h) rs.length = worth rs f := by
  have h0 := ex_dot O f (fun j => gi h j) rs.length (Nat.le_refl _)
  rw [sumZ_zero (F := fun j => gi h j * gi (exTo n rs f rs.length) j) fun j hj => by
    have : gi (exTo n rs f rs.length) j = 0 := E j hj
    rw [this, Int.mul_zero]] at h0
  have : sumZ (fun i => gi f i * miss (rat rs i) h) rs.length = sumZ (fun i => gi f i * (rat rs i).v - gi f i * (gi h (rat rs i).b - gi h (rat rs i).a)) rs.length :=
    sumZ_congr fun i _ => by
      show gi f i * miss (rat rs i) h = gi f i * (rat rs i).v - gi f i * (gi h (rat rs i).b - gi h (rat rs i).a)
      rw [← Int.mul_sub]
      congr 1
      unfold miss
      omega
  rw [this, sumZ_sub]
  unfold worth
  omega
theorem mul_abs {f m : Int} (h : -1 ≤ f ∧ f ≤ 1) : f * m ≤ absI m ∧ (f * m = absI m ↔ (f < 1 → m ≤ 0) ∧ (-1 < f → 0 ≤ m)) := by
  unfold absI
  rcases three h with e | e | e <;> subst e <;> split <;> omega
theorem cost_ge {n : Nat} {rs : List Rd} (O : Ok n rs) {f : List Int} (B : FB rs f) (E : Even n rs f) (h : List Int) : worth rs f ≤ costZ rs h := by
  rw [← worth_eq O E h]
  exact sumZ_le fun i hi => (mul_abs (B.2 i hi)).1
theorem cost_iff {n : Nat} {rs : List Rd} (O : Ok n rs) {f : List Int} (B : FB rs f) (E : Even n rs f) (h : List Int) : costZ rs h = worth rs f ↔ CS rs h f := by
  constructor
  · intro e i hi
    have := sumZ_tight (F := fun i => gi f i * miss (rat rs i) h) (G := fun i => absI (miss (rat rs i) h)) (fun i hi => (mul_abs (B.2 i hi)).1) (by rw [worth_eq O E h, ← e]; rfl) i hi
    exact (mul_abs (B.2 i hi)).2.mp this
  · intro c
    rw [← worth_eq O E h]
    exact sumZ_congr fun i hi => ((mul_abs (B.2 i hi)).2.mpr (c i hi)).symm

/-! ### the steps -/
def stepsAt (rs : List Rd) (h f : List Int) (i : Nat) : List Stp :=
  (if gi f i < 1 then [⟨(rat rs i).a, (rat rs i).b, -(miss (rat rs i) h), i, 1⟩] else []) ++ (if -1 < gi f i then [⟨(rat rs i).b, (rat rs i).a, miss (rat rs i) h, i, -1⟩] else [])
def stepsOf (rs : List Rd) (h f : List Int) : List Stp := upto (fun i acc => acc ++ stepsAt rs h f i) [] rs.length
theorem mem_steps {rs : List Rd} {h f : List Int} {e : Stp} : e ∈ stepsOf rs h f ↔ ∃ i, i < rs.length ∧ ((gi f i < 1 ∧ e = ⟨(rat rs i).a, (rat rs i).b, -(miss (rat rs i) h), i, 1⟩) ∨ (-1 < gi f i ∧ e = ⟨(rat rs i).b, (rat rs i).a, miss (rat rs i) h, i, -1⟩)) := by
  unfold stepsOf
  rw [mem_upto]
  refine exists_congr fun i => and_congr_right fun _ => ?_
  unfold stepsAt
  rw [List.mem_append]
  refine or_congr ?_ ?_
  · by_cases c : gi f i < 1 <;> simp [c]
  · by_cases c : -1 < gi f i <;> simp [c]
theorem steps_len (rs : List Rd) (h f : List Int) : ∀ k, (upto (fun i acc => acc ++ stepsAt rs h f i) [] k).length ≤ 2 * k
  | 0 => by simp [upto]
  | k + 1 => by
    have := steps_len rs h f k
    rw [upto, List.length_append]
    have : (stepsAt rs h f k).length ≤ 2 := by unfold stepsAt; split <;> split <;> simp
    omega
theorem steps_feas {n st : Nat} {rs : List Rd} (O : Ok n rs) {h f : List Int} (C : CS rs h f) (hs : st < n) : Feas n st (stepsOf rs h f) (fun _ => 0) := by
  refine ⟨hs, rfl, fun e he => ?_, fun e he => ?_, fun e he => ?_⟩ <;> obtain ⟨i, hi, o⟩ := mem_steps.mp he
  · rcases o with ⟨_, rfl⟩ | ⟨_, rfl⟩
    · exact O.a _ (rat_mem hi)
    · exact O.b _ (rat_mem hi)
  · rcases o with ⟨_, rfl⟩ | ⟨_, rfl⟩
    · exact O.b _ (rat_mem hi)
    · exact O.a _ (rat_mem hi)
  · rcases o with ⟨c, rfl⟩ | ⟨c, rfl⟩
    · have := (C i hi).1 c
      show (0 : Int) ≤ 0 + -(miss (rat rs i) h)
      omega
    · have := (C i hi).2 c
      show (0 : Int) ≤ 0 + miss (rat rs i) h
      omega
/-- what a step does to the excess -/
def eff (e : Stp) (j : Nat) : Int := (if e.to = j then 1 else 0) - (if e.fr = j then 1 else 0)
theorem step_eff {rs : List Rd} {h f : List Int} {e : Stp} (he : e ∈ stepsOf rs h f) (j : Nat) : (e.sg = 1 ∨ e.sg = -1) ∧ e.ix < rs.length ∧ e.sg * inc (rat rs e.ix) j = eff e j := by
  obtain ⟨i, hi, o⟩ := mem_steps.mp he
  rcases o with ⟨c, rfl⟩ | ⟨c, rfl⟩
  · refine ⟨.inl rfl, hi, ?_⟩
    show (1 : Int) * inc (rat rs i) j = _
    rw [Int.one_mul]
    rfl
  · refine ⟨.inr rfl, hi, ?_⟩
    show (-1 : Int) * inc (rat rs i) j = _
    unfold inc eff
    show (-1 : Int) * ((if (rat rs i).b = j then 1 else 0) - (if (rat rs i).a = j then 1 else 0)) = (if (rat rs i).a = j then 1 else 0) - (if (rat rs i).b = j then 1 else 0)
    omega

/-! ### the ends -/
def endsAt (ex : List Int) (c : List (Option Int)) (j : Nat) : List (Int × Nat) := if gi ex j < 0 then (match go c j with
  | some d => [(d, j)]
  | none => []) else []
def endsTo (ex : List Int) (c : List (Option Int)) (k : Nat) : List (Int × Nat) := upto (fun j acc => acc ++ endsAt ex c j) [] k
theorem mem_ends {ex : List Int} {c : List (Option Int)} {k : Nat} {p : Int × Nat} : p ∈ endsTo ex c k ↔ p.2 < k ∧ gi ex p.2 < 0 ∧ go c p.2 = some p.1 := by
  unfold endsTo
  rw [mem_upto]
  constructor
  · rintro ⟨j, hj, m⟩
    unfold endsAt at m
    by_cases q : gi ex j < 0
    · rw [if_pos q] at m
      cases g : go c j with
      | none => rw [g] at m; simp at m
      | some d =>
        rw [g] at m
        simp at m
        subst m
        exact ⟨hj, q, g⟩
    · rw [if_neg q] at m; simp at m
  · rintro ⟨h1, h2, h3⟩
    refine ⟨p.2, h1, ?_⟩
    unfold endsAt
    rw [if_pos h2, h3]
    simp
theorem ends_len (ex : List Int) (c : List (Option Int)) : ∀ k, (endsTo ex c k).length ≤ k
  | 0 => by simp [endsTo, upto]
  | k + 1 => by
    have := ends_len ex c k
    show (endsTo ex c k ++ endsAt ex c k).length ≤ k + 1
    rw [List.length_append]
    have : (endsAt ex c k).length ≤ 1 := by
      unfold endsAt
      split
      · split <;> simp
      · simp
    omega
def lexle (p q : Int × Nat) : Prop := p.1 < q.1 ∨ (p.1 = q.1 ∧ p.2 ≤ q.2)
instance (p q : Int × Nat) : Decidable (lexle p q) := by unfold lexle; infer_instance
theorem lexle_anti {p q : Int × Nat} (h : lexle p q) (h' : lexle q p) : p = q := by
  obtain ⟨a, b⟩ := p
  obtain ⟨c, d⟩ := q
  unfold lexle at h h'
  simp only at h h'
  have e1 : a = c := by omega
  have e2 : b = d := by omega
  rw [e1, e2]
def minE : List (Int × Nat) → Int × Nat
  | [] => (0, 0)
  | [p] => p
  | p :: q :: r => if lexle p (minE (q :: r)) then p else minE (q :: r)
theorem minE_ok : ∀ {l : List (Int × Nat)}, l ≠ [] → minE l ∈ l ∧ ∀ q ∈ l, lexle (minE l) q
  | [], h => absurd rfl h
  | [p], _ => ⟨by simp [minE], fun q hq => by
    have : q = p := by simpa using hq
    subst this
    exact .inr ⟨rfl, Nat.le_refl _⟩⟩
  | p :: q :: r, _ => by
    obtain ⟨i1, i2⟩ := minE_ok (l := q :: r) (by simp)
    unfold minE
    by_cases c : lexle p (minE (q :: r))
    · rw [if_pos c]
      refine ⟨List.mem_cons_self, fun z hz => ?_⟩
      rcases List.mem_cons.mp hz with e | hz
      · subst e; exact .inr ⟨rfl, Nat.le_refl _⟩
      · have := i2 z hz
        unfold lexle at *
        omega
    · rw [if_neg c]
      refine ⟨List.mem_cons_of_mem _ i1, fun z hz => ?_⟩
      rcases List.mem_cons.mp hz with e | hz
      · subst e
        unfold lexle at *
        omega
      · exact i2 z hz
theorem minE_uniq {l : List (Int × Nat)} {p : Int × Nat} (h : p ∈ l) (hp : ∀ q ∈ l, lexle p q) : p = minE l := by
  obtain ⟨i1, i2⟩ := minE_ok (l := l) (fun e => by rw [e] at h; simp at h)
  exact lexle_anti (hp _ i1) (i2 _ h)

/-! ### new heights, the path, the new flow -/
def cap (c : List (Option Int)) (most : Int) (j : Nat) : Int := match go c j with
  | none => most
  | some d => if most < d then most else d
def newHTo (c : List (Option Int)) (most : Int) (h : List Int) (k : Nat) : List Int := upto (fun j h => h.set j (gi h j - cap c most j)) h k
theorem newH_ok (c : List (Option Int)) (most : Int) (h : List Int) : ∀ k, k ≤ h.length → (newHTo c most h k).length = h.length ∧ ∀ j, gi (newHTo c most h k) j = if j < k then gi h j - cap c most j else gi h j
  | 0, _ => ⟨rfl, fun j => by rw [if_neg (by omega)]; rfl⟩
  | k + 1, hk => by
    obtain ⟨l, i⟩ := newH_ok c most h k (by omega)
    have e : newHTo c most h (k + 1) = (newHTo c most h k).set k (gi (newHTo c most h k) k - cap c most k) := rfl
    rw [e]
    refine ⟨by rw [List.length_set, l], fun j => ?_⟩
    rw [gi_set (by omega)]
    by_cases q : j = k
    · subst q
      rw [if_pos rfl, if_pos (by omega), i, if_neg (by omega)]
    · rw [if_neg q, i]
      by_cases q2 : j < k
      · rw [if_pos q2, if_pos (by omega)]
      · rw [if_neg q2, if_neg (by omega)]
structure PW where
  u : Nat
  path : List Stp
  many : Int
def minI (a b : Int) : Int := if b < a then b else a
def pcond (st : Nat) (s : PW) : Bool := decide (s.u ≠ st)
def pstep (l : List (Option Stp)) (f : List Int) (s : PW) : PW :=
  ⟨((go l s.u).getD dS).fr, s.path ++ [(go l s.u).getD dS], minI s.many (1 - ((go l s.u).getD dS).sg * gi f ((go l s.u).getD dS).ix)⟩
def addF (many : Int) (f : List Int) (e : Stp) : List Int := f.set e.ix (gi f e.ix + e.sg * many)
def newF (f : List Int) (P : List Stp) (many : Int) : List Int := P.foldl (addF many) f
/-- what holds on the way back from the end -/
structure PI (n st : Nat) (rs : List Rd) (h f : List Int) (c : List (Option Int)) (t : Nat → Nat) (mark : Nat) (most : Int) (ex : List Int) (s : PW) : Prop where
  un : s.u < n
  cu : ∃ d, go c s.u = some d ∧ d ≤ most
  sm : ∀ e ∈ s.path, e ∈ stepsOf rs h f
  ti : ∀ e ∈ s.path, t e.fr < t e.to ∧ t s.u ≤ t e.fr
  pw : s.path.Pairwise fun e e' => t e'.to ≤ t e.fr
  ze : ∀ e ∈ s.path, ∃ dt du, go c e.to = some dt ∧ go c e.fr = some du ∧ dt = du + e.w ∧ dt ≤ most ∧ du ≤ most
  ef : ∀ j, (s.path.map fun e => eff e j).sum = (if mark = j then 1 else 0) - (if s.u = j then 1 else 0)
  m1 : 1 ≤ s.many
  m2 : s.many ≤ gi ex st
  m3 : s.many ≤ -gi ex mark
  m4 : ∀ e ∈ s.path, s.many ≤ 1 - e.sg * gi f e.ix
def rank (n : Nat) (t : Nat → Nat) (v : Nat) : Nat := sumN (fun j => if t j < t v then 1 else 0) n
theorem sumN_le {F G : Nat → Nat} : ∀ {n : Nat}, (∀ j, j < n → F j ≤ G j) → sumN F n ≤ sumN G n
  | 0, _ => Nat.le_refl _
  | n + 1, h => by
    rw [sumN, sumN]
    have := sumN_le (F := F) (G := G) (n := n) fun j hj => h j (by omega)
    have := h n (by omega)
    omega
theorem sumN_lt {F G : Nat → Nat} {y : Nat} : ∀ {n : Nat}, y < n → F y < G y → (∀ j, j < n → F j ≤ G j) → sumN F n < sumN G n
  | 0, h, _, _ => by omega
  | n + 1, hy, hlt, h => by
    rw [sumN, sumN]
    by_cases e : y = n
    · subst e
      have := sumN_le (F := F) (G := G) (n := y) fun j hj => h j (by omega)
      omega
    · have := sumN_lt (F := F) (G := G) (n := n) (y := y) (by omega) hlt fun j hj => h j (by omega)
      have := h n (by omega)
      omega
theorem rank_le (n : Nat) (t : Nat → Nat) (v : Nat) : rank n t v ≤ n := by
  have : ∀ k, sumN (fun j => if t j < t v then 1 else 0) k ≤ k := fun k => by
    induction k with
    | zero => exact Nat.le_refl _
    | succ k ih => rw [sumN]; split <;> omega
  exact this n
theorem rank_lt {n : Nat} {t : Nat → Nat} {u v : Nat} (hu : u < n) (h : t u < t v) : rank n t u < rank n t v := by
  refine sumN_lt hu ?_ fun j _ => ?_
  · rw [if_neg (by omega), if_pos h]; omega
  · by_cases q : t j < t u
    · rw [if_pos q, if_pos (by omega)]; exact Nat.le_refl _
    · rw [if_neg q]; omega
end TL

/-! The mathematics: one push, and the run. Plain Lean. -/
namespace TL

structure SI (n : Nat) (rs : List Rd) (s : List Int × List Int) : Prop where
  lh : s.1.length = n
  fb : FB rs s.2
  cs : CS rs s.1 s.2
noncomputable def shortest (n st : Nat) (rs : List Rd) (s : List Int × List Int) : BF := whileL (fun b : BF => b.ch) (pass (stepsOf rs s.1 s.2)) (bf0 n st)
def pw0 (st : Nat) (ex : List Int) (mark : Nat) : PW := ⟨mark, [], minI (gi ex st) (-gi ex mark)⟩
noncomputable def pathOf (n st : Nat) (rs : List Rd) (s : List Int × List Int) (ex : List Int) : PW :=
  whileL (pcond st) (pstep (shortest n st rs s).l s.2) (pw0 st ex (minE (endsTo ex (shortest n st rs s).c n)).2)
noncomputable def push (n st : Nat) (rs : List Rd) (ex : List Int) (s : List Int × List Int) : List Int × List Int :=
  (newHTo (shortest n st rs s).c (minE (endsTo ex (shortest n st rs s).c n)).1 s.1 n, newF s.2 (pathOf n st rs s ex).path (pathOf n st rs s ex).many)

section
variable {n st : Nat} {rs : List Rd} {s : List Int × List Int}
theorem shortest_ok (O : Ok n rs) (S : SI n rs s) (hs : st < n) : ∃ k, LoopN (fun b : BF => b.ch) (pass (stepsOf rs s.1 s.2)) k (bf0 n st) (shortest n st rs s) ∧ BI n st (stepsOf rs s.1 s.2) (fun _ => 0) (shortest n st rs s) ∧ Closed (stepsOf rs s.1 s.2) (shortest n st rs s).c := by
  obtain ⟨k, r, l, b, c⟩ := bf_spec (steps_feas (h := s.1) (f := s.2) O S.cs hs)
  have e : shortest n st rs s = r := whileL_eq l
  exact ⟨k, by rw [e]; exact l, by rw [e]; exact b, by rw [e]; exact c⟩
/-- some end is reached -/
theorem ends_ne (O : Ok n rs) (S : SI n rs s) (hs : st < n) (hp : 0 < gi (excess n rs s.2) st) : endsTo (excess n rs s.2) (shortest n st rs s).c n ≠ [] := by
  obtain ⟨k, l, B, C⟩ := shortest_ok O S hs
  generalize shortest n st rs s = b at *
  intro q
  have none_ : ∀ j, j < n → go b.c j ≠ none → 0 ≤ gi (excess n rs s.2) j := fun j hj hc => by
    cases g : go b.c j with
    | none => exact absurd g hc
    | some d =>
      by_cases q2 : gi (excess n rs s.2) j < 0
      · have : (d, j) ∈ endsTo (excess n rs s.2) b.c n := mem_ends.mpr ⟨hj, q2, g⟩
        rw [q] at this
        simp at this
      · omega
  have dt := ex_dot O s.2 (fun j => if go b.c j = none then 0 else 1) rs.length (Nat.le_refl _)
  have le : sumZ (fun i => gi s.2 i * ((if go b.c (rat rs i).b = none then 0 else 1) - (if go b.c (rat rs i).a = none then 0 else 1))) rs.length ≤ sumZ (fun _ => 0) rs.length := by
    refine sumZ_le fun i hi => ?_
    show gi s.2 i * ((if go b.c (rat rs i).b = none then 0 else 1) - (if go b.c (rat rs i).a = none then 0 else 1)) ≤ 0
    have bb := S.fb.2 i hi
    cases ga : go b.c (rat rs i).a with
    | none =>
      cases gb : go b.c (rat rs i).b with
      | none => simp
      | some d =>
        have : ¬ -1 < gi s.2 i := fun c => by
          obtain ⟨dv, h1, _⟩ := C ⟨(rat rs i).b, (rat rs i).a, miss (rat rs i) s.1, i, -1⟩ (mem_steps.mpr ⟨i, hi, .inr ⟨c, rfl⟩⟩) d gb
          have h1 : go b.c (rat rs i).a = some dv := h1
          rw [ga] at h1
          cases h1
        simp
        omega
    | some d =>
      cases gb : go b.c (rat rs i).b with
      | none =>
        have : ¬ gi s.2 i < 1 := fun c => by
          obtain ⟨dv, h1, _⟩ := C ⟨(rat rs i).a, (rat rs i).b, -(miss (rat rs i) s.1), i, 1⟩ (mem_steps.mpr ⟨i, hi, .inl ⟨c, rfl⟩⟩) d ga
          have h1 : go b.c (rat rs i).b = some dv := h1
          rw [gb] at h1
          cases h1
        simp
        omega
      | some d' => simp
  rw [← dt, sumZ_zero (F := fun _ => 0) fun _ _ => rfl] at le
  have ge : sumZ (fun j => (if j = st then 1 else 0) * gi (excess n rs s.2) j) n ≤ sumZ (fun j => (if go b.c j = none then 0 else 1) * gi (exTo n rs s.2 rs.length) j) n := by
    refine sumZ_le fun j hj => ?_
    show (if j = st then 1 else 0) * gi (excess n rs s.2) j ≤ (if go b.c j = none then 0 else 1) * gi (excess n rs s.2) j
    cases g : go b.c j with
    | none =>
      have : j ≠ st := fun e => by rw [e, B.c0] at g; cases g
      simp [this]
    | some d =>
      have := none_ j hj (by rw [g]; exact fun z => by cases z)
      by_cases e : j = st
      · simp [e]
      · simp [e]; exact this
  rw [sumZ_single (x := fun j => gi (excess n rs s.2) j) hs] at ge
  omega
/-- the end that is taken -/
theorem end_ok (O : Ok n rs) (S : SI n rs s) (hs : st < n) (hp : 0 < gi (excess n rs s.2) st) :
    (minE (endsTo (excess n rs s.2) (shortest n st rs s).c n)).2 < n ∧ gi (excess n rs s.2) (minE (endsTo (excess n rs s.2) (shortest n st rs s).c n)).2 < 0 ∧
      go (shortest n st rs s).c (minE (endsTo (excess n rs s.2) (shortest n st rs s).c n)).2 = some (minE (endsTo (excess n rs s.2) (shortest n st rs s).c n)).1 :=
  mem_ends.mp (minE_ok (ends_ne O S hs hp)).1
theorem sum_append1 (l : List Stp) (e : Stp) (j : Nat) : ((l ++ [e]).map fun e => eff e j).sum = (l.map fun e => eff e j).sum + eff e j := by
  rw [List.map_append, List.sum_append]
  simp
/-- one step of the way back -/
theorem PI.next {h f ex : List Int} {b : BF} {t : Nat → Nat} {mark : Nat} {most : Int} (O : Ok n rs) (C : CS rs h f) (Fb : FB rs f) (hs : st < n) (B : BI n st (stepsOf rs h f) (fun _ => 0) b) (Cl : Closed (stepsOf rs h f) b.c)
    (tr : ∀ v d, v ≠ st → go b.c v = some d → Tight (stepsOf rs h f) b t v d) {p : PW} (I : PI n st rs h f b.c t mark most ex p) (hc : pcond st p = true) :
    ∃ e, go b.l p.u = some e ∧ e ∈ stepsOf rs h f ∧ PI n st rs h f b.c t mark most ex (pstep b.l f p) ∧ rank n t (pstep b.l f p).u < rank n t p.u := by
  have hne : p.u ≠ st := of_decide_eq_true hc
  obtain ⟨d, hd, hm⟩ := I.cu
  obtain ⟨e, he, hl, hto, du, hu, h1, h2⟩ := tr _ _ hne hd
  have F := steps_feas (st := st) O C hs
  obtain ⟨dv, hv, h3⟩ := Cl e he du hu
  rw [hto, hd] at hv
  cases hv
  have eq : du + e.w = d := by omega
  have tl := h2 eq
  have hw : 0 ≤ e.w := by have := F.le e he; simp at this; exact this
  refine ⟨e, hl, he, ?_, ?_⟩
  · have ps : pstep b.l f p = ⟨e.fr, p.path ++ [e], minI p.many (1 - e.sg * gi f e.ix)⟩ := by unfold pstep; rw [hl]; rfl
    rw [ps]
    have le1 : minI p.many (1 - e.sg * gi f e.ix) ≤ p.many := by unfold minI; split <;> omega
    have le2 : minI p.many (1 - e.sg * gi f e.ix) ≤ 1 - e.sg * gi f e.ix := by unfold minI; split <;> omega
    refine ⟨F.fr e he, ⟨du, hu, by omega⟩, ?_, ?_, ?_, ?_, ?_, ?_, by have := I.m2; show _ ≤ _; simp only at *; omega, by have := I.m3; simp only at *; omega, ?_⟩
    · intro e' hm'
      rcases List.mem_append.mp hm' with q | q
      · exact I.sm e' q
      · rw [List.mem_singleton.mp q]; exact he
    · intro e' hm'
      show t e'.fr < t e'.to ∧ t e.fr ≤ t e'.fr
      rcases List.mem_append.mp hm' with q | q
      · have := I.ti e' q
        omega
      · rw [List.mem_singleton.mp q, hto]
        omega
    · show List.Pairwise _ (p.path ++ [e])
      rw [List.pairwise_append]
      refine ⟨I.pw, List.pairwise_singleton _ _, fun x hx y hy => ?_⟩
      rw [List.mem_singleton.mp hy, hto]
      exact (I.ti x hx).2
    · intro e' hm'
      rcases List.mem_append.mp hm' with q | q
      · exact I.ze e' q
      · rw [List.mem_singleton.mp q]
        exact ⟨d, du, by rw [hto]; exact hd, hu, by omega, hm, by omega⟩
    · intro j
      show ((p.path ++ [e]).map fun e => eff e j).sum = (if mark = j then 1 else 0) - (if e.fr = j then 1 else 0)
      rw [sum_append1, I.ef j]
      unfold eff
      rw [hto]
      omega
    · show 1 ≤ minI p.many (1 - e.sg * gi f e.ix)
      have i1 := I.m1
      have : 1 ≤ 1 - e.sg * gi f e.ix := by
        obtain ⟨i, hi, o⟩ := mem_steps.mp he
        have bb := Fb.2 i hi
        rcases o with ⟨c, rfl⟩ | ⟨c, rfl⟩
        · show 1 ≤ 1 - 1 * gi f i
          omega
        · show 1 ≤ 1 - -1 * gi f i
          omega
      unfold minI
      split <;> omega
    · intro e' hm'
      show minI p.many (1 - e.sg * gi f e.ix) ≤ 1 - e'.sg * gi f e'.ix
      rcases List.mem_append.mp hm' with q | q
      · have := I.m4 e' q
        omega
      · rw [List.mem_singleton.mp q]
        exact le2
  · have : (pstep b.l f p).u = e.fr := by unfold pstep; rw [hl]; rfl
    rw [this]
    exact rank_lt (F.fr e he) (by rw [← hto]; rw [hto]; exact tl)

/-! ### the new flow -/
theorem newF_len {many : Int} : ∀ (P : List Stp) (f : List Int), (newF f P many).length = f.length
  | [], _ => rfl
  | e :: P, f => by
    show (newF (addF many f e) P many).length = f.length
    rw [newF_len P]
    unfold addF
    rw [List.length_set]
theorem newF_other {many : Int} {i : Nat} : ∀ (P : List Stp) (f : List Int), (∀ e ∈ P, e.ix ≠ i ∧ e.ix < f.length) → gi (newF f P many) i = gi f i
  | [], _, _ => rfl
  | e :: P, f, h => by
    show gi (newF (addF many f e) P many) i = gi f i
    obtain ⟨h1, h2⟩ := h e List.mem_cons_self
    have : (addF many f e).length = f.length := by unfold addF; rw [List.length_set]
    rw [newF_other P _ fun e' q => by rw [this]; exact h e' (List.mem_cons_of_mem _ q)]
    unfold addF
    rw [gi_set h2, if_neg (Ne.symm h1)]
theorem newF_at {many : Int} {e : Stp} : ∀ (P : List Stp) (f : List Int), e ∈ P → (∀ e ∈ P, e.ix < f.length) → P.Pairwise (fun e e' => e.ix ≠ e'.ix) → gi (newF f P many) e.ix = gi f e.ix + e.sg * many
  | [], _, h, _, _ => by simp at h
  | x :: P, f, h, hl, pw => by
    show gi (newF (addF many f x) P many) e.ix = gi f e.ix + e.sg * many
    obtain ⟨p1, p2⟩ := List.pairwise_cons.mp pw
    have len : (addF many f x).length = f.length := by unfold addF; rw [List.length_set]
    have hx := hl x List.mem_cons_self
    rcases List.mem_cons.mp h with q | q
    · subst q
      rw [newF_other P _ fun e' q => ⟨Ne.symm (p1 e' q), by rw [len]; exact hl e' (List.mem_cons_of_mem _ q)⟩]
      unfold addF
      rw [gi_set hx, if_pos rfl]
    · rw [newF_at P _ q (fun e' q => by rw [len]; exact hl e' (List.mem_cons_of_mem _ q)) p2]
      have : gi (addF many f x) e.ix = gi f e.ix := by
        unfold addF
        rw [gi_set hx, if_neg (Ne.symm (p1 e q))]
      rw [this]
theorem newF_ex {h f0 : List Int} {many : Int} (O : Ok n rs) {j : Nat} (hj : j < n) : ∀ (P : List Stp) (f : List Int), f.length = rs.length → (∀ e ∈ P, e ∈ stepsOf rs h f0) →
    gi (excess n rs (newF f P many)) j = gi (excess n rs f) j + many * (P.map fun e => eff e j).sum
  | [], f, _, _ => by simp [newF]
  | e :: P, f, hf, hm => by
    show gi (excess n rs (newF (addF many f e) P many)) j = _
    obtain ⟨s1, s2, s3⟩ := step_eff (hm e List.mem_cons_self) j
    rw [newF_ex O hj P _ (by unfold addF; rw [List.length_set]; exact hf) fun e' q => hm e' (List.mem_cons_of_mem _ q)]
    have : gi (excess n rs (addF many f e)) j = gi (excess n rs f) j + (e.sg * many) * inc (rat rs e.ix) j := ex_set O hf s2 hj
    rw [this, List.map_cons, List.sum_cons, Int.mul_add, ← s3]
    have : e.sg * many * inc (rat rs e.ix) j = many * (e.sg * inc (rat rs e.ix) j) := by rw [Int.mul_comm e.sg many, Int.mul_assoc]
    rw [this]
    omega
theorem path_apart {h f ex : List Int} {c : List (Option Int)} {t : Nat → Nat} {mark : Nat} {most : Int} {p : PW} (I : PI n st rs h f c t mark most ex p) : p.path.Pairwise fun e e' => e.ix ≠ e'.ix := by
  refine List.Pairwise.imp_of_mem ?_ I.pw
  intro e e' he he' hle q
  obtain ⟨t1, _⟩ := I.ti e he
  obtain ⟨t2, _⟩ := I.ti e' he'
  obtain ⟨i, hi, o⟩ := mem_steps.mp (I.sm e he)
  obtain ⟨i', hi', o'⟩ := mem_steps.mp (I.sm e' he')
  rcases o with ⟨_, rfl⟩ | ⟨_, rfl⟩ <;> rcases o' with ⟨_, rfl⟩ | ⟨_, rfl⟩ <;> (simp only at q t1 t2 hle; subst q; omega)
theorem path_ok (O : Ok n rs) (S : SI n rs s) (hs : st < n) (hp : 0 < gi (excess n rs s.2) st) :
    ∃ J : PW → Prop, J (pw0 st (excess n rs s.2) (minE (endsTo (excess n rs s.2) (shortest n st rs s).c n)).2) ∧
      (∀ p, J p → p.u < n ∧ p.path.length ≤ n ∧ ∀ e ∈ p.path, e ∈ stepsOf rs s.1 s.2) ∧
      (∀ p, J p → pcond st p = true → (∃ e, go (shortest n st rs s).l p.u = some e ∧ e ∈ stepsOf rs s.1 s.2) ∧ J (pstep (shortest n st rs s).l s.2 p)) ∧
      (∃ k, LoopN (pcond st) (pstep (shortest n st rs s).l s.2) k (pw0 st (excess n rs s.2) (minE (endsTo (excess n rs s.2) (shortest n st rs s).c n)).2) (pathOf n st rs s (excess n rs s.2))) ∧
      (pathOf n st rs s (excess n rs s.2)).u = st ∧
      ∃ t, PI n st rs s.1 s.2 (shortest n st rs s).c t (minE (endsTo (excess n rs s.2) (shortest n st rs s).c n)).2 (minE (endsTo (excess n rs s.2) (shortest n st rs s).c n)).1 (excess n rs s.2) (pathOf n st rs s (excess n rs s.2)) := by
  obtain ⟨e1, e2, e3⟩ := end_ok O S hs hp
  obtain ⟨_, _, B, Cl⟩ := shortest_ok O S hs
  unfold pathOf
  generalize minE (endsTo (excess n rs s.2) (shortest n st rs s).c n) = p0 at *
  generalize shortest n st rs s = b at *
  obtain ⟨t, T, hT, tr⟩ := B.tr
  have hJ : ∀ p, (PI n st rs s.1 s.2 b.c t p0.2 p0.1 (excess n rs s.2) p ∧ p.path.length + rank n t p.u ≤ n) → pcond st p = true →
      (∃ e, go b.l p.u = some e ∧ e ∈ stepsOf rs s.1 s.2) ∧ (PI n st rs s.1 s.2 b.c t p0.2 p0.1 (excess n rs s.2) (pstep b.l s.2 p) ∧ (pstep b.l s.2 p).path.length + rank n t (pstep b.l s.2 p).u ≤ n) ∧ rank n t (pstep b.l s.2 p).u < rank n t p.u := by
    rintro p ⟨I, hl⟩ hc
    obtain ⟨e, g1, g2, I2, r⟩ := I.next O S.cs S.fb hs B Cl tr hc
    refine ⟨⟨e, g1, g2⟩, ⟨I2, ?_⟩, r⟩
    have : (pstep b.l s.2 p).path.length = p.path.length + 1 := by unfold pstep; rw [List.length_append]; rfl
    omega
  have j0 : PI n st rs s.1 s.2 b.c t p0.2 p0.1 (excess n rs s.2) (pw0 st (excess n rs s.2) p0.2) ∧ (pw0 st (excess n rs s.2) p0.2).path.length + rank n t (pw0 st (excess n rs s.2) p0.2).u ≤ n := by
    refine ⟨⟨e1, ⟨_, e3, Int.le_refl _⟩, fun e h => (by cases h), fun e h => (by cases h), List.Pairwise.nil, fun e h => (by cases h), fun j => ?_, ?_, ?_, ?_, fun e h => (by cases h)⟩, ?_⟩
    · show (0 : Int) = (if p0.2 = j then 1 else 0) - (if p0.2 = j then 1 else 0)
      omega
    · show 1 ≤ minI _ _
      unfold minI
      split <;> omega
    · show minI _ _ ≤ _
      unfold minI
      split <;> omega
    · show minI _ _ ≤ _
      unfold minI
      split <;> omega
    · have := rank_le n t p0.2
      show 0 + rank n t p0.2 ≤ n
      omega
  obtain ⟨k, r, l⟩ := LoopN.ex1 (c := pcond st) (f := pstep b.l s.2) (I := fun p => PI n st rs s.1 s.2 b.c t p0.2 p0.1 (excess n rs s.2) p ∧ p.path.length + rank n t p.u ≤ n) (fun p => rank n t p.u)
    (fun p ip hc => ⟨(hJ p ip hc).2.1, (hJ p ip hc).2.2⟩) _ j0
  have er : whileL (pcond st) (pstep b.l s.2) (pw0 st (excess n rs s.2) p0.2) = r := whileL_eq l
  rw [er]
  have ir := l.keeps (I := fun p => PI n st rs s.1 s.2 b.c t p0.2 p0.1 (excess n rs s.2) p ∧ p.path.length + rank n t p.u ≤ n) (fun p ip hc => (hJ p ip hc).2.1) j0
  refine ⟨_, j0, fun p ip => ⟨ip.1.un, by omega, ip.1.sm⟩, fun p ip hc => ⟨(hJ p ip hc).1, (hJ p ip hc).2.1⟩, ⟨k, l⟩, ?_, t, ir.1⟩
  have := l.end_false
  unfold pcond at this
  have := of_decide_eq_false this
  omega
def posSum (n : Nat) (x : List Int) : Nat := sumN (fun j => (gi x j).toNat) n
/-- a push keeps what holds and lowers the excess -/
theorem push_ok (O : Ok n rs) (S : SI n rs s) (hs : st < n) (hp : 0 < gi (excess n rs s.2) st) :
    SI n rs (push n st rs (excess n rs s.2) s) ∧ posSum n (excess n rs (push n st rs (excess n rs s.2) s).2) < posSum n (excess n rs s.2) := by
  obtain ⟨J, _, _, _, _, hu, t, I⟩ := path_ok O S hs hp
  obtain ⟨e1, e2, e3⟩ := end_ok O S hs hp
  obtain ⟨_, _, B, Cl⟩ := shortest_ok O S hs
  unfold push
  generalize pathOf n st rs s (excess n rs s.2) = p at *
  generalize minE (endsTo (excess n rs s.2) (shortest n st rs s).c n) = p0 at *
  generalize shortest n st rs s = b at *
  have F := steps_feas (st := st) O S.cs hs
  obtain ⟨hl, hg⟩ := newH_ok b.c p0.1 s.1 n (by rw [S.lh]; exact Nat.le_refl _)
  have six : ∀ e ∈ p.path, e.ix < s.2.length := fun e he => by
    rw [S.fb.1]
    exact (step_eff (I.sm e he) 0).2.1
  have most0 : 0 ≤ p0.1 := B.ge _ _ e3
  -- a reading's new miss
  have miss' : ∀ i, i < rs.length → miss (rat rs i) (newHTo b.c p0.1 s.1 n) = miss (rat rs i) s.1 + cap b.c p0.1 (rat rs i).b - cap b.c p0.1 (rat rs i).a := fun i hi => by
    unfold miss
    rw [hg, hg, if_pos (O.b _ (rat_mem hi)), if_pos (O.a _ (rat_mem hi))]
    omega
  have capStep : ∀ e ∈ stepsOf rs s.1 s.2, cap b.c p0.1 e.to ≤ cap b.c p0.1 e.fr + e.w := fun e he => by
    have hw : 0 ≤ e.w := by have := F.le e he; simp at this; exact this
    unfold cap
    cases h1 : go b.c e.fr with
    | none =>
      cases h2 : go b.c e.to with
      | none => simp only; omega
      | some d => simp only; split <;> omega
    | some d =>
      obtain ⟨dv, h2, h3⟩ := Cl e he d h1
      rw [h2]
      simp only
      split <;> split <;> omega
  refine ⟨⟨hl.trans S.lh, ⟨by rw [newF_len]; exact S.fb.1, fun i hi => ?_⟩, fun i hi => ?_⟩, ?_⟩
  · by_cases hq : ∃ e ∈ p.path, e.ix = i
    · obtain ⟨e, he, rfl⟩ := hq
      show -1 ≤ gi (newF s.2 p.path p.many) e.ix ∧ gi (newF s.2 p.path p.many) e.ix ≤ 1
      rw [newF_at p.path s.2 he six (path_apart I)]
      have b1 := S.fb.2 e.ix hi
      have b2 := I.m4 e he
      have b3 := I.m1
      rcases (step_eff (I.sm e he) 0).1 with q | q <;> rw [q] at b2 ⊢ <;> omega
    · show -1 ≤ gi (newF s.2 p.path p.many) i ∧ gi (newF s.2 p.path p.many) i ≤ 1
      rw [newF_other p.path s.2 fun e he => ⟨fun q => hq ⟨e, he, q⟩, six e he⟩]
      exact S.fb.2 i hi
  · show (gi (newF s.2 p.path p.many) i < 1 → miss (rat rs i) (newHTo b.c p0.1 s.1 n) ≤ 0) ∧ (-1 < gi (newF s.2 p.path p.many) i → 0 ≤ miss (rat rs i) (newHTo b.c p0.1 s.1 n))
    rw [miss' i hi]
    by_cases hq : ∃ e ∈ p.path, e.ix = i
    · obtain ⟨e, he, rfl⟩ := hq
      have z : miss (rat rs e.ix) s.1 + cap b.c p0.1 (rat rs e.ix).b - cap b.c p0.1 (rat rs e.ix).a = 0 := by
        obtain ⟨dt, du, z1, z2, z3, z4, z5⟩ := I.ze e he
        have c1 : cap b.c p0.1 e.to = dt := by unfold cap; rw [z1]; simp only; split <;> omega
        have c2 : cap b.c p0.1 e.fr = du := by unfold cap; rw [z2]; simp only; split <;> omega
        obtain ⟨i, hi', o⟩ := mem_steps.mp (I.sm e he)
        rcases o with ⟨_, rfl⟩ | ⟨_, rfl⟩
        · simp only at c1 c2 z3 ⊢
          rw [c1, c2]
          omega
        · simp only at c1 c2 z3 ⊢
          rw [c1, c2]
          omega
      rw [z]
      omega
    · rw [newF_other p.path s.2 fun e he => ⟨fun q => hq ⟨e, he, q⟩, six e he⟩]
      constructor
      · intro c
        have := capStep _ (mem_steps.mpr ⟨i, hi, .inl ⟨c, rfl⟩⟩)
        simp only at this
        omega
      · intro c
        have := capStep _ (mem_steps.mpr ⟨i, hi, .inr ⟨c, rfl⟩⟩)
        simp only at this
        omega
  · show posSum n (excess n rs (newF s.2 p.path p.many)) < posSum n (excess n rs s.2)
    have exn : ∀ j, j < n → gi (excess n rs (newF s.2 p.path p.many)) j = gi (excess n rs s.2) j + p.many * ((if p0.2 = j then 1 else 0) - (if st = j then 1 else 0)) := fun j hj => by
      rw [newF_ex O hj p.path s.2 S.fb.1 I.sm, I.ef j, hu]
    have b1 := I.m1
    have b2 := I.m2
    have b3 := I.m3
    refine sumN_lt hs ?_ fun j hj => ?_
    · rw [exn st hs, if_pos rfl, if_neg (by intro q; rw [q] at e2; omega)]
      omega
    · rw [exn j hj]
      by_cases q1 : p0.2 = j
      · rw [if_pos q1]
        subst q1
        by_cases q2 : st = p0.2
        · rw [if_pos q2]; omega
        · rw [if_neg q2]; omega
      · rw [if_neg q1]
        by_cases q2 : st = j
        · rw [if_pos q2]; omega
        · rw [if_neg q2]; omega

/-! ### the run -/
def mxI : List Int → Int
  | [] => 0
  | [x] => x
  | x :: y :: r => if mxI (y :: r) ≤ x then x else mxI (y :: r)
theorem mxI_ok : ∀ {l : List Int}, l ≠ [] → mxI l ∈ l ∧ ∀ q ∈ l, q ≤ mxI l
  | [], h => absurd rfl h
  | [x], _ => ⟨by simp [mxI], fun q hq => by
    have : q = x := by simpa using hq
    subst this
    exact Int.le_refl _⟩
  | x :: y :: r, _ => by
    obtain ⟨i1, i2⟩ := mxI_ok (l := y :: r) (by simp)
    unfold mxI
    by_cases c : mxI (y :: r) ≤ x
    · rw [if_pos c]
      refine ⟨List.mem_cons_self, fun z hz => ?_⟩
      rcases List.mem_cons.mp hz with e | hz
      · omega
      · have := i2 z hz
        omega
    · rw [if_neg c]
      refine ⟨List.mem_cons_of_mem _ i1, fun z hz => ?_⟩
      rcases List.mem_cons.mp hz with e | hz
      · omega
      · exact i2 z hz
theorem mxI_uniq {l : List Int} {m : Int} (h : m ∈ l) (hm : ∀ q ∈ l, q ≤ m) : m = mxI l := by
  obtain ⟨i1, i2⟩ := mxI_ok (l := l) (fun e => by rw [e] at h; simp at h)
  have := hm _ i1
  have := i2 _ h
  omega
def runC (n : Nat) (rs : List Rd) (s : List Int × List Int) : Bool := decide (0 < mxI (excess n rs s.2))
def argE (x : List Int) : Nat := x.idxOf (mxI x)
noncomputable def runF (n : Nat) (rs : List Rd) (s : List Int × List Int) : List Int × List Int := push n (argE (excess n rs s.2)) rs (excess n rs s.2) s
def sgn (n : Int) : Int := (if 0 < n then 1 else 0) - (if n < 0 then 1 else 0)
def flow0 (rs : List Rd) : List Int := rs.map fun r => sgn r.v
def run0 (n : Nat) (rs : List Rd) : List Int × List Int := (List.replicate n 0, flow0 rs)
noncomputable def runOf (n : Nat) (rs : List Rd) : List Int × List Int := whileL (runC n rs) (runF n rs) (run0 n rs)
theorem excess_len (f : List Int) : (excess n rs f).length = n := exTo_len n rs f _
theorem arg_ok {s : List Int × List Int} (hc : runC n rs s = true) : argE (excess n rs s.2) < n ∧ 0 < gi (excess n rs s.2) (argE (excess n rs s.2)) ∧ gi (excess n rs s.2) (argE (excess n rs s.2)) = mxI (excess n rs s.2) := by
  have h0 : 0 < mxI (excess n rs s.2) := of_decide_eq_true hc
  have hne : excess n rs s.2 ≠ [] := fun e => by rw [e] at h0; simp [mxI] at h0
  obtain ⟨m1, _⟩ := mxI_ok hne
  have hlt : (excess n rs s.2).idxOf (mxI (excess n rs s.2)) < (excess n rs s.2).length := List.idxOf_lt_length_of_mem m1
  have eq : gi (excess n rs s.2) (argE (excess n rs s.2)) = mxI (excess n rs s.2) := by
    unfold gi argE
    rw [List.getD_eq_getElem?_getD, List.getElem?_eq_getElem hlt, Option.getD_some]
    exact List.getElem_idxOf hlt
  refine ⟨?_, by rw [eq]; exact h0, eq⟩
  have := excess_len (n := n) (rs := rs) s.2
  unfold argE
  omega
theorem flow0_at {i : Nat} (h : i < rs.length) : gi (flow0 rs) i = sgn (rat rs i).v := by
  unfold gi flow0 rat
  simp [List.getD_eq_getElem?_getD, h]
theorem run0_ok (O : Ok n rs) : SI n rs (run0 n rs) := by
  refine ⟨by simp [run0], ⟨by simp [run0, flow0], fun i hi => ?_⟩, fun i hi => ?_⟩
  · show -1 ≤ gi (flow0 rs) i ∧ gi (flow0 rs) i ≤ 1
    rw [flow0_at hi]
    unfold sgn
    split <;> split <;> omega
  · show (gi (flow0 rs) i < 1 → miss (rat rs i) (List.replicate n 0) ≤ 0) ∧ (-1 < gi (flow0 rs) i → 0 ≤ miss (rat rs i) (List.replicate n 0))
    have m0 : miss (rat rs i) (List.replicate n 0) = (rat rs i).v := by
      unfold miss
      rw [gi_rep (O.b _ (rat_mem hi)), gi_rep (O.a _ (rat_mem hi))]
      omega
    rw [flow0_at hi, m0]
    unfold sgn
    split <;> split <;> omega
theorem run_ok (O : Ok n rs) : (∃ k, LoopN (runC n rs) (runF n rs) k (run0 n rs) (runOf n rs)) ∧ SI n rs (runOf n rs) ∧ Even n rs (runOf n rs).2 := by
  have hI : ∀ s, SI n rs s → runC n rs s = true → SI n rs (runF n rs s) ∧ posSum n (excess n rs (runF n rs s).2) < posSum n (excess n rs s.2) := fun s S hc => by
    obtain ⟨a1, a2, _⟩ := arg_ok hc
    exact push_ok O S a1 a2
  obtain ⟨k, r, l⟩ := LoopN.ex1 (c := runC n rs) (f := runF n rs) (I := SI n rs) (fun s => posSum n (excess n rs s.2)) hI (run0 n rs) (run0_ok O)
  have er : runOf n rs = r := whileL_eq l
  rw [er]
  have ir := l.keeps (I := SI n rs) (fun s S hc => (hI s S hc).1) (run0_ok O)
  refine ⟨⟨k, l⟩, ir, fun j hj => ?_⟩
  have nc : ¬ 0 < mxI (excess n rs r.2) := of_decide_eq_false l.end_false
  have le0 : ∀ j, j < n → gi (excess n rs r.2) j ≤ 0 := fun j hj => by
    have hl := excess_len (n := n) (rs := rs) r.2
    have hne : excess n rs r.2 ≠ [] := fun e => by rw [e] at hl; simp at hl; omega
    have hlt : j < (excess n rs r.2).length := by omega
    have := (mxI_ok hne).2 (excess n rs r.2)[j] (List.getElem_mem hlt)
    have e : gi (excess n rs r.2) j = (excess n rs r.2)[j] := by unfold gi; simp [List.getD_eq_getElem?_getD, hlt]
    omega
  exact sumZ_tight (F := fun j => gi (excess n rs r.2) j) (G := fun _ => 0) le0 (by rw [ex_sum O, sumZ_zero (F := fun _ => 0) fun _ _ => rfl]) j hj
end
end TL

/-! The mathematics: spans, and heights that trees tell. Plain Lean. -/
namespace TL

def Joined (n : Nat) (rs : List Rd) : Prop := ∀ χ : Nat → Prop, χ 0 → (∀ r ∈ rs, χ r.a ↔ χ r.b) → ∀ j, j < n → χ j
def Kept (n : Nat) (rs : List Rd) (h : List Int) : Prop := ∀ χ : Nat → Prop, χ 0 → (∀ r ∈ rs, miss r h = 0 → (χ r.a ↔ χ r.b)) → ∀ j, j < n → χ j

def boundsAt (rs : List Rd) (f : List Int) (i : Nat) : List Stp :=
  (if 0 ≤ gi f i then [⟨(rat rs i).a, (rat rs i).b, (rat rs i).v, 0, 0⟩] else []) ++ (if gi f i ≤ 0 then [⟨(rat rs i).b, (rat rs i).a, -(rat rs i).v, 0, 0⟩] else [])
def boundsTo (rs : List Rd) (f : List Int) (k : Nat) : List Stp := upto (fun i acc => acc ++ boundsAt rs f i) [] k
def boundsOf (rs : List Rd) (f : List Int) : List Stp := boundsTo rs f rs.length
def revS (e : Stp) : Stp := ⟨e.to, e.fr, e.w, 0, 0⟩
theorem mem_bounds {rs : List Rd} {f : List Int} {e : Stp} : e ∈ boundsOf rs f ↔ ∃ i, i < rs.length ∧ ((0 ≤ gi f i ∧ e = ⟨(rat rs i).a, (rat rs i).b, (rat rs i).v, 0, 0⟩) ∨ (gi f i ≤ 0 ∧ e = ⟨(rat rs i).b, (rat rs i).a, -(rat rs i).v, 0, 0⟩)) := by
  unfold boundsOf boundsTo
  rw [mem_upto]
  refine exists_congr fun i => and_congr_right fun _ => ?_
  unfold boundsAt
  rw [List.mem_append]
  refine or_congr ?_ ?_
  · by_cases c : 0 ≤ gi f i <;> simp [c]
  · by_cases c : gi f i ≤ 0 <;> simp [c]
theorem bounds_len (rs : List Rd) (f : List Int) : ∀ k, (boundsTo rs f k).length ≤ 2 * k
  | 0 => by simp [boundsTo, upto]
  | k + 1 => by
    have := bounds_len rs f k
    show (boundsTo rs f k ++ boundsAt rs f k).length ≤ _
    rw [List.length_append]
    have : (boundsAt rs f k).length ≤ 2 := by unfold boundsAt; split <;> split <;> simp
    omega
/-- heights that keep the bounds are those that fit the flow -/
theorem cs_bounds {rs : List Rd} {h f : List Int} : CS rs h f ↔ ∀ e ∈ boundsOf rs f, gi h e.to ≤ gi h e.fr + e.w := by
  constructor
  · intro C e he
    obtain ⟨i, hi, o⟩ := mem_bounds.mp he
    obtain ⟨c1, c2⟩ := C i hi
    unfold miss at c1 c2
    rcases o with ⟨c, rfl⟩ | ⟨c, rfl⟩
    · have := c2 (by omega)
      simp only
      omega
    · have := c1 (by omega)
      simp only
      omega
  · intro B i hi
    unfold miss
    constructor
    · intro c
      have := B _ (mem_bounds.mpr ⟨i, hi, .inr ⟨by omega, rfl⟩⟩)
      simp only at this
      omega
    · intro c
      have := B _ (mem_bounds.mpr ⟨i, hi, .inl ⟨by omega, rfl⟩⟩)
      simp only at this
      omega
def Fe (es : List Stp) (g : Nat → Int) : Prop := g 0 = 0 ∧ ∀ e ∈ es, g e.to ≤ g e.fr + e.w
structure InN (n : Nat) (es : List Stp) : Prop where
  fr : ∀ e ∈ es, e.fr < n
  to : ∀ e ∈ es, e.to < n
noncomputable def grt (n : Nat) (es : List Stp) : BF := whileL (fun b : BF => b.ch) (pass es) (bf0 n 0)
/-- what greatest hands back, where all marks are reached -/
def hiL (n : Nat) (c : List (Option Int)) : List Int := (List.range n).map fun j => (go c j).getD 0
theorem hiL_at {n : Nat} {c : List (Option Int)} {j : Nat} (h : j < n) : gi (hiL n c) j = (go c j).getD 0 := by
  unfold gi hiL
  simp [List.getD_eq_getElem?_getD, h]
theorem hiL_len {n : Nat} {c : List (Option Int)} : (hiL n c).length = n := by simp [hiL]
section
variable {n : Nat} {es : List Stp} {g : Nat → Int}
theorem grt_ok (hn : 0 < n) (N : InN n es) (F : Fe es g) : ∃ k, LoopN (fun b : BF => b.ch) (pass es) k (bf0 n 0) (grt n es) ∧ BI n 0 es g (grt n es) ∧ Closed es (grt n es).c := by
  obtain ⟨k, r, l, b, c⟩ := bf_spec (n := n) (st := 0) (es := es) (g := g) ⟨hn, F.1, N.fr, N.to, F.2⟩
  have e : grt n es = r := whileL_eq l
  exact ⟨k, by rw [e]; exact l, by rw [e]; exact b, by rw [e]; exact c⟩
theorem grt_feas (hn : 0 < n) (N : InN n es) (F : Fe es g) (all : ∀ j, j < n → go (grt n es).c j ≠ none) : gi (hiL n (grt n es).c) 0 = 0 ∧ ∀ e ∈ es, gi (hiL n (grt n es).c) e.to ≤ gi (hiL n (grt n es).c) e.fr + e.w := by
  obtain ⟨_, _, B, C⟩ := grt_ok hn N F
  refine ⟨by rw [hiL_at hn, B.c0]; rfl, fun e he => ?_⟩
  rw [hiL_at (N.to e he), hiL_at (N.fr e he)]
  cases h : go (grt n es).c e.fr with
  | none => exact absurd h (all _ (N.fr e he))
  | some du =>
    obtain ⟨dv, h1, h2⟩ := C e he du h
    rw [h1]
    exact h2
theorem grt_most (hn : 0 < n) (N : InN n es) (F : Fe es g) (all : ∀ j, j < n → go (grt n es).c j ≠ none) {j : Nat} (hj : j < n) : g j ≤ gi (hiL n (grt n es).c) j := by
  obtain ⟨_, _, B, C⟩ := grt_ok hn N F
  rw [hiL_at hj]
  cases h : go (grt n es).c j with
  | none => exact absurd h (all j hj)
  | some d => exact B.ge j d h
/-- raised behind a set that no tight step leaves -/
theorem grt_raise (hn : 0 < n) (N : InN n es) (F : Fe es g) (all : ∀ j, j < n → go (grt n es).c j ≠ none) (χ : Nat → Prop) (h0 : χ 0)
    (hs : ∀ e ∈ es, χ e.fr → ¬ χ e.to → gi (hiL n (grt n es).c) e.to ≠ gi (hiL n (grt n es).c) e.fr + e.w) : ∀ j, j < n → χ j := by
  intro j hj
  classical
  obtain ⟨z, f1⟩ := grt_feas hn N F all
  by_cases q : χ j
  · exact q
  · exfalso
    have F2 : Fe es (fun k => if χ k then gi (hiL n (grt n es).c) k else gi (hiL n (grt n es).c) k + 1) := by
      refine ⟨by show (if χ 0 then _ else _) = _; rw [if_pos h0]; exact z, fun e he => ?_⟩
      have := f1 e he
      show (if χ e.to then _ else _) ≤ (if χ e.fr then _ else _) + e.w
      by_cases a : χ e.to
      · rw [if_pos a]
        by_cases b : χ e.fr
        · rw [if_pos b]; exact this
        · rw [if_neg b]; omega
      · rw [if_neg a]
        by_cases b : χ e.fr
        · rw [if_pos b]
          have := hs e he b a
          omega
        · rw [if_neg b]; omega
    have := grt_most hn N F2 all hj
    simp only [if_neg q] at this
    omega
end
section
variable {n : Nat} {rs : List Rd} {f : List Int}
theorem bounds_in (O : Ok n rs) : InN n (boundsOf rs f) := by
  refine ⟨fun e he => ?_, fun e he => ?_⟩ <;> obtain ⟨i, hi, o⟩ := mem_bounds.mp he <;> rcases o with ⟨_, rfl⟩ | ⟨_, rfl⟩
  · exact O.a _ (rat_mem hi)
  · exact O.b _ (rat_mem hi)
  · exact O.b _ (rat_mem hi)
  · exact O.a _ (rat_mem hi)
theorem rev_in (O : Ok n rs) : InN n ((boundsOf rs f).map revS) := by
  refine ⟨fun e he => ?_, fun e he => ?_⟩ <;> obtain ⟨e0, h0, rfl⟩ := List.mem_map.mp he
  · exact (bounds_in O).to e0 h0
  · exact (bounds_in O).fr e0 h0
/-- a set closed under the bounds' steps (forward, or backward), of an even flow in a joined net: all -/
theorem all_fw (O : Ok n rs) (J : Joined n rs) (B : FB rs f) (E : Even n rs f) (χ : Nat → Prop) (h0 : χ 0)
    (hc : (∀ e ∈ boundsOf rs f, χ e.fr → χ e.to) ∨ (∀ e ∈ boundsOf rs f, χ e.to → χ e.fr)) : ∀ j, j < n → χ j := by
  classical
  refine J χ h0 fun r hr => ?_
  obtain ⟨i, hi⟩ := List.getElem?_of_mem hr
  have hlt : i < rs.length := (List.getElem?_eq_some_iff.mp hi).1
  have er : rat rs i = r := by simp [rat, List.getD_eq_getElem?_getD, hi]
  have dt := ex_dot O f (fun j => if χ j then 1 else 0) rs.length (Nat.le_refl _)
  rw [sumZ_zero (F := fun j => (if χ j then (1 : Int) else 0) * gi (exTo n rs f rs.length) j) fun j hj => by
    have : gi (exTo n rs f rs.length) j = 0 := E j hj
    rw [this, Int.mul_zero]] at dt
  have terms : ∀ k, k < rs.length → gi f k * ((if χ (rat rs k).b then 1 else 0) - (if χ (rat rs k).a then 1 else 0)) = 0 := by
    rcases hc with hc | hc
    · intro k hk
      exact ((sumZ_tight (F := fun _ => 0) (G := fun k => gi f k * ((if χ (rat rs k).b then 1 else 0) - (if χ (rat rs k).a then 1 else 0))) (fun k hk => by
        show (0 : Int) ≤ gi f k * ((if χ (rat rs k).b then 1 else 0) - (if χ (rat rs k).a then 1 else 0))
        rcases three (B.2 k hk) with q | q | q
        · have := hc _ (mem_bounds.mpr ⟨k, hk, .inr ⟨by omega, rfl⟩⟩)
          simp only at this
          rw [q]
          split <;> split <;> first | omega | (rename_i x y; exact absurd (this x) y)
        · rw [q]; omega
        · have := hc _ (mem_bounds.mpr ⟨k, hk, .inl ⟨by omega, rfl⟩⟩)
          simp only at this
          rw [q]
          split <;> split <;> first | omega | (rename_i x y; exact absurd (this y) x)) (by rw [← dt, sumZ_zero (F := fun _ => 0) fun _ _ => rfl]) k hk)).symm
    · intro k hk
      exact (sumZ_tight (G := fun _ => 0) (F := fun k => gi f k * ((if χ (rat rs k).b then 1 else 0) - (if χ (rat rs k).a then 1 else 0))) (fun k hk => by
        show gi f k * ((if χ (rat rs k).b then 1 else 0) - (if χ (rat rs k).a then 1 else 0)) ≤ 0
        rcases three (B.2 k hk) with q | q | q
        · have := hc _ (mem_bounds.mpr ⟨k, hk, .inr ⟨by omega, rfl⟩⟩)
          simp only at this
          rw [q]
          split <;> split <;> first | omega | (rename_i x y; exact absurd (this y) x)
        · rw [q]; omega
        · have := hc _ (mem_bounds.mpr ⟨k, hk, .inl ⟨by omega, rfl⟩⟩)
          simp only at this
          rw [q]
          split <;> split <;> first | omega | (rename_i x y; exact absurd (this x) y)) (by rw [← dt, sumZ_zero (F := fun _ => 0) fun _ _ => rfl]) k hk)
  have ti := terms i hlt
  rw [er] at ti
  rcases three (B.2 i hlt) with q | q | q
  · rw [q] at ti
    constructor
    · intro a
      by_cases b : χ r.b
      · exact b
      · rw [if_neg b, if_pos a] at ti; omega
    · intro b
      by_cases a : χ r.a
      · exact a
      · rw [if_pos b, if_neg a] at ti; omega
  · have s1 : (⟨r.a, r.b, r.v, 0, 0⟩ : Stp) ∈ boundsOf rs f := mem_bounds.mpr ⟨i, hlt, .inl ⟨by omega, by rw [er]⟩⟩
    have s2 : (⟨r.b, r.a, -r.v, 0, 0⟩ : Stp) ∈ boundsOf rs f := mem_bounds.mpr ⟨i, hlt, .inr ⟨by omega, by rw [er]⟩⟩
    rcases hc with hc | hc
    · exact ⟨hc _ s1, hc _ s2⟩
    · exact ⟨hc _ s2, hc _ s1⟩
  · rw [q] at ti
    constructor
    · intro a
      by_cases b : χ r.b
      · exact b
      · rw [if_neg b, if_pos a] at ti; omega
    · intro b
      by_cases a : χ r.a
      · exact a
      · rw [if_pos b, if_neg a] at ti; omega
def hiOf (n : Nat) (c : List (Option Int)) : List Int := hiL n c
def loOf (n : Nat) (c : List (Option Int)) : List Int := (hiL n c).map fun x => -x
theorem gi_map {h : List Int} {F : Int → Int} {j : Nat} (hj : j < h.length) : gi (h.map F) j = F (gi h j) := by
  unfold gi
  simp [List.getD_eq_getElem?_getD, hj]
theorem loOf_at {c : List (Option Int)} {j : Nat} (h : j < n) : gi (loOf n c) j = -gi (hiL n c) j := by
  unfold loOf
  rw [gi_map (by rw [hiL_len]; exact h)]
/-- what is known of a flow of best heights, and the spans by it -/
structure Spans (n : Nat) (rs : List Rd) (f lo hi : List Int) : Prop where
  ll : lo.length = n
  lh : hi.length = n
  l0 : gi lo 0 = 0
  h0 : gi hi 0 = 0
  lc : CS rs lo f
  hc : CS rs hi f
  lk : Kept n rs lo
  hk : Kept n rs hi
  le : ∀ g : List Int, gi g 0 = 0 → CS rs g f → ∀ j, j < n → gi lo j ≤ gi g j ∧ gi g j ≤ gi hi j
theorem spans_ok (O : Ok n rs) (hn : 0 < n) (J : Joined n rs) (B : FB rs f) (E : Even n rs f) {h : List Int} (hh : gi h 0 = 0) (C : CS rs h f) :
    (∃ k, LoopN (fun b : BF => b.ch) (pass (boundsOf rs f)) k (bf0 n 0) (grt n (boundsOf rs f))) ∧ (∃ k, LoopN (fun b : BF => b.ch) (pass ((boundsOf rs f).map revS)) k (bf0 n 0) (grt n ((boundsOf rs f).map revS))) ∧
    (∀ j, j < n → go (grt n (boundsOf rs f)).c j ≠ none) ∧ (∀ j, j < n → go (grt n ((boundsOf rs f).map revS)).c j ≠ none) ∧
    Spans n rs f (loOf n (grt n ((boundsOf rs f).map revS)).c) (hiOf n (grt n (boundsOf rs f)).c) := by
  have fe : ∀ g : List Int, gi g 0 = 0 → CS rs g f → Fe (boundsOf rs f) (gi g) := fun g g0 gc => ⟨g0, cs_bounds.mp gc⟩
  have fr : ∀ g : List Int, gi g 0 = 0 → CS rs g f → Fe ((boundsOf rs f).map revS) (fun j => -gi g j) := fun g g0 gc => ⟨by show -gi g 0 = 0; omega, fun e he => by
    obtain ⟨e0, h0, rfl⟩ := List.mem_map.mp he
    have := cs_bounds.mp gc e0 h0
    show -gi g e0.fr ≤ -gi g e0.to + e0.w
    omega⟩
  have N := bounds_in (f := f) O
  have N2 := rev_in (f := f) O
  obtain ⟨k1, l1, B1, C1⟩ := grt_ok hn N (fe h hh C)
  obtain ⟨k2, l2, B2, C2⟩ := grt_ok hn N2 (fr h hh C)
  have a1 : ∀ j, j < n → go (grt n (boundsOf rs f)).c j ≠ none := all_fw O J B E (fun j => go (grt n (boundsOf rs f)).c j ≠ none) (by show go _ 0 ≠ none; rw [B1.c0]; intro q; cases q) (.inl fun e he hf => by
    cases q : go (grt n (boundsOf rs f)).c e.fr with
    | none => exact absurd q hf
    | some d =>
      obtain ⟨dv, z, _⟩ := C1 e he d q
      show go (grt n (boundsOf rs f)).c e.to ≠ none
      rw [z]
      intro q; cases q)
  have a2 : ∀ j, j < n → go (grt n ((boundsOf rs f).map revS)).c j ≠ none := all_fw O J B E (fun j => go (grt n ((boundsOf rs f).map revS)).c j ≠ none) (by show go _ 0 ≠ none; rw [B2.c0]; intro q; cases q) (.inr fun e he hf => by
    cases q : go (grt n ((boundsOf rs f).map revS)).c e.to with
    | none => exact absurd q hf
    | some d =>
      obtain ⟨dv, z, _⟩ := C2 (revS e) (List.mem_map.mpr ⟨e, he, rfl⟩) d q
      show go (grt n ((boundsOf rs f).map revS)).c e.fr ≠ none
      have z : go (grt n ((boundsOf rs f).map revS)).c e.fr = some dv := z
      rw [z]
      intro q; cases q)
  refine ⟨⟨k1, l1⟩, ⟨k2, l2⟩, a1, a2, ?_⟩
  obtain ⟨z1, f1⟩ := grt_feas hn N (fe h hh C) a1
  obtain ⟨z2, f2⟩ := grt_feas hn N2 (fr h hh C) a2
  have kk : ∀ (g : List Int) (χ : Nat → Prop), (∀ r ∈ rs, miss r g = 0 → (χ r.a ↔ χ r.b)) → ∀ e ∈ boundsOf rs f, (gi g e.to = gi g e.fr + e.w → (χ e.fr ↔ χ e.to)) := fun g χ hχ e he q => by
    obtain ⟨i, hi, o⟩ := mem_bounds.mp he
    have := hχ _ (rat_mem hi)
    unfold miss at this
    rcases o with ⟨c, rfl⟩ | ⟨c, rfl⟩
    · simp only at q ⊢
      exact this (by omega)
    · simp only at q ⊢
      exact (this (by omega)).symm
  refine ⟨by simp [loOf, hiL_len], hiL_len, by rw [loOf_at hn, z2]; rfl, z1, ?_, cs_bounds.mpr f1, ?_, ?_, fun g g0 gc j hj => ⟨?_, grt_most hn N (fe g g0 gc) a1 hj⟩⟩
  · refine cs_bounds.mpr fun e he => ?_
    have := f2 (revS e) (List.mem_map.mpr ⟨e, he, rfl⟩)
    rw [loOf_at (N.to e he), loOf_at (N.fr e he)]
    simp only [revS] at this
    omega
  · intro χ h0 hχ
    refine grt_raise hn N2 (fr h hh C) a2 χ h0 fun e he p1 p2 q => ?_
    obtain ⟨e0, h0, rfl⟩ := List.mem_map.mp he
    have := kk _ χ hχ e0 h0 (by
      rw [loOf_at (N.to e0 h0), loOf_at (N.fr e0 h0)]
      simp only [revS] at q
      omega)
    exact p2 (this.mpr p1)
  · intro χ h0 hχ
    refine grt_raise hn N (fe h hh C) a1 χ h0 fun e he p1 p2 q => ?_
    exact p2 ((kk _ χ hχ e he q).mp p1)
  · have := grt_most hn N2 (fr g g0 gc) a2 hj
    rw [loOf_at hj]
    omega
/-- heights that kept readings join are not far from 0 -/
theorem kept_bound {h : List Int} {M : Int} (O : Ok n rs) (hn : 0 < n) (K : Kept n rs h) (h0 : gi h 0 = 0) (hM : 0 ≤ M) (hv : ∀ r ∈ rs, -M ≤ r.v ∧ r.v ≤ M) : ∀ j, j < n → -((n : Int) * M) ≤ gi h j ∧ gi h j ≤ (n : Int) * M := by
  have cnt : ∀ k : Nat, sumN (fun j => if -((k : Int) * M) ≤ gi h j ∧ gi h j ≤ (k : Int) * M then 1 else 0) n ≤ n := fun k => by
    have : ∀ m, sumN (fun j => if -((k : Int) * M) ≤ gi h j ∧ gi h j ≤ (k : Int) * M then 1 else 0) m ≤ m := fun m => by
      induction m with
      | zero => exact Nat.le_refl _
      | succ m ih => rw [sumN]; split <;> omega
    exact this n
  have key : ∀ k : Nat, (∀ j, j < n → -((k : Int) * M) ≤ gi h j ∧ gi h j ≤ (k : Int) * M) ∨ k + 1 ≤ sumN (fun j => if -((k : Int) * M) ≤ gi h j ∧ gi h j ≤ (k : Int) * M then 1 else 0) n := by
    intro k
    induction k with
    | zero =>
      right
      have := sumN_lt (F := fun _ => 0) (G := fun j => if -(((0 : Nat) : Int) * M) ≤ gi h j ∧ gi h j ≤ ((0 : Nat) : Int) * M then 1 else 0) (y := 0) hn (by
        rw [h0, if_pos (by simp)]; exact Nat.zero_lt_one) (fun j _ => Nat.zero_le _)
      rw [sumN_zero (F := fun _ => 0) fun _ _ => rfl] at this
      exact this
    | succ k ih =>
      have up : ((k + 1 : Nat) : Int) * M = (k : Int) * M + M := by rw [Int.natCast_add, Int.add_mul]; simp
      rcases ih with ih | ih
      · left
        intro j hj
        have := ih j hj
        rw [up]
        omega
      · classical
        by_cases q : ∀ j, j < n → -((k : Int) * M) ≤ gi h j ∧ gi h j ≤ (k : Int) * M
        · left
          intro j hj
          have := q j hj
          rw [up]
          omega
        · right
          have km : 0 ≤ (k : Int) * M := Int.mul_nonneg (by omega) hM
          have ex : ∃ r, r ∈ rs ∧ miss r h = 0 ∧ ¬ ((-((k : Int) * M) ≤ gi h r.a ∧ gi h r.a ≤ (k : Int) * M) ↔ (-((k : Int) * M) ≤ gi h r.b ∧ gi h r.b ≤ (k : Int) * M)) := by
            apply Classical.byContradiction
            intro nx
            refine q (K (fun j => -((k : Int) * M) ≤ gi h j ∧ gi h j ≤ (k : Int) * M) (by show _ ∧ _; rw [h0]; omega) fun r hr hm => ?_)
            apply Classical.byContradiction
            intro z
            exact nx ⟨r, hr, hm, z⟩
          obtain ⟨r, hr, hm, hx⟩ := ex
          have hvr := hv r hr
          unfold miss at hm
          have lt : sumN (fun j => if -((k : Int) * M) ≤ gi h j ∧ gi h j ≤ (k : Int) * M then 1 else 0) n < sumN (fun j => if -(((k + 1 : Nat) : Int) * M) ≤ gi h j ∧ gi h j ≤ ((k + 1 : Nat) : Int) * M then 1 else 0) n := by
            have mono : ∀ j, j < n → (if -((k : Int) * M) ≤ gi h j ∧ gi h j ≤ (k : Int) * M then 1 else 0) ≤ (if -(((k + 1 : Nat) : Int) * M) ≤ gi h j ∧ gi h j ≤ ((k + 1 : Nat) : Int) * M then 1 else 0) := fun j _ => by
              rw [up]
              split <;> split <;> omega
            by_cases a : -((k : Int) * M) ≤ gi h r.a ∧ gi h r.a ≤ (k : Int) * M
            · have b : ¬ (-((k : Int) * M) ≤ gi h r.b ∧ gi h r.b ≤ (k : Int) * M) := fun b => hx ⟨fun _ => b, fun _ => a⟩
              refine sumN_lt (y := r.b) (O.b r hr) ?_ mono
              rw [if_neg b, if_pos (by rw [up]; omega)]
              omega
            · have b : -((k : Int) * M) ≤ gi h r.b ∧ gi h r.b ≤ (k : Int) * M := by
                apply Classical.byContradiction
                intro b
                exact hx ⟨fun z => absurd z a, fun z => absurd z b⟩
              refine sumN_lt (y := r.a) (O.a r hr) ?_ mono
              rw [if_neg a, if_pos (by rw [up]; omega)]
              omega
          omega
  rcases key n with q | q
  · exact q
  · have := cnt n
    omega
end
end TL

/-! The mathematics: the search of marks that flow reaches, greatest flows, ways, strength. Plain Lean. -/
namespace TL

/-! ### the search -/
structure Le where
  u : Nat
  ix : Int
  by_ : Int
structure SS where
  l : List (Option Le)
  q : List Nat
def tryS (c : Bool) (v : Nat) (e : Le) (s : SS) : SS := if c = true ∧ go s.l v = none then ⟨s.l.set v (some e), s.q ++ [v]⟩ else s
def readS (rs : List Rd) (f : List Int) (mark i : Nat) (s : SS) : SS :=
  tryS (decide (mark = (rat rs i).b) && decide (-1 < gi f i)) (rat rs i).a ⟨mark, i, -1⟩ (tryS (decide (mark = (rat rs i).a) && decide (gi f i < 1)) (rat rs i).b ⟨mark, i, 1⟩ s)
def scanS (rs : List Rd) (f : List Int) (mark : Nat) (s : SS) (k : Nat) : SS := upto (fun i s => readS rs f mark i s) s k
def passQ (rs : List Rd) (f : List Int) (s : SS) : SS := match s.q with
  | [] => s
  | mark :: q => scanS rs f mark ⟨s.l, q⟩ rs.length
def qcond (s : SS) : Bool := decide (s.q ≠ [])
def ss0 (n st : Nat) : SS := ⟨(List.replicate n none).set st (some ⟨st, -1, 0⟩), [st]⟩
noncomputable def srch (n st : Nat) (rs : List Rd) (f : List Int) : List (Option Le) := (whileL qcond (passQ rs f) (ss0 n st)).l
def nn (n : Nat) (l : List (Option Le)) : Nat := sumN (fun j => if (go l j).isNone = true then 1 else 0) n
def FS (rs : List Rd) (f : List Int) (e : Le) (v : Nat) : Prop := ∃ i : Nat, i < rs.length ∧ e.ix = (i : Int) ∧
  ((e.by_ = 1 ∧ gi f i < 1 ∧ e.u = (rat rs i).a ∧ v = (rat rs i).b) ∨ (e.by_ = -1 ∧ -1 < gi f i ∧ e.u = (rat rs i).b ∧ v = (rat rs i).a))
/-- what holds of the marks found -/
structure QC (n st : Nat) (rs : List Rd) (f : List Int) (s : SS) : Prop where
  ll : s.l.length = n
  qn : ∀ v ∈ s.q, v < n ∧ go s.l v ≠ none
  l0 : go s.l st = some ⟨st, -1, 0⟩
  tr : ∃ (t : Nat → Nat) (T : Nat), (∀ j, t j < T) ∧ ∀ v e, v ≠ st → go s.l v = some e → FS rs f e v ∧ e.u < n ∧ go s.l e.u ≠ none ∧ t e.u < t v
  ct : s.q.length + nn n s.l ≤ n
def MS (n : Nat) (s : SS) : Nat := 2 * nn n s.l + s.q.length
section
variable {n st : Nat} {rs : List Rd} {f : List Int}
theorem tryS_ok {c : Bool} {v : Nat} {e : Le} {s : SS} (Q : QC n st rs f s) (hv : v < n) (he : c = true → FS rs f e v ∧ e.u < n ∧ go s.l e.u ≠ none) :
    QC n st rs f (tryS c v e s) ∧ (∀ x, go s.l x ≠ none → go (tryS c v e s).l x ≠ none) ∧ (∀ x ∈ s.q, x ∈ (tryS c v e s).q) ∧ (∀ x, go (tryS c v e s).l x ≠ none → go s.l x ≠ none ∨ x ∈ (tryS c v e s).q) ∧
    (c = true → go (tryS c v e s).l v ≠ none) ∧ MS n (tryS c v e s) ≤ MS n s := by
  unfold tryS
  by_cases h : c = true ∧ go s.l v = none
  · rw [if_pos h]
    obtain ⟨f1, f2, f3⟩ := he h.1
    have hl : v < s.l.length := by rw [Q.ll]; exact hv
    have gs : ∀ x, go (s.l.set v (some e)) x = if x = v then some e else go s.l x := fun x => go_set hl
    have hvs : v ≠ st := fun z => by rw [z, Q.l0] at h; cases h.2
    have up : ∀ x, go s.l x ≠ none → go (s.l.set v (some e)) x ≠ none := fun x hx => by
      rw [gs]
      by_cases z : x = v
      · rw [if_pos z]; intro q; cases q
      · rw [if_neg z]; exact hx
    have cnt : nn n (s.l.set v (some e)) + 1 = nn n s.l := by
      have := sumN_upd (F := fun j => if (go s.l j).isNone = true then 1 else 0) (G := fun j => if (go (s.l.set v (some e)) j).isNone = true then 1 else 0) hv (fun j hj => by simp only [gs, if_neg hj])
      simp only [gs, if_true, h.2, Option.isNone_some, Option.isNone_none, Bool.false_eq_true, if_false] at this
      unfold nn
      simp only [gs]
      omega
    refine ⟨⟨by rw [List.length_set]; exact Q.ll, fun x hx => ?_, by rw [gs, if_neg (Ne.symm hvs)]; exact Q.l0, ?_, ?_⟩, up, fun x hx => List.mem_append_left _ hx, fun x hx => ?_, fun _ => ?_, ?_⟩
    · rcases List.mem_append.mp hx with z | z
      · exact ⟨(Q.qn x z).1, up x (Q.qn x z).2⟩
      · rw [List.mem_singleton.mp z]
        refine ⟨hv, ?_⟩
        show go (s.l.set v (some e)) v ≠ none
        rw [gs, if_pos rfl]; intro q; cases q
    · obtain ⟨t, T, hT, tr⟩ := Q.tr
      have hue : e.u ≠ v := fun z => f3 (by rw [z]; exact h.2)
      refine ⟨fun j => if j = v then T else t j, T + 1, fun j => ?_, fun x e' hx hg => ?_⟩
      · show (if j = v then T else t j) < T + 1
        by_cases z : j = v
        · rw [if_pos z]; omega
        · rw [if_neg z]; have := hT j; omega
      · show _ ∧ _ ∧ _ ∧ (if e'.u = v then T else t e'.u) < (if x = v then T else t x)
        have hg : go (s.l.set v (some e)) x = some e' := hg
        rw [gs] at hg
        by_cases z : x = v
        · rw [if_pos z] at hg
          cases hg
          rw [if_neg hue, if_pos z, z]
          exact ⟨f1, f2, up _ f3, hT _⟩
        · rw [if_neg z] at hg
          obtain ⟨r1, r2, r3, r4⟩ := tr x e' hx hg
          have : e'.u ≠ v := fun q => r3 (by rw [q]; exact h.2)
          rw [if_neg this, if_neg z]
          exact ⟨r1, r2, up _ r3, r4⟩
    · have := Q.ct
      show (s.q ++ [v]).length + nn n (s.l.set v (some e)) ≤ n
      rw [List.length_append, List.length_singleton]
      omega
    · by_cases z : x = v
      · exact .inr (by rw [z]; exact List.mem_append_right _ (List.mem_singleton.mpr rfl))
      · have hx : go (s.l.set v (some e)) x ≠ none := hx
        rw [gs, if_neg z] at hx
        exact .inl hx
    · show go (s.l.set v (some e)) v ≠ none
      rw [gs, if_pos rfl]; intro q; cases q
    · unfold MS
      show 2 * nn n (s.l.set v (some e)) + (s.q ++ [v]).length ≤ _
      rw [List.length_append, List.length_singleton]
      omega
  · rw [if_neg h]
    refine ⟨Q, fun _ h => h, fun _ h => h, fun _ h => .inl h, fun hc q => h ⟨hc, q⟩, Nat.le_refl _⟩
theorem readS_ok (O : Ok n rs) {mark i : Nat} {s : SS} (Q : QC n st rs f s) (hi : i < rs.length) (hm : mark < n) (hg : go s.l mark ≠ none) :
    QC n st rs f (readS rs f mark i s) ∧ (∀ x, go s.l x ≠ none → go (readS rs f mark i s).l x ≠ none) ∧ (∀ x ∈ s.q, x ∈ (readS rs f mark i s).q) ∧ (∀ x, go (readS rs f mark i s).l x ≠ none → go s.l x ≠ none ∨ x ∈ (readS rs f mark i s).q) ∧
    (((rat rs i).a = mark → gi f i < 1 → go (readS rs f mark i s).l (rat rs i).b ≠ none) ∧ ((rat rs i).b = mark → -1 < gi f i → go (readS rs f mark i s).l (rat rs i).a ≠ none)) ∧ MS n (readS rs f mark i s) ≤ MS n s := by
  unfold readS
  obtain ⟨a1, a2, a3, a4, a5, a6⟩ := tryS_ok (c := decide (mark = (rat rs i).a) && decide (gi f i < 1)) (v := (rat rs i).b) (e := ⟨mark, i, 1⟩) Q (O.b _ (rat_mem hi)) fun hc => by
    simp only [Bool.and_eq_true, decide_eq_true_eq] at hc
    exact ⟨⟨i, hi, rfl, .inl ⟨rfl, hc.2, hc.1, rfl⟩⟩, hm, hg⟩
  generalize tryS (decide (mark = (rat rs i).a) && decide (gi f i < 1)) (rat rs i).b ⟨mark, i, 1⟩ s = s1 at *
  obtain ⟨b1, b2, b3, b4, b5, b6⟩ := tryS_ok (c := decide (mark = (rat rs i).b) && decide (-1 < gi f i)) (v := (rat rs i).a) (e := ⟨mark, i, -1⟩) a1 (O.a _ (rat_mem hi)) fun hc => by
    simp only [Bool.and_eq_true, decide_eq_true_eq] at hc
    exact ⟨⟨i, hi, rfl, .inr ⟨rfl, hc.2, hc.1, rfl⟩⟩, hm, a2 _ hg⟩
  refine ⟨b1, fun x h => b2 x (a2 x h), fun x h => b3 x (a3 x h), fun x h => ?_, ⟨fun e1 e2 => b2 _ (a5 (by simp [e1.symm, e2])), fun e1 e2 => b5 (by simp [e1.symm, e2])⟩, by omega⟩
  rcases b4 x h with z | z
  · rcases a4 x z with z | z
    · exact .inl z
    · exact .inr (b3 x z)
  · exact .inr z
def Exp (rs : List Rd) (f : List Int) (l : List (Option Le)) (u : Nat) (k : Nat) : Prop := ∀ i, i < k → ((rat rs i).a = u → gi f i < 1 → go l (rat rs i).b ≠ none) ∧ ((rat rs i).b = u → -1 < gi f i → go l (rat rs i).a ≠ none)
theorem scanS_ok (O : Ok n rs) {mark : Nat} {s : SS} (Q : QC n st rs f s) (hm : mark < n) (hg : go s.l mark ≠ none) : ∀ k, k ≤ rs.length →
    QC n st rs f (scanS rs f mark s k) ∧ (∀ x, go s.l x ≠ none → go (scanS rs f mark s k).l x ≠ none) ∧ (∀ x ∈ s.q, x ∈ (scanS rs f mark s k).q) ∧ (∀ x, go (scanS rs f mark s k).l x ≠ none → go s.l x ≠ none ∨ x ∈ (scanS rs f mark s k).q) ∧
    Exp rs f (scanS rs f mark s k).l mark k ∧ MS n (scanS rs f mark s k) ≤ MS n s
  | 0, _ => ⟨Q, fun _ h => h, fun _ h => h, fun _ h => .inl h, fun i hi => absurd hi (Nat.not_lt_zero i), Nat.le_refl _⟩
  | k + 1, hk => by
    obtain ⟨a1, a2, a3, a4, a5, a6⟩ := scanS_ok O Q hm hg k (by omega)
    have e : scanS rs f mark s (k + 1) = readS rs f mark k (scanS rs f mark s k) := rfl
    rw [e]
    generalize scanS rs f mark s k = s1 at *
    obtain ⟨b1, b2, b3, b4, b5, b6⟩ := readS_ok O a1 (i := k) (mark := mark) (by omega) hm (a2 _ hg)
    refine ⟨b1, fun x h => b2 x (a2 x h), fun x h => b3 x (a3 x h), fun x h => ?_, fun i hi => ?_, by omega⟩
    · rcases b4 x h with z | z
      · rcases a4 x z with z | z
        · exact .inl z
        · exact .inr (b3 x z)
      · exact .inr z
    · by_cases z : i = k
      · subst z; exact b5
      · obtain ⟨c1, c2⟩ := a5 i (by omega)
        exact ⟨fun p q => b2 _ (c1 p q), fun p q => b2 _ (c2 p q)⟩
structure QI (n st : Nat) (rs : List Rd) (f : List Int) (s : SS) : Prop where
  qc : QC n st rs f s
  cl : ∀ u, go s.l u ≠ none → u ∈ s.q ∨ Exp rs f s.l u rs.length
theorem passQ_ok (O : Ok n rs) {s : SS} (Q : QI n st rs f s) (hc : qcond s = true) : QI n st rs f (passQ rs f s) ∧ MS n (passQ rs f s) < MS n s := by
  obtain ⟨l, q⟩ := s
  cases q with
  | nil => simp [qcond] at hc
  | cons mark q =>
    show QI n st rs f (scanS rs f mark ⟨l, q⟩ rs.length) ∧ MS n (scanS rs f mark ⟨l, q⟩ rs.length) < _
    obtain ⟨hm, hg⟩ := Q.qc.qn mark List.mem_cons_self
    have q1 : QC n st rs f ⟨l, q⟩ := ⟨Q.qc.ll, fun v hv => Q.qc.qn v (List.mem_cons_of_mem _ hv), Q.qc.l0, Q.qc.tr, by have := Q.qc.ct; simp only [List.length_cons] at this ⊢; omega⟩
    obtain ⟨a1, a2, a3, a4, a5, a6⟩ := scanS_ok O q1 hm hg rs.length (Nat.le_refl _)
    refine ⟨⟨a1, fun u hu => ?_⟩, ?_⟩
    · rcases a4 u hu with z | z
      · rcases Q.cl u z with y | y
        · rcases List.mem_cons.mp y with e | y
          · subst e; exact .inr a5
          · exact .inl (a3 u y)
        · exact .inr fun i hi => ⟨fun p q => a2 _ ((y i hi).1 p q), fun p q => a2 _ ((y i hi).2 p q)⟩
      · exact .inl z
    · have e : MS n ⟨l, mark :: q⟩ = MS n ⟨l, q⟩ + 1 := rfl
      omega
theorem ss0_ok (hs : st < n) : QI n st rs f (ss0 n st) := by
  have hl : st < (List.replicate n (none : Option Le)).length := by rw [List.length_replicate]; exact hs
  have gs : ∀ j, go (ss0 n st).l j = if j = st then some (⟨st, -1, 0⟩ : Le) else none := fun j => by
    show go ((List.replicate n (none : Option Le)).set st (some (⟨st, -1, 0⟩ : Le))) j = _
    rw [go_set hl, go_rep]
  have only : ∀ u, go (ss0 n st).l u ≠ none → u = st := fun u hu => by
    rw [gs] at hu
    by_cases z : u = st
    · exact z
    · rw [if_neg z] at hu; exact absurd rfl hu
  refine ⟨⟨by simp [ss0], fun v hv => ?_, by rw [gs, if_pos rfl], ⟨fun _ => 0, 1, fun _ => Nat.zero_lt_one, fun v e hv hg => ?_⟩, ?_⟩, fun u hu => ?_⟩
  · have : v = st := by simpa [ss0] using hv
    subst this
    refine ⟨hs, ?_⟩
    rw [gs, if_pos rfl]; intro q; cases q
  · exact absurd (only v (by rw [hg]; intro q; cases q)) hv
  · show 1 + nn n (ss0 n st).l ≤ n
    have := sumN_upd (n := n) (F := fun _ => 1) (G := fun j => if (go (ss0 n st).l j).isNone = true then 1 else 0) hs (fun j hj => by simp [gs, hj])
    have h1 : ∀ m, sumN (fun _ => 1) m = m := fun m => by
      induction m with
      | zero => rfl
      | succ m ih => rw [sumN, ih]
    rw [h1] at this
    simp only [gs, if_true, Option.isNone_some, Bool.false_eq_true, if_false] at this
    unfold nn
    simp only [gs]
    omega
  · exact .inl (by rw [only u hu]; exact List.mem_singleton.mpr rfl)
/-- what the search tells -/
structure SR (n st : Nat) (rs : List Rd) (f : List Int) (l : List (Option Le)) : Prop where
  ll : l.length = n
  l0 : go l st = some ⟨st, -1, 0⟩
  tr : ∃ (t : Nat → Nat), ∀ v e, v ≠ st → go l v = some e → FS rs f e v ∧ e.u < n ∧ go l e.u ≠ none ∧ t e.u < t v
  cl : ∀ u, go l u ≠ none → Exp rs f l u rs.length
theorem srch_ok (O : Ok n rs) (f : List Int) (hs : st < n) : ∃ k r, LoopN qcond (passQ rs f) k (ss0 n st) r ∧ srch n st rs f = r.l ∧ SR n st rs f r.l := by
  obtain ⟨k, r, l⟩ := LoopN.ex1 (c := qcond) (f := passQ rs f) (I := QI n st rs f) (MS n) (fun s q hc => passQ_ok O q hc) (ss0 n st) (ss0_ok hs)
  have q := l.keeps (I := QI n st rs f) (fun s q hc => (passQ_ok O q hc).1) (ss0_ok hs)
  have e : srch n st rs f = r.l := by unfold srch; rw [whileL_eq l]
  have qe : r.q = [] := by
    have := l.end_false
    unfold qcond at this
    have := of_decide_eq_false this
    exact Classical.byContradiction fun z => this z
  obtain ⟨t, T, hT, tr⟩ := q.qc.tr
  refine ⟨k, r, l, e, q.qc.ll, q.qc.l0, ⟨t, tr⟩, fun u hu => ?_⟩
  rcases q.cl u hu with z | z
  · rw [qe] at z; cases z
  · exact z
end
end TL

/-! The mathematics: greatest flows, ways, strength. Plain Lean. -/
namespace TL

structure AW where
  u : Nat
  g : List Int
def acond (st : Nat) (s : AW) : Bool := decide (s.u ≠ st)
def le0 : Le := ⟨0, 0, 0⟩
def astep (l : List (Option Le)) (s : AW) : AW := ⟨((go l s.u).getD le0).u, s.g.set ((go l s.u).getD le0).ix.toNat (gi s.g ((go l s.u).getD le0).ix.toNat + ((go l s.u).getD le0).by_)⟩
noncomputable def augF (n st en : Nat) (rs : List Rd) (f : List Int) : List Int := (whileL (acond st) (astep (srch n st rs f)) ⟨en, f⟩).g
noncomputable def gcond (n st en : Nat) (rs : List Rd) (f : List Int) : Bool := (go (srch n st rs f) en).isSome
noncomputable def gflow (n st en : Nat) (rs : List Rd) : List Int := whileL (gcond n st en rs) (augF n st en rs) (List.replicate rs.length 0)
structure GI (n st en : Nat) (rs : List Rd) (f : List Int) : Prop where
  fb : FB rs f
  cv : ∀ j, j < n → j ≠ st → j ≠ en → gi (excess n rs f) j = 0
  ni : ∀ i, i < rs.length → ((rat rs i).b = st → gi f i ≤ 0) ∧ ((rat rs i).a = st → 0 ≤ gi f i)
section
variable {n st en : Nat} {rs : List Rd} {f : List Int}
structure AI (n st en : Nat) (rs : List Rd) (f : List Int) (l : List (Option Le)) (t : Nat → Nat) (p : AW) (P : List Stp) : Prop where
  un : p.u < n
  lu : go l p.u ≠ none
  ge : p.g = newF f P 1
  sm : ∀ e ∈ P, e ∈ stepsOf rs [] f
  ti : ∀ e ∈ P, t e.fr < t e.to ∧ t p.u ≤ t e.fr
  pw : P.Pairwise fun e e' => t e'.to ≤ t e.fr
  ef : ∀ j, (P.map fun e => eff e j).sum = (if en = j then 1 else 0) - (if p.u = j then 1 else 0)
theorem AI.next (S : SR n st rs f (srch n st rs f)) {t : Nat → Nat} (ht : ∀ v e, v ≠ st → go (srch n st rs f) v = some e → FS rs f e v ∧ e.u < n ∧ go (srch n st rs f) e.u ≠ none ∧ t e.u < t v)
    {p : AW} {P : List Stp} (A : AI n st en rs f (srch n st rs f) t p P) (hc : acond st p = true) :
    ∃ (e : Le) (i : Nat), go (srch n st rs f) p.u = some e ∧ e.ix = (i : Int) ∧ i < rs.length ∧ (∃ P', AI n st en rs f (srch n st rs f) t (astep (srch n st rs f) p) P') ∧ rank n t (astep (srch n st rs f) p).u < rank n t p.u := by
  have hne : p.u ≠ st := of_decide_eq_true hc
  generalize srch n st rs f = l at *
  cases hg : go l p.u with
  | none => exact absurd hg A.lu
  | some e =>
    obtain ⟨⟨i, hi, hix, o⟩, hu, hl, hlt⟩ := ht _ _ hne hg
    have as : astep l p = ⟨e.u, p.g.set i (gi p.g i + e.by_)⟩ := by unfold astep; rw [hg]; simp [hix]
    refine ⟨e, i, rfl, hix, hi, ?_, by rw [as]; exact rank_lt hu hlt⟩
    rw [as]
    obtain ⟨s, hs1, hs2, hs3, hs4, hs5⟩ : ∃ s : Stp, s ∈ stepsOf rs [] f ∧ s.ix = i ∧ s.sg = e.by_ ∧ s.fr = e.u ∧ s.to = p.u := by
      rcases o with ⟨o1, o2, o3, o4⟩ | ⟨o1, o2, o3, o4⟩
      · exact ⟨⟨(rat rs i).a, (rat rs i).b, -(miss (rat rs i) []), i, 1⟩, mem_steps.mpr ⟨i, hi, .inl ⟨o2, rfl⟩⟩, rfl, o1.symm, o3.symm, o4.symm⟩
      · exact ⟨⟨(rat rs i).b, (rat rs i).a, miss (rat rs i) [], i, -1⟩, mem_steps.mpr ⟨i, hi, .inr ⟨o2, rfl⟩⟩, rfl, o1.symm, o3.symm, o4.symm⟩
    refine ⟨P ++ [s], hu, hl, ?_, fun e' h => ?_, fun e' h => ?_, ?_, fun j => ?_⟩
    · show p.g.set i (gi p.g i + e.by_) = newF f (P ++ [s]) 1
      unfold newF
      rw [List.foldl_append]
      show _ = addF 1 (newF f P 1) s
      unfold addF
      rw [← A.ge, hs2, hs3, Int.mul_one]
    · rcases List.mem_append.mp h with q | q
      · exact A.sm e' q
      · rw [List.mem_singleton.mp q]; exact hs1
    · show t e'.fr < t e'.to ∧ t e.u ≤ t e'.fr
      rcases List.mem_append.mp h with q | q
      · have := A.ti e' q
        omega
      · rw [List.mem_singleton.mp q, hs4, hs5]
        omega
    · rw [List.pairwise_append]
      refine ⟨A.pw, List.pairwise_singleton _ _, fun x hx y hy => ?_⟩
      rw [List.mem_singleton.mp hy, hs5]
      exact (A.ti x hx).2
    · rw [sum_append1, A.ef j]
      unfold eff
      rw [hs4, hs5]
      show _ = (if en = j then 1 else 0) - (if e.u = j then 1 else 0)
      omega
theorem AI.apart {l : List (Option Le)} {t : Nat → Nat} {p : AW} {P : List Stp} (A : AI n st en rs f l t p P) : P.Pairwise fun e e' => e.ix ≠ e'.ix := by
  refine List.Pairwise.imp_of_mem ?_ A.pw
  intro e e' he he' hle q
  obtain ⟨t1, _⟩ := A.ti e he
  obtain ⟨t2, _⟩ := A.ti e' he'
  obtain ⟨i, hi, o⟩ := mem_steps.mp (A.sm e he)
  obtain ⟨i', hi', o'⟩ := mem_steps.mp (A.sm e' he')
  rcases o with ⟨_, rfl⟩ | ⟨_, rfl⟩ <;> rcases o' with ⟨_, rfl⟩ | ⟨_, rfl⟩ <;> (simp only at q t1 t2 hle; subst q; omega)
theorem aug_ok (O : Ok n rs) (G : GI n st en rs f) (hs : st < n) (he : en < n) (hne : st ≠ en) (hc : gcond n st en rs f = true) :
    ∃ J : AW → Prop, J ⟨en, f⟩ ∧ (∀ p, J p → p.u < n ∧ p.g.length = rs.length) ∧
      (∀ p, J p → acond st p = true → (∃ (e : Le) (i : Nat), go (srch n st rs f) p.u = some e ∧ e.ix = (i : Int) ∧ i < rs.length) ∧ J (astep (srch n st rs f) p)) ∧
      (∃ k r, LoopN (acond st) (astep (srch n st rs f)) k ⟨en, f⟩ r ∧ augF n st en rs f = r.g) ∧
      GI n st en rs (augF n st en rs f) ∧ gi (excess n rs (augF n st en rs f)) st = gi (excess n rs f) st - 1 := by
  obtain ⟨_, r0, _, er, S⟩ := srch_ok O f hs
  rw [← er] at S
  obtain ⟨t, ht⟩ := S.tr
  have ne : go (srch n st rs f) en ≠ none := by
    unfold gcond at hc
    intro q
    rw [q] at hc
    cases hc
  have lenP : ∀ (p : AW) P, AI n st en rs f (srch n st rs f) t p P → p.g.length = rs.length := fun p P A => by rw [A.ge, newF_len]; exact G.fb.1
  have j0 : ∃ P, AI n st en rs f (srch n st rs f) t ⟨en, f⟩ P := ⟨[], he, ne, rfl, fun _ h => (by cases h), fun _ h => (by cases h), List.Pairwise.nil, fun j => by show (0 : Int) = (if en = j then 1 else 0) - (if en = j then 1 else 0); omega⟩
  obtain ⟨k, r, l⟩ := LoopN.ex1 (c := acond st) (f := astep (srch n st rs f)) (I := fun p => ∃ P, AI n st en rs f (srch n st rs f) t p P) (fun p => rank n t p.u)
    (fun p ⟨P, A⟩ hc => by obtain ⟨e, i, _, _, _, a, b⟩ := A.next S ht hc; exact ⟨a, b⟩) _ j0
  have ea : augF n st en rs f = r.g := by unfold augF; rw [whileL_eq l]
  obtain ⟨P, A⟩ := l.keeps (I := fun p => ∃ P, AI n st en rs f (srch n st rs f) t p P) (fun p ⟨P, A⟩ hc => by obtain ⟨e, i, _, _, _, a, b⟩ := A.next S ht hc; exact a) j0
  have hu : r.u = st := by
    have := l.end_false
    unfold acond at this
    have := of_decide_eq_false this
    omega
  have six : ∀ e ∈ P, e.ix < f.length := fun e he => by
    rw [G.fb.1]
    exact (step_eff (A.sm e he) 0).2.1
  have exn : ∀ j, j < n → gi (excess n rs r.g) j = gi (excess n rs f) j + ((if en = j then 1 else 0) - (if st = j then 1 else 0)) := fun j hj => by
    rw [A.ge, newF_ex O hj P f G.fb.1 A.sm, A.ef j, hu, Int.one_mul]
  refine ⟨fun p => ∃ P, AI n st en rs f (srch n st rs f) t p P, j0, fun p ⟨P, A⟩ => ⟨A.un, lenP p P A⟩, fun p ⟨P, A⟩ hc => ?_, ⟨k, r, l, ea⟩, ?_, ?_⟩
  · obtain ⟨e, i, a, b, c, d, _⟩ := A.next S ht hc
    exact ⟨⟨e, i, a, b, c⟩, d⟩
  · rw [ea]
    refine ⟨⟨lenP r P A, fun i hi => ?_⟩, fun j hj h1 h2 => ?_, fun i hi => ?_⟩
    · rw [A.ge]
      by_cases hq : ∃ e ∈ P, e.ix = i
      · obtain ⟨e, he, rfl⟩ := hq
        rw [newF_at P f he six A.apart]
        have b1 := G.fb.2 e.ix hi
        obtain ⟨i, hi', o⟩ := mem_steps.mp (A.sm e he)
        rcases o with ⟨q, rfl⟩ | ⟨q, rfl⟩
        · simp only at b1 ⊢; omega
        · simp only at b1 ⊢; omega
      · rw [newF_other P f fun e he => ⟨fun q => hq ⟨e, he, q⟩, six e he⟩]
        exact G.fb.2 i hi
    · rw [exn j hj, G.cv j hj h1 h2, if_neg (Ne.symm h2), if_neg (Ne.symm h1)]
      rfl
    · rw [A.ge]
      by_cases hq : ∃ e ∈ P, e.ix = i
      · obtain ⟨e, he, rfl⟩ := hq
        rw [newF_at P f he six A.apart]
        have b1 := G.ni e.ix hi
        have b2 := A.ti e he
        rw [hu] at b2
        obtain ⟨i, hi', o⟩ := mem_steps.mp (A.sm e he)
        rcases o with ⟨q, rfl⟩ | ⟨q, rfl⟩
        · simp only at b1 b2 ⊢
          refine ⟨fun z => ?_, fun z => ?_⟩
          · rw [z] at b2; omega
          · have := b1.2 z; omega
        · simp only at b1 b2 ⊢
          refine ⟨fun z => ?_, fun z => ?_⟩
          · have := b1.1 z; omega
          · rw [z] at b2; omega
      · rw [newF_other P f fun e he => ⟨fun q => hq ⟨e, he, q⟩, six e he⟩]
        exact G.ni i hi
  · rw [ea, exn st hs, if_neg (Ne.symm hne), if_pos rfl]
    omega
theorem inc_le (r : Rd) (j : Nat) : -1 ≤ inc r j ∧ inc r j ≤ 1 := by unfold inc; split <;> split <;> omega
theorem mul_ge {x y : Int} (h : -1 ≤ x ∧ x ≤ 1) (h' : -1 ≤ y ∧ y ≤ 1) : -1 ≤ x * y := by
  rcases three h with e | e | e <;> subst e <;> omega
theorem sumZ_const (c : Int) : ∀ n : Nat, sumZ (fun _ => c) n = (n : Int) * c
  | 0 => by rw [sumZ]; simp
  | n + 1 => by rw [sumZ, sumZ_const c n, Int.natCast_add, Int.add_mul]; simp
theorem ex_low (O : Ok n rs) (B : FB rs f) {j : Nat} (hj : j < n) : -(rs.length : Int) ≤ gi (excess n rs f) j := by
  rw [ex_at O f hj]
  have := sumZ_le (F := fun _ => (-1 : Int)) (G := fun i => gi f i * inc (rat rs i) j) (n := rs.length) fun i hi => mul_ge (B.2 i hi) (inc_le _ _)
  rw [sumZ_const] at this
  omega
theorem zero_gi (n : Nat) (en : Nat) (O : Ok n rs) : GI n st en rs (List.replicate rs.length 0) := by
  refine ⟨⟨List.length_replicate, fun i hi => by rw [gi_rep hi]; omega⟩, fun j hj _ _ => ?_, fun i hi => by rw [gi_rep hi]; exact ⟨fun _ => Int.le_refl _, fun _ => Int.le_refl _⟩⟩
  rw [ex_at O _ hj]
  exact sumZ_zero fun i hi => by rw [gi_rep hi, Int.zero_mul]
theorem gflow_ok (O : Ok n rs) (hs : st < n) (he : en < n) (hne : st ≠ en) :
    (∃ k, LoopN (gcond n st en rs) (augF n st en rs) k (List.replicate rs.length 0) (gflow n st en rs)) ∧ GI n st en rs (gflow n st en rs) ∧ go (srch n st rs (gflow n st en rs)) en = none := by
  have hI : ∀ f, GI n st en rs f → gcond n st en rs f = true → GI n st en rs (augF n st en rs f) ∧ (gi (excess n rs (augF n st en rs f)) st + rs.length).toNat < (gi (excess n rs f) st + rs.length).toNat := fun f G hc => by
    obtain ⟨_, _, _, _, _, a, b⟩ := aug_ok O G hs he hne hc
    refine ⟨a, ?_⟩
    have := ex_low O a.fb hs
    omega
  obtain ⟨k, r, l⟩ := LoopN.ex1 (c := gcond n st en rs) (f := augF n st en rs) (I := GI n st en rs) (fun f => (gi (excess n rs f) st + rs.length).toNat) hI _ (zero_gi n en O)
  have e : gflow n st en rs = r := whileL_eq l
  rw [e]
  refine ⟨⟨k, l⟩, l.keeps (fun f G hc => (hI f G hc).1) (zero_gi n en O), ?_⟩
  have := l.end_false
  unfold gcond at this
  cases q : go (srch n st rs r) en with
  | none => rfl
  | some e => rw [q] at this; cases this

/-! ### cuts -/
def cutN (χ : Nat → Bool) (rs : List Rd) : Nat := sumN (fun i => if (χ (rat rs i).a != χ (rat rs i).b) = true then 1 else 0) rs.length
theorem cast_sum (F : Nat → Nat) : ∀ n : Nat, ((sumN F n : Nat) : Int) = sumZ (fun i => (F i : Int)) n
  | 0 => rfl
  | n + 1 => by rw [sumN, sumZ, Int.natCast_add, cast_sum F n]
theorem sumZ_neg {F : Nat → Int} : ∀ {n : Nat}, sumZ (fun j => -F j) n = -sumZ F n
  | 0 => rfl
  | n + 1 => by rw [sumZ, sumZ, sumZ_neg]; omega
theorem ex_side (O : Ok n rs) (G : GI n st en rs f) (hs : st < n) (χ : Nat → Bool) (h1 : χ st = true) (h2 : χ en = false) :
    -gi (excess n rs f) st = sumZ (fun i => -(gi f i * ((if χ (rat rs i).b = true then 1 else 0) - (if χ (rat rs i).a = true then 1 else 0)))) rs.length := by
  have dt := ex_dot O f (fun j => if χ j = true then 1 else 0) rs.length (Nat.le_refl _)
  have : sumZ (fun j => (if χ j = true then 1 else 0) * gi (exTo n rs f rs.length) j) n = sumZ (fun j => (if j = st then 1 else 0) * gi (excess n rs f) j) n := sumZ_congr fun j hj => by
    show (if χ j = true then 1 else 0) * gi (excess n rs f) j = _
    by_cases q : j = st
    · subst q; rw [h1, if_pos rfl, if_pos rfl]
    · by_cases q2 : j = en
      · subst q2; rw [h2, if_neg q]; rfl
      · rw [G.cv j hj q q2, Int.mul_zero, Int.mul_zero]
  rw [this, sumZ_single (x := fun j => gi (excess n rs f) j) hs] at dt
  rw [dt, sumZ_neg]
theorem cut_ge (O : Ok n rs) (G : GI n st en rs f) (hs : st < n) (χ : Nat → Bool) (h1 : χ st = true) (h2 : χ en = false) : -gi (excess n rs f) st ≤ (cutN χ rs : Int) := by
  rw [ex_side O G hs χ h1 h2]
  unfold cutN
  rw [cast_sum]
  refine sumZ_le fun i hi => ?_
  have b := G.fb.2 i hi
  cases χ (rat rs i).a <;> cases χ (rat rs i).b <;> simp <;> omega
theorem cut_eq (O : Ok n rs) (G : GI n st en rs f) (hs : st < n) (hn : go (srch n st rs f) en = none) :
    ∃ χ : Nat → Bool, χ st = true ∧ χ en = false ∧ -gi (excess n rs f) st = (cutN χ rs : Int) := by
  obtain ⟨_, r0, _, er, S⟩ := srch_ok O f hs
  rw [← er] at S
  have hs' : (go (srch n st rs f) st).isSome = true := by rw [S.l0]; rfl
  have he' : (go (srch n st rs f) en).isSome = false := by rw [hn]; rfl
  refine ⟨fun j => (go (srch n st rs f) j).isSome, hs', he', ?_⟩
  rw [ex_side O G hs (fun j => (go (srch n st rs f) j).isSome) hs' he']
  unfold cutN
  rw [cast_sum]
  refine sumZ_congr fun i hi => ?_
  have b := G.fb.2 i hi
  have nn_ : ∀ x, (go (srch n st rs f) x).isSome = true → go (srch n st rs f) x ≠ none := fun x h q => by rw [q] at h; cases h
  have mm_ : ∀ x, go (srch n st rs f) x ≠ none → (go (srch n st rs f) x).isSome = true := fun x h => by
    cases q : go (srch n st rs f) x with
    | none => exact absurd q h
    | some e => rfl
  show -(gi f i * ((if (go (srch n st rs f) (rat rs i).b).isSome = true then 1 else 0) - (if (go (srch n st rs f) (rat rs i).a).isSome = true then 1 else 0))) = ((if ((go (srch n st rs f) (rat rs i).a).isSome != (go (srch n st rs f) (rat rs i).b).isSome) = true then 1 else 0 : Nat) : Int)
  cases ha : (go (srch n st rs f) (rat rs i).a).isSome <;> cases hb : (go (srch n st rs f) (rat rs i).b).isSome
  · simp
  · have c := (S.cl _ (nn_ _ hb) i hi).2 rfl
    have : gi f i = -1 := by
      apply Classical.byContradiction
      intro q
      have := mm_ _ (c (by omega))
      rw [ha] at this
      cases this
    simp [this]
  · have c := (S.cl _ (nn_ _ ha) i hi).1 rfl
    have : gi f i = 1 := by
      apply Classical.byContradiction
      intro q
      have := mm_ _ (c (by omega))
      rw [hb] at this
      cases this
    simp [this]
  · simp

/-! ### ways -/
def fit (rs : List Rd) (f : List Int) (mark i : Nat) : Prop := ((rat rs i).a = mark ∧ gi f i = 1) ∨ ((rat rs i).b = mark ∧ gi f i = -1)
instance (rs : List Rd) (f : List Int) (mark i : Nat) : Decidable (fit rs f mark i) := by unfold fit; infer_instance
def nxTo (rs : List Rd) (f : List Int) (mark : Nat) : Nat → Int
  | 0 => -1
  | k + 1 => if 0 ≤ nxTo rs f mark k then nxTo rs f mark k else if fit rs f mark k then (k : Int) else -1
def nx (rs : List Rd) (f : List Int) (mark : Nat) : Int := nxTo rs f mark rs.length
theorem nxTo_or (rs : List Rd) (f : List Int) (mark : Nat) : ∀ k, (nxTo rs f mark k = -1 ∧ ∀ i, i < k → ¬ fit rs f mark i) ∨ ∃ i, i < k ∧ nxTo rs f mark k = (i : Int) ∧ fit rs f mark i
  | 0 => .inl ⟨rfl, fun i h => absurd h (Nat.not_lt_zero i)⟩
  | k + 1 => by
    rcases nxTo_or rs f mark k with ⟨h1, h2⟩ | ⟨i, h1, h2, h3⟩
    · rw [nxTo, if_neg (by omega)]
      by_cases q : fit rs f mark k
      · rw [if_pos q]; exact .inr ⟨k, by omega, rfl, q⟩
      · rw [if_neg q]
        exact .inl ⟨rfl, fun i hi => by
          by_cases z : i = k
          · subst z; exact q
          · exact h2 i (by omega)⟩
    · rw [nxTo, if_pos (by omega)]
      exact .inr ⟨i, by omega, h2, h3⟩
theorem nxTo_keep {rs : List Rd} {f : List Int} {mark k : Nat} (h : 0 ≤ nxTo rs f mark k) : ∀ d, nxTo rs f mark (k + d) = nxTo rs f mark k
  | 0 => rfl
  | d + 1 => by
    show (if 0 ≤ nxTo rs f mark (k + d) then nxTo rs f mark (k + d) else _) = _
    rw [nxTo_keep h d, if_pos h]
theorem nxTo_at {rs : List Rd} {f : List Int} {mark k : Nat} (h : nxTo rs f mark k = -1) (hf : fit rs f mark k) (hk : k < rs.length) : nx rs f mark = (k : Int) := by
  have e : nxTo rs f mark (k + 1) = (k : Int) := by rw [nxTo, if_neg (by omega), if_pos hf]
  have := nxTo_keep (rs := rs) (f := f) (mark := mark) (k := k + 1) (by omega) (rs.length - (k + 1))
  rw [e, show k + 1 + (rs.length - (k + 1)) = rs.length by omega] at this
  exact this
theorem nxTo_no {rs : List Rd} {f : List Int} {mark k : Nat} (h : nxTo rs f mark k = -1) (hf : ¬ fit rs f mark k) : nxTo rs f mark (k + 1) = -1 := by rw [nxTo, if_neg (by omega), if_neg hf]
structure VW where
  u : Nat
  g : List Int
  p : Nat
def vcond (en : Nat) (s : VW) : Bool := decide (s.u ≠ en)
def vstep (rs : List Rd) (s : VW) : VW := ⟨(rat rs (nx rs s.g s.u).toNat).a + (rat rs (nx rs s.g s.u).toNat).b - s.u, s.g.set (nx rs s.g s.u).toNat 0, s.p + 1⟩
noncomputable def wayF (st en : Nat) (rs : List Rd) (g : List Int) : List Int := (whileL (vcond en) (vstep rs) ⟨st, g, 0⟩).g
structure WW where
  g : List Int
  k : Nat
def waycd (rs : List Rd) (st : Nat) (s : WW) : Bool := decide (0 ≤ nx rs s.g st)
noncomputable def wayst (st en : Nat) (rs : List Rd) (s : WW) : WW := ⟨wayF st en rs s.g, s.k + 1⟩
noncomputable def waysN (st en : Nat) (rs : List Rd) (f : List Int) : Nat := (whileL (waycd rs st) (wayst st en rs) ⟨f, 0⟩).k
def nz (rs : List Rd) (g : List Int) : Nat := sumN (fun i => if gi g i = 0 then 0 else 1) rs.length
structure VI (n st en : Nat) (rs : List Rd) (f : List Int) (p : VW) : Prop where
  un : p.u < n
  fb : FB rs p.g
  ni : ∀ i, i < rs.length → ((rat rs i).b = st → gi p.g i ≤ 0) ∧ ((rat rs i).a = st → 0 ≤ gi p.g i)
  ex : ∀ j, j < n → gi (excess n rs p.g) j = gi (excess n rs f) j + ((if st = j then 1 else 0) - (if p.u = j then 1 else 0))
  ct : p.p + nz rs p.g ≤ rs.length
  str : p.u = st → 0 ≤ nx rs p.g st
theorem VI.next (O : Ok n rs) (G : GI n st en rs f) {p : VW} (V : VI n st en rs f p) (hc : vcond en p = true) :
    ∃ i, i < rs.length ∧ nx rs p.g p.u = (i : Int) ∧ (p.u = (rat rs i).a ∨ p.u = (rat rs i).b) ∧ p.p + 1 ≤ rs.length ∧ VI n st en rs f (vstep rs p) := by
  have hne : p.u ≠ en := of_decide_eq_true hc
  have has : ∃ i, i < rs.length ∧ nx rs p.g p.u = (i : Int) ∧ fit rs p.g p.u i := by
    rcases nxTo_or rs p.g p.u rs.length with ⟨h1, h2⟩ | h
    · exfalso
      by_cases q : p.u = st
      · have := V.str q
        rw [← q] at this
        unfold nx at this
        omega
      · have e := V.ex p.u V.un
        rw [G.cv _ V.un q hne, if_neg (Ne.symm q), if_pos rfl, ex_at O _ V.un] at e
        have := sumZ_le (F := fun _ => 0) (G := fun i => gi p.g i * inc (rat rs i) p.u) (n := rs.length) fun i hi => by
          have nf := h2 i hi
          unfold fit at nf
          have b := V.fb.2 i hi
          show 0 ≤ gi p.g i * inc (rat rs i) p.u
          unfold inc
          rcases three b with z | z | z <;> rw [z] at nf ⊢ <;> split <;> split <;> first | omega | (exfalso; simp_all)
        rw [sumZ_zero (F := fun _ => 0) fun _ _ => rfl] at this
        omega
    · exact h
  obtain ⟨i, hi, hx, hf⟩ := has
  have vs : vstep rs p = ⟨(rat rs i).a + (rat rs i).b - p.u, p.g.set i 0, p.p + 1⟩ := by unfold vstep; rw [hx]; rfl
  have hl : i < p.g.length := by rw [V.fb.1]; exact hi
  have gs : ∀ j, gi (p.g.set i 0) j = if j = i then 0 else gi p.g j := fun j => gi_set hl
  have nz1 : gi p.g i ≠ 0 := by rcases hf with ⟨_, z⟩ | ⟨_, z⟩ <;> omega
  have ab := O.ne _ (rat_mem hi)
  have cnt : nz rs (p.g.set i 0) + 1 = nz rs p.g := by
    have := sumN_upd (F := fun j => if gi p.g j = 0 then 0 else 1) (G := fun j => if gi (p.g.set i 0) j = 0 then 0 else 1) hi (fun j hj => by simp only [gs, if_neg hj])
    simp only [gs, if_true, if_neg nz1] at this
    unfold nz
    simp only [gs]
    omega
  refine ⟨i, hi, hx, by
    rcases hf with ⟨z, _⟩ | ⟨z, _⟩
    · exact .inl z.symm
    · exact .inr z.symm, by have := V.ct; omega, ?_⟩
  rw [vs]
  have ns : (rat rs i).a + (rat rs i).b - p.u ≠ st := by
    have := V.ni i hi
    rcases hf with ⟨z, z2⟩ | ⟨z, z2⟩
    · intro q
      have := this.1 (by omega)
      omega
    · intro q
      have := this.2 (by omega)
      omega
  refine ⟨?_, ⟨by rw [List.length_set]; exact V.fb.1, fun j hj => ?_⟩, fun j hj => ?_, fun j hj => ?_, ?_, fun q => absurd q ns⟩
  · have := O.a _ (rat_mem hi)
    have := O.b _ (rat_mem hi)
    show (rat rs i).a + (rat rs i).b - p.u < n
    rcases hf with ⟨z, z2⟩ | ⟨z, z2⟩ <;> omega
  · show -1 ≤ gi (p.g.set i 0) j ∧ gi (p.g.set i 0) j ≤ 1
    rw [gs]
    by_cases z : j = i
    · rw [if_pos z]; omega
    · rw [if_neg z]; exact V.fb.2 j hj
  · show (_ → gi (p.g.set i 0) j ≤ 0) ∧ (_ → 0 ≤ gi (p.g.set i 0) j)
    rw [gs]
    by_cases z : j = i
    · rw [if_pos z]; exact ⟨fun _ => Int.le_refl _, fun _ => Int.le_refl _⟩
    · rw [if_neg z]; exact V.ni j hj
  · show gi (excess n rs (p.g.set i 0)) j = gi (excess n rs f) j + ((if st = j then 1 else 0) - (if (rat rs i).a + (rat rs i).b - p.u = j then 1 else 0))
    have e0 : p.g.set i 0 = p.g.set i (gi p.g i + -gi p.g i) := by congr 1; omega
    rw [e0, ex_set O V.fb.1 hi hj, V.ex j hj]
    unfold inc
    rcases hf with ⟨z, z2⟩ | ⟨z, z2⟩
    · rw [z2, show (rat rs i).a + (rat rs i).b - p.u = (rat rs i).b by omega, z]
      omega
    · rw [z2, show (rat rs i).a + (rat rs i).b - p.u = (rat rs i).a by omega, z]
      omega
  · have := V.ct
    show p.p + 1 + nz rs (p.g.set i 0) ≤ rs.length
    omega
theorem nz_le (rs : List Rd) (g : List Int) : nz rs g ≤ rs.length := by
  have : ∀ m, sumN (fun i => if gi g i = 0 then 0 else 1) m ≤ m := fun m => by
    induction m with
    | zero => exact Nat.le_refl _
    | succ m ih => rw [sumN]; split <;> omega
  exact this _
theorem way_ok (O : Ok n rs) (G : GI n st en rs f) (hs : st < n) (he : en < n) (hw : 0 ≤ nx rs f st) :
    ∃ J : VW → Prop, J ⟨st, f, 0⟩ ∧ (∀ p, J p → p.u < n ∧ p.g.length = rs.length ∧ p.p ≤ rs.length) ∧
      (∀ p, J p → vcond en p = true → (∃ i, i < rs.length ∧ nx rs p.g p.u = (i : Int) ∧ (p.u = (rat rs i).a ∨ p.u = (rat rs i).b) ∧ p.p + 1 ≤ rs.length) ∧ J (vstep rs p)) ∧
      (∃ k r, LoopN (vcond en) (vstep rs) k ⟨st, f, 0⟩ r ∧ wayF st en rs f = r.g) ∧
      GI n st en rs (wayF st en rs f) ∧ gi (excess n rs (wayF st en rs f)) st = gi (excess n rs f) st + ((if st = st then 1 else 0) - (if en = st then 1 else 0)) := by
  have j0 : VI n st en rs f ⟨st, f, 0⟩ := ⟨hs, G.fb, G.ni, fun j hj => by show gi (excess n rs f) j = _ + ((if st = j then 1 else 0) - (if st = j then 1 else 0)); omega, by show 0 + nz rs f ≤ _; have := nz_le rs f; omega, fun _ => hw⟩
  obtain ⟨k, r, l⟩ := LoopN.ex1 (c := vcond en) (f := vstep rs) (I := VI n st en rs f) (fun p => rs.length - p.p) (fun p V hc => by
    obtain ⟨i, _, _, _, b, c⟩ := V.next O G hc
    refine ⟨c, ?_⟩
    show rs.length - (p.p + 1) < _
    omega) _ j0
  have V := l.keeps (I := VI n st en rs f) (fun p V hc => by obtain ⟨i, _, _, _, b, c⟩ := V.next O G hc; exact c) j0
  have hu : r.u = en := by
    have := l.end_false
    unfold vcond at this
    have := of_decide_eq_false this
    omega
  have ea : wayF st en rs f = r.g := by unfold wayF; rw [whileL_eq l]
  refine ⟨VI n st en rs f, j0, fun p V => ⟨V.un, V.fb.1, by have := V.ct; omega⟩, fun p V hc => ?_, ⟨k, r, l, ea⟩, ?_, ?_⟩
  · obtain ⟨i, a, b, c, d, e⟩ := V.next O G hc
    exact ⟨⟨i, a, b, c, d⟩, e⟩
  · rw [ea]
    refine ⟨V.fb, fun j hj h1 h2 => ?_, V.ni⟩
    rw [V.ex j hj, G.cv j hj h1 h2, hu, if_neg (Ne.symm h1), if_neg (Ne.symm h2)]
    rfl
  · rw [ea, V.ex st hs, hu]
theorem st_term (O : Ok n rs) (G : GI n st en rs f) {i : Nat} (hi : i < rs.length) : gi f i * inc (rat rs i) st ≤ 0 ∧ (fit rs f st i → gi f i * inc (rat rs i) st = -1) ∧ (¬ fit rs f st i → gi f i * inc (rat rs i) st = 0) := by
  have b := G.fb.2 i hi
  have c := G.ni i hi
  have ab := O.ne _ (rat_mem hi)
  unfold fit inc
  by_cases ha : (rat rs i).a = st
  · have hb : ¬ (rat rs i).b = st := fun q => ab (ha.trans q.symm)
    have := c.2 ha
    rw [if_neg hb, if_pos ha]
    rcases three b with z | z | z <;> rw [z] at this ⊢
    · omega
    · exact ⟨by omega, fun q => by rcases q with q | q <;> omega, fun _ => by omega⟩
    · exact ⟨by omega, fun _ => by omega, fun q => absurd (.inl ⟨ha, rfl⟩) q⟩
  · by_cases hb : (rat rs i).b = st
    · have := c.1 hb
      rw [if_neg ha, if_pos hb]
      rcases three b with z | z | z <;> rw [z] at this ⊢
      · exact ⟨by omega, fun _ => by omega, fun q => absurd (.inr ⟨hb, rfl⟩) q⟩
      · exact ⟨by omega, fun q => by rcases q with q | q <;> omega, fun _ => by omega⟩
      · omega
    · rw [if_neg ha, if_neg hb]
      refine ⟨by omega, fun q => ?_, fun _ => by omega⟩
      rcases q with q | q
      · exact absurd q.1 ha
      · exact absurd q.1 hb
theorem ways_ok (O : Ok n rs) (G : GI n st en rs f) (hs : st < n) (he : en < n) (hne : st ≠ en) :
    ∃ J : WW → Prop, J ⟨f, 0⟩ ∧ (∀ w, J w → GI n st en rs w.g ∧ w.k ≤ rs.length) ∧ (∀ w, J w → waycd rs st w = true → J (wayst st en rs w)) ∧
      (∃ k r, LoopN (waycd rs st) (wayst st en rs) k ⟨f, 0⟩ r ∧ r.k = waysN st en rs f) ∧ (waysN st en rs f : Int) = -gi (excess n rs f) st := by
  have lo := ex_low O G.fb hs
  have neg : ∀ g, GI n st en rs g → gi (excess n rs g) st ≤ 0 ∧ (0 ≤ nx rs g st → gi (excess n rs g) st ≤ -1) ∧ (¬ 0 ≤ nx rs g st → gi (excess n rs g) st = 0) := fun g G => by
    rw [ex_at O g hs]
    have le := sumZ_le (G := fun _ => 0) (F := fun i => gi g i * inc (rat rs i) st) (n := rs.length) fun i hi => (st_term O G hi).1
    rw [sumZ_zero (F := fun _ => 0) fun _ _ => rfl] at le
    refine ⟨le, fun h => ?_, fun h => ?_⟩
    · rcases nxTo_or rs g st rs.length with ⟨h1, h2⟩ | ⟨i, h1, h2, h3⟩
      · unfold nx at h; omega
      · have := sumZ_le (G := fun j => (if j = i then 1 else 0) * (-1)) (F := fun i => gi g i * inc (rat rs i) st) (n := rs.length) fun j hj => by
          show gi g j * inc (rat rs j) st ≤ (if j = i then 1 else 0) * (-1)
          by_cases q : j = i
          · subst q; rw [(st_term O G hj).2.1 h3, if_pos rfl]; omega
          · rw [if_neg q]; have := (st_term O G hj).1; omega
        rw [sumZ_single (x := fun _ => -1) h1] at this
        exact this
    · rcases nxTo_or rs g st rs.length with ⟨h1, h2⟩ | ⟨i, h1, h2, h3⟩
      · exact sumZ_zero fun i hi => (st_term O G hi).2.2 (h2 i hi)
      · unfold nx at h; omega
  have hJ : ∀ w : WW, (GI n st en rs w.g ∧ gi (excess n rs w.g) st = gi (excess n rs f) st + w.k) → waycd rs st w = true → (GI n st en rs (wayst st en rs w).g ∧ gi (excess n rs (wayst st en rs w).g) st = gi (excess n rs f) st + (wayst st en rs w).k) ∧ (-gi (excess n rs (wayst st en rs w).g) st).toNat < (-gi (excess n rs w.g) st).toNat := fun w ⟨Gw, ew⟩ hc => by
    have hw : 0 ≤ nx rs w.g st := of_decide_eq_true hc
    obtain ⟨_, _, _, _, _, a, b⟩ := way_ok O Gw hs he hw
    rw [if_pos rfl, if_neg (Ne.symm hne)] at b
    have := (neg w.g Gw).2.1 hw
    have up : (((wayst st en rs w).k : Nat) : Int) = w.k + 1 := by show ((w.k + 1 : Nat) : Int) = _; omega
    have e : (wayst st en rs w).g = wayF st en rs w.g := rfl
    rw [e, up]
    exact ⟨⟨a, by omega⟩, by omega⟩
  have j0 : GI n st en rs (⟨f, 0⟩ : WW).g ∧ gi (excess n rs (⟨f, 0⟩ : WW).g) st = gi (excess n rs f) st + (⟨f, 0⟩ : WW).k := ⟨G, by show gi (excess n rs f) st = gi (excess n rs f) st + ((0 : Nat) : Int); omega⟩
  obtain ⟨k, r, l⟩ := LoopN.ex1 (c := waycd rs st) (f := wayst st en rs) (I := fun w => GI n st en rs w.g ∧ gi (excess n rs w.g) st = gi (excess n rs f) st + w.k) (fun w => (-gi (excess n rs w.g) st).toNat) hJ _ j0
  have V := l.keeps (I := fun w => GI n st en rs w.g ∧ gi (excess n rs w.g) st = gi (excess n rs f) st + w.k) (fun w V hc => (hJ w V hc).1) j0
  have ea : waysN st en rs f = r.k := by unfold waysN; rw [whileL_eq l]
  refine ⟨fun w => GI n st en rs w.g ∧ gi (excess n rs w.g) st = gi (excess n rs f) st + w.k, j0, fun w W => ⟨W.1, ?_⟩, fun w W hc => (hJ w W hc).1, ⟨k, r, l, ea.symm⟩, ?_⟩
  · have := (neg w.g W.1).1
    omega
  · have hz : ¬ 0 ≤ nx rs r.g st := by
      have := l.end_false
      unfold waycd at this
      exact of_decide_eq_false this
    have := (neg r.g V.1).2.2 hz
    rw [ea]
    omega
end

/-! ### strength -/
noncomputable def kOf (n : Nat) (rs : List Rd) (en : Nat) : Nat := waysN 0 en rs (gflow n 0 en rs)
noncomputable def ksOf (n : Nat) (rs : List Rd) : List (Int × Nat) := (List.range (n - 1)).map fun p => ((kOf n rs (p + 1) : Int), p)
noncomputable def strN (n : Nat) (rs : List Rd) : Int := (minE (ksOf n rs)).1
def Side (n : Nat) (χ : Nat → Bool) : Prop := χ 0 = true ∧ ∃ j, j < n ∧ χ j = false
def IsStr (n : Nat) (rs : List Rd) (s : Int) : Prop := (∃ χ, Side n χ ∧ (cutN χ rs : Int) = s) ∧ ∀ χ, Side n χ → s ≤ (cutN χ rs : Int)
theorem IsStr.uniq {n : Nat} {rs : List Rd} {s s' : Int} (h : IsStr n rs s) (h' : IsStr n rs s') : s = s' := by
  obtain ⟨⟨χ, a, b⟩, c⟩ := h
  obtain ⟨⟨χ', a', b'⟩, c'⟩ := h'
  have := c χ' a'
  have := c' χ a
  omega
theorem kOf_ok {n en : Nat} {rs : List Rd} (O : Ok n rs) (he : en < n) (h0 : en ≠ 0) : (∃ χ, Side n χ ∧ (cutN χ rs : Int) = kOf n rs en) ∧ (∀ χ : Nat → Bool, χ 0 = true → χ en = false → (kOf n rs en : Int) ≤ (cutN χ rs : Int)) := by
  obtain ⟨_, G, hn⟩ := gflow_ok (st := 0) O (by omega) he (Ne.symm h0)
  obtain ⟨_, _, _, _, _, e⟩ := ways_ok O G (by omega) he (Ne.symm h0)
  unfold kOf
  rw [e]
  refine ⟨?_, fun χ h1 h2 => cut_ge O G (by omega) χ h1 h2⟩
  obtain ⟨χ, h1, h2, h3⟩ := cut_eq O G (by omega) hn
  exact ⟨χ, ⟨h1, en, he, h2⟩, h3.symm⟩
theorem strN_ok {n : Nat} {rs : List Rd} (O : Ok n rs) (hn : 2 ≤ n) : IsStr n rs (strN n rs) := by
  have hne : ksOf n rs ≠ [] := by
    intro q
    have := congrArg List.length q
    unfold ksOf at this
    simp at this
    omega
  obtain ⟨m1, m2⟩ := minE_ok hne
  unfold strN
  constructor
  · unfold ksOf at m1
    obtain ⟨p, hp, e⟩ := List.mem_map.mp m1
    have hp' : p < n - 1 := List.mem_range.mp hp
    obtain ⟨⟨χ, a, b⟩, _⟩ := kOf_ok (n := n) (en := p + 1) O (by omega) (by omega)
    refine ⟨χ, a, ?_⟩
    rw [b]
    exact congrArg Prod.fst e
  · rintro χ ⟨h0, j, hj, h1⟩
    have hj0 : j ≠ 0 := fun q => by rw [q, h0] at h1; cases h1
    have k := (kOf_ok (n := n) (en := j) O hj hj0).2 χ h0 h1
    have := m2 ((kOf n rs (j - 1 + 1) : Int), j - 1) (List.mem_map.mpr ⟨j - 1, List.mem_range.mpr (by omega), rfl⟩)
    rw [show j - 1 + 1 = j by omega] at this
    unfold lexle at this
    simp only at this
    omega
theorem ks_len (n : Nat) (rs : List Rd) : (ksOf n rs).length = n - 1 := by simp [ksOf]

/-! ### the law's sides -/
def sidesTo : Nat → List (List Nat)
  | 0 => [[]]
  | k + 1 => sidesTo k ++ (sidesTo k).map fun s => s ++ [k + 1]
def sidesOf (n : Nat) : List (List Nat) := (sidesTo (n - 1)).filter fun s => decide (s ≠ [])
theorem sides_in : ∀ k s, s ∈ sidesTo k → s.length ≤ k ∧ ∀ j ∈ s, 1 ≤ j ∧ j ≤ k
  | 0, s, h => by
    have : s = [] := by simpa [sidesTo] using h
    subst this
    exact ⟨Nat.le_refl _, fun j hj => (by cases hj)⟩
  | k + 1, s, h => by
    rcases List.mem_append.mp h with q | q
    · have := sides_in k s q
      exact ⟨by omega, fun j hj => by have := this.2 j hj; omega⟩
    · obtain ⟨s0, h0, rfl⟩ := List.mem_map.mp q
      have := sides_in k s0 h0
      refine ⟨by rw [List.length_append, List.length_singleton]; omega, fun j hj => ?_⟩
      rcases List.mem_append.mp hj with z | z
      · have := this.2 j z; omega
      · have := List.mem_singleton.mp z; omega
theorem sides_all (χ : Nat → Bool) : ∀ k, ∃ s ∈ sidesTo k, ∀ j, j ∈ s ↔ (1 ≤ j ∧ j ≤ k ∧ χ j = false)
  | 0 => ⟨[], by simp [sidesTo], fun j => by simp; omega⟩
  | k + 1 => by
    obtain ⟨s, h, i⟩ := sides_all χ k
    cases q : χ (k + 1) with
    | true =>
      refine ⟨s, List.mem_append_left _ h, fun j => ?_⟩
      rw [i]
      constructor
      · rintro ⟨a, b, c⟩; exact ⟨a, by omega, c⟩
      · rintro ⟨a, b, c⟩
        refine ⟨a, ?_, c⟩
        by_cases z : j = k + 1
        · subst z; rw [q] at c; cases c
        · omega
    | false =>
      refine ⟨s ++ [k + 1], List.mem_append_right _ (List.mem_map.mpr ⟨s, h, rfl⟩), fun j => ?_⟩
      rw [List.mem_append, i, List.mem_singleton]
      constructor
      · rintro (⟨a, b, c⟩ | e)
        · exact ⟨a, by omega, c⟩
        · subst e; exact ⟨by omega, Nat.le_refl _, q⟩
      · rintro ⟨a, b, c⟩
        by_cases z : j = k + 1
        · exact .inr z
        · exact .inl ⟨a, by omega, c⟩
theorem sides_len : ∀ k, (sidesTo k).length = 2 ^ k
  | 0 => rfl
  | k + 1 => by
    rw [sidesTo, List.length_append, List.length_map, sides_len k]
    omega
def inS (s : List Nat) (j : Nat) : Bool := decide (j ∈ s)
def cutL (rs : List Rd) (s : List Nat) (k : Nat) : List Nat := upto (fun i acc => if (inS s (rat rs i).a != inS s (rat rs i).b) = true then acc ++ [i] else acc) [] k
theorem cutL_len (rs : List Rd) (s : List Nat) : ∀ k, (cutL rs s k).length = sumN (fun i => if (inS s (rat rs i).a != inS s (rat rs i).b) = true then 1 else 0) k
  | 0 => rfl
  | k + 1 => by
    rw [sumN, ← cutL_len rs s k]
    show (if _ then cutL rs s k ++ [k] else cutL rs s k).length = _
    split
    · rw [List.length_append, List.length_singleton]
    · omega
theorem cut_side {n : Nat} {rs : List Rd} (O : Ok n rs) (χ : Nat → Bool) (s : List Nat) (h : ∀ j, j < n → inS s j = !χ j) : (cutL rs s rs.length).length = cutN χ rs := by
  rw [cutL_len]
  unfold cutN
  refine sumN_congr fun i hi => ?_
  rw [h _ (O.a _ (rat_mem hi)), h _ (O.b _ (rat_mem hi))]
  cases χ (rat rs i).a <;> cases χ (rat rs i).b <;> rfl
/-- the least of the sides' cuts -/
theorem sides_str {n : Nat} {rs : List Rd} (O : Ok n rs) (hn : 2 ≤ n) {s : Int} (h1 : ∃ t ∈ sidesOf n, ((cutL rs t rs.length).length : Int) = s) (h2 : ∀ t ∈ sidesOf n, s ≤ ((cutL rs t rs.length).length : Int)) : IsStr n rs s := by
  constructor
  · obtain ⟨t, ht, e⟩ := h1
    obtain ⟨t1, t2⟩ := List.mem_filter.mp ht
    have t3 : t ≠ [] := of_decide_eq_true t2
    obtain ⟨_, t4⟩ := sides_in _ _ t1
    refine ⟨fun j => !inS t j, ⟨?_, ?_⟩, ?_⟩
    · have : ¬ 0 ∈ t := fun q => by have := t4 0 q; omega
      simp [inS, this]
    · cases t with
      | nil => exact absurd rfl t3
      | cons x t =>
        have := t4 x List.mem_cons_self
        exact ⟨x, by omega, by simp [inS]⟩
    · rw [← e, cut_side O (fun j => !inS t j) t fun j hj => by simp]
  · rintro χ ⟨h0, j, hj, hf⟩
    obtain ⟨t, ht, i⟩ := sides_all χ (n - 1)
    have hj0 : j ≠ 0 := fun q => by rw [q, h0] at hf; cases hf
    have mt : t ∈ sidesOf n := List.mem_filter.mpr ⟨ht, decide_eq_true fun q => by
      have := (i j).mpr ⟨by omega, by omega, hf⟩
      rw [q] at this
      cases this⟩
    have := h2 t mt
    rw [cut_side O χ t fun j hj => by
      unfold inS
      cases q : χ j with
      | true =>
        have : ¬ j ∈ t := fun z => by have := ((i j).mp z).2.2; rw [q] at this; cases this
        simp [this]
      | false =>
        have : j ≠ 0 := fun z => by rw [z, h0] at q; cases q
        have : j ∈ t := (i j).mpr ⟨by omega, by omega, q⟩
        simp [this]] at this
    exact this
end TL

/-! The mathematics: rows of heights that kept readings tell. Plain Lean. -/
namespace TL

abbrev Row := List (Nat × Int)
def lk (d : Row) (j : Nat) : Option Int := (d.find? fun p => decide (p.1 = j)).map (·.2)
def grow (r : Rd) (d : Row) : Row := match lk d r.a, lk d r.b with
  | some x, none => d ++ [(r.b, x + r.v)]
  | none, some y => d ++ [(r.a, y - r.v)]
  | _, _ => d
structure RowOk (n : Nat) (d : Row) : Prop where
  nd : (d.map (·.1)).Nodup
  lt : ∀ p ∈ d, p.1 < n
  h0 : lk d 0 = some 0
def agree (d : Row) (h : List Int) : Prop := ∀ p ∈ d, p.2 = gi h p.1
theorem lk_some {d : Row} {j : Nat} {x : Int} (h : lk d j = some x) : (j, x) ∈ d := by
  unfold lk at h
  obtain ⟨p, hp, e⟩ := Option.map_eq_some_iff.mp h
  have m := List.mem_of_find?_eq_some hp
  have q : p.1 = j := by
    have := List.find?_some hp
    simpa using this
  obtain ⟨a, b⟩ := p
  simp only at q e
  subst q e
  exact m
theorem lk_none {d : Row} {j : Nat} : lk d j = none ↔ j ∉ d.map (·.1) := by
  unfold lk
  rw [Option.map_eq_none_iff, List.find?_eq_none]
  constructor
  · intro h hm
    obtain ⟨p, hp, e⟩ := List.mem_map.mp hm
    exact h p hp (decide_eq_true e)
  · intro h p hp hd
    exact h (List.mem_map.mpr ⟨p, hp, of_decide_eq_true hd⟩)
theorem lk_app {d : Row} {i j : Nat} {x : Int} : lk (d ++ [(i, x)]) j = match lk d j with
    | some y => some y
    | none => if i = j then some x else none := by
  unfold lk
  rw [List.find?_append]
  cases d.find? fun p => decide (p.1 = j) with
  | some p => rfl
  | none =>
    by_cases c : i = j
    · simp [c]
    · simp [c]
theorem grow_len (r : Rd) (d : Row) : (grow r d).length = d.length ∨ (grow r d).length = d.length + 1 := by
  unfold grow
  split
  · right; rw [List.length_append]; rfl
  · right; rw [List.length_append]; rfl
  · exact .inl rfl
theorem RowOk.app {n : Nat} {d : Row} {j : Nat} {x : Int} (R : RowOk n d) (hj : j < n) (hl : lk d j = none) : RowOk n (d ++ [(j, x)]) := by
  refine ⟨?_, fun p hp => ?_, by rw [lk_app, R.h0]⟩
  · rw [List.map_append, List.nodup_append]
    refine ⟨R.nd, by simp, fun a ha b hb e => ?_⟩
    have : b = j := by simpa using hb
    rw [e, this] at ha
    exact lk_none.mp hl ha
  · rcases List.mem_append.mp hp with z | z
    · exact R.lt p z
    · rw [List.mem_singleton.mp z]; exact hj
theorem RowOk.grow {n : Nat} {rs : List Rd} {d : Row} {r : Rd} (O : Ok n rs) (hr : r ∈ rs) (R : RowOk n d) : RowOk n (grow r d) := by
  unfold TL.grow
  split
  · rename_i x e1 e2
    exact R.app (O.b r hr) e2
  · rename_i x e1 e2
    exact R.app (O.a r hr) e1
  · exact R
theorem agree_grow {h : List Int} {d : Row} {r : Rd} (A : agree d h) (hm : miss r h = 0) : agree (grow r d) h := by
  unfold miss at hm
  unfold grow
  split
  · rename_i x e1 e2
    have := A _ (lk_some e1)
    simp only at this
    intro p hp
    rcases List.mem_append.mp hp with z | z
    · exact A p z
    · rw [List.mem_singleton.mp z]
      show x + r.v = gi h r.b
      omega
  · rename_i x e1 e2
    have := A _ (lk_some e2)
    simp only at this
    intro p hp
    rcases List.mem_append.mp hp with z | z
    · exact A p z
    · rw [List.mem_singleton.mp z]
      show x - r.v = gi h r.a
      omega
  · exact A
def crossR (r : Rd) (d : Row) : Prop := (lk d r.a).isSome ≠ (lk d r.b).isSome
theorem grow_cross {d : Row} {r : Rd} : crossR r d ↔ (grow r d).length = d.length + 1 := by
  unfold crossR grow
  cases lk d r.a <;> cases lk d r.b <;> simp
theorem cnt_eq {n : Nat} : ∀ {l : List Nat}, l.Nodup → (∀ x ∈ l, x < n) → sumN (fun i => if i ∈ l then 1 else 0) n = l.length
  | [], _, _ => sumN_zero fun j _ => by simp
  | x :: l, nd, lt => by
    obtain ⟨n1, n2⟩ := List.nodup_cons.mp nd
    have ih := cnt_eq (n := n) n2 fun y hy => lt y (List.mem_cons_of_mem _ hy)
    have := sumN_upd (F := fun i => if i ∈ l then 1 else 0) (G := fun i => if i ∈ x :: l then 1 else 0) (y := x) (n := n) (lt x List.mem_cons_self) (fun j hj => by simp [hj])
    simp only [if_neg n1, List.mem_cons, true_or, if_true] at this
    have e : sumN (fun i => if i ∈ x :: l then 1 else 0) n = sumN (fun i => if i = x ∨ i ∈ l then 1 else 0) n := sumN_congr fun j _ => by simp [List.mem_cons]
    rw [e, List.length_cons]
    omega
theorem sum_one (n : Nat) : sumN (fun _ => 1) n = n := by
  induction n with
  | zero => rfl
  | succ n ih => rw [sumN, ih]
theorem row_full {n : Nat} {d : Row} (R : RowOk n d) (hl : d.length = n) {j : Nat} (hj : j < n) : ∃ x, lk d j = some x := by
  cases q : lk d j with
  | some x => exact ⟨x, rfl⟩
  | none =>
    exfalso
    have c := cnt_eq (n := n) R.nd fun x hx => by
      obtain ⟨p, hp, e⟩ := List.mem_map.mp hx
      rw [← e]; exact R.lt p hp
    have := sumN_lt (F := fun i => if i ∈ d.map (·.1) then 1 else 0) (G := fun _ => 1) hj (by rw [if_neg (lk_none.mp q)]; exact Nat.zero_lt_one) (fun i _ => by split <;> omega)
    rw [sum_one, c, List.length_map] at this
    omega
theorem cross_ex {n : Nat} {rs : List Rd} {d : Row} {h : List Int} (R : RowOk n d) (hl : d.length < n) (K : Kept n rs h) : ∃ i, i < rs.length ∧ miss (rat rs i) h = 0 ∧ crossR (rat rs i) d := by
  apply Classical.byContradiction
  intro nx
  have all := K (fun j => (lk d j).isSome = true) (by show (lk d 0).isSome = true; rw [R.h0]; rfl) fun r hr hm => by
    obtain ⟨i, hi⟩ := List.getElem?_of_mem hr
    have hlt : i < rs.length := (List.getElem?_eq_some_iff.mp hi).1
    have er : rat rs i = r := by simp [rat, List.getD_eq_getElem?_getD, hi]
    have : ¬ crossR r d := fun c => nx ⟨i, hlt, by rw [er]; exact hm, by rw [er]; exact c⟩
    unfold crossR at this
    have e : (lk d r.a).isSome = (lk d r.b).isSome := Classical.byContradiction fun z => this z
    show (lk d r.a).isSome = true ↔ (lk d r.b).isSome = true
    rw [e]
  have c := cnt_eq (n := n) R.nd fun x hx => by
    obtain ⟨p, hp, e⟩ := List.mem_map.mp hx
    rw [← e]; exact R.lt p hp
  have : sumN (fun i => if i ∈ d.map (·.1) then 1 else 0) n = sumN (fun _ => 1) n := sumN_congr fun j hj => by
    refine if_pos (Classical.byContradiction fun z => ?_)
    have := all j hj
    rw [lk_none.mpr z] at this
    cases this
  rw [this, sum_one, List.length_map] at c
  omega
def vec (n : Nat) (d : Row) : List Int := (List.range n).map fun j => (lk d j).getD 0
theorem vec_at {n : Nat} {d : Row} {j : Nat} (h : j < n) : gi (vec n d) j = (lk d j).getD 0 := by
  unfold gi vec
  simp [List.getD_eq_getElem?_getD, h]
theorem vec_agree {n : Nat} {d : Row} {h : List Int} (R : RowOk n d) (hl : d.length = n) (A : agree d h) {j : Nat} (hj : j < n) : gi (vec n d) j = gi h j := by
  obtain ⟨x, e⟩ := row_full R hl hj
  rw [vec_at hj, e]
  exact A _ (lk_some e)
/-- heights that kept readings tell from 0 -/
def HK (n : Nat) (rs : List Rd) (h : List Int) : Prop := gi h 0 = 0 ∧ Kept n rs h
/-- all of them are in the list -/
structure Rows (n : Nat) (rs : List Rd) (L : List (List Int)) : Prop where
  ok : ∀ v ∈ L, v.length = n ∧ gi v 0 = 0
  all : ∀ h, HK n rs h → ∃ v ∈ L, ∀ j, j < n → gi v j = gi h j
section
variable {n : Nat} {rs : List Rd} {f lo hi : List Int} {L : List (List Int)}
theorem rows_low (O : Ok n rs) (B : FB rs f) (E : Even n rs f) (v : List Int) : worth rs f ≤ costZ rs v := cost_ge O B E v
theorem same_cs {v h : List Int} (O : Ok n rs) (e : ∀ j, j < n → gi v j = gi h j) (C : CS rs h f) : CS rs v f := fun i hi => by
  have em : miss (rat rs i) v = miss (rat rs i) h := by
    unfold miss
    rw [e _ (O.a _ (rat_mem hi)), e _ (O.b _ (rat_mem hi))]
  rw [em]
  exact C i hi
theorem rows_hit (O : Ok n rs) (B : FB rs f) (E : Even n rs f) (R : Rows n rs L) {h : List Int} (hk : HK n rs h) (C : CS rs h f) : ∃ v ∈ L, costZ rs v = worth rs f ∧ ∀ j, j < n → gi v j = gi h j := by
  obtain ⟨v, hv, e⟩ := R.all h hk
  exact ⟨v, hv, (cost_iff O B E v).mpr (same_cs O e C), e⟩
theorem rows_in (O : Ok n rs) (B : FB rs f) (E : Even n rs f) (R : Rows n rs L) (S : Spans n rs f lo hi) {v : List Int} (hv : v ∈ L) (hc : costZ rs v = worth rs f) {j : Nat} (hj : j < n) : gi lo j ≤ gi v j ∧ gi v j ≤ gi hi j :=
  S.le v (R.ok v hv).2 ((cost_iff O B E v).mp hc) j hj
end
end TL

/-! Own rules of the layer: enumerate of a tuple. -/
namespace L2
open PySem PySem.Spec PyProof.Rows
open AutoSeq1 (wpAny_loadPart')

theorem meets_enum_newT (l : Addr) (items : Array Value) (n : Nat) (dct : Option Addr) (sl : Array (Option Value)) :
    Meets (Builtin.«enumerate.__new__» ⟨[.type "enumerate", .ref l], []⟩) (fun _ R s => s.heap.get? l = some { cls := .type "tuple", dict := dct, data := .seq items n, slots := sl } ∧
      R (.ok (.ret (.ref (s.heap.push { cls := .type "tuple_iterator", data := .fields #[.ref l, .int 0 0] }).objs.size)))
        { s with heap := (s.heap.push { cls := .type "tuple_iterator", data := .fields #[.ref l, .int 0 0] }).push { cls := .type "enumerate", data := .fields #[.none, .bool false, .ref s.heap.objs.size, rawInt 0, .none, .none] } }) :=
  .of_wp fun prog w A R s h => by
    obtain ⟨hp, g, d, tk, os⟩ := s; obtain ⟨hl, h⟩ := h
    have hsub := sub_enumerate
    have hL : Heap.IsTuple (Shared.heap ⟨hp, g, d, tk, os⟩) l items := ⟨_, hl, rfl, n, rfl⟩
    wp_walk using wpAny_loadPart' hl
    refine wpAny_stack_any fun st => wpAny_pure ?_
    split
    · rename_i c _ _ _ _ _
      cases (c == Value.type "enumerate")
      · wp_walk using wpAny_loadPart' hl, wpAny_pyIter_tuple hL
        exact ⟨_, rfl, h⟩
      · wp_walk using wpAny_loadPart' hl, wpAny_pyIter_tuple hL
        exact ⟨_, rfl, h⟩
    · wp_walk using wpAny_loadPart' hl, wpAny_pyIter_tuple hL
      exact ⟨_, rfl, h⟩
theorem call_enum_tuple {prog : Program} {w : World} {A : Around} {E : Value → Shared → Prop} {s : Shared} {l : Addr} {items : Array Value} {Q : Value → Shared → Prop} (hL : s.heap.IsTuple l items)
    (h : ∀ h', IsEnum h' (s.heap.objs.size + 1) s.heap.objs.size 0 .none → h'.IsTupleIter s.heap.objs.size l 0 → h'.objs.size = s.heap.objs.size + 2 →
      (∀ b o, s.heap.get? b = some o → h'.get? b = some o) → Q (.ref (s.heap.objs.size + 1)) { s with heap := h' }) :
    wpAny (model prog w) A (call (.type "enumerate") [.ref l]) Q E s := by
  obtain ⟨⟨c, dct, dt, sl⟩, hl, hc, n, hd⟩ := hL
  replace hc : c = .type "tuple" := hc
  replace hd : dt = .seq items n := hd
  subst hc hd
  refine callType_new F.called_enumerate (by decide) (F.typeCall_enumerate_1 _) (F.newCall_enumerate_1 _) (fun obj => F.args_object_init_2 obj _) F.entry_enumerate_new
    (meets_enum_newT l items n dct sl) ⟨hl, ?_⟩
  have hz : (s.heap.push { cls := .type "tuple_iterator", data := .fields #[.ref l, .int 0 0] }).objs.size = s.heap.objs.size + 1 := Heap.size_push ..
  show _ ∧ _
  rw [hz]
  have he : IsEnum ((s.heap.push { cls := .type "tuple_iterator", data := .fields #[.ref l, .int 0 0] }).push
      { cls := .type "enumerate", data := .fields #[.none, .bool false, .ref s.heap.objs.size, rawInt 0, .none, .none] }) (s.heap.objs.size + 1) s.heap.objs.size 0 .none := by
    have := Heap.get?_push_size (s.heap.push { cls := .type "tuple_iterator", data := .fields #[.ref l, .int 0 0] })
      (o := { cls := .type "enumerate", data := .fields #[.none, .bool false, .ref s.heap.objs.size, rawInt 0, .none, .none] }) rfl
    rw [hz] at this; exact this
  refine ⟨⟨_, he, rfl⟩, h _ he ⟨_, Heap.get?_push_of_some _ (Heap.get?_push_size _ rfl), rfl, rfl⟩ (by rw [Heap.size_push, hz]) fun b o x => Heap.get?_push_of_some _ (Heap.get?_push_of_some _ x)⟩
/-- the tuple at a, each item in a new pair with its place -/
def IteT (K : PySem.W.Frag) (a : Addr) : It :=
  ⟨fun i H => ∃ (xs : List V) (x : V), SqT K H a xs ∧ xs[i]? = some x, fun i H v H' => ∃ T x, v = .ref T ∧ H T = none ∧ H' = upd H T (.tup [.int (i : Nat), x]) ∧ ∀ xs, SqT K H a xs → xs[i]? = some x, fun i H => ∃ xs : List V, SqT K H a xs ∧ xs.length = i⟩
theorem turn_enumT {P : Program} {w : World} {K : PySem.W.Frag} {elts : List Expr} {kk : Nat} {tpos : Pos} (a e it : Addr) :
    Turn P w K (.Tuple elts kk tpos) (IteT K a) [e, it] e (fun i h => (∃ old, IsEnum h e it ((i : Nat) : Int) old) ∧ h.IsTupleIter it a i ∧ e ≠ it ∧ a ≠ it ∧ a ≠ e) where
  mem := by simp
  obj := fun i h st b hb => by
    obtain ⟨⟨old, he⟩, ⟨o, ho, hc, hd⟩, _⟩ := st
    have e' : b = e ∨ b = it := by simpa using hb
    rcases e' with z | z
    · rw [z]; exact ⟨_, he, fun v q => nomatch q⟩
    · rw [z]; exact ⟨o, ho, fun v q => by rw [hd] at q; cases q⟩
  keep := fun i h h' st k => let ⟨⟨old, he⟩, hi, hne⟩ := st; ⟨⟨old, k e (by simp) _ he⟩, hi.at fun o q => k it (by simp) o q, hne⟩
  item := by
    intro X hP hw hK hc i pins s σ H E I hf st hg
    subst hP hw hK
    obtain ⟨⟨old, he⟩, hit, hne, hai, hae⟩ := st
    obtain ⟨xs, x, hq, hx⟩ := hg
    obtain ⟨its, rv, p, hz⟩ := I.tuple hq
    obtain ⟨u, hu, ru⟩ := rv.get hx
    have hel : e < s.heap.objs.size := Heap.lt_size he
    have hil : it < s.heap.objs.size := by obtain ⟨_, q, _⟩ := hit; exact Heap.lt_size q
    have hlt : i < its.toArray.size := by
      have := (List.getElem?_eq_some_iff.mp hu).1
      simpa using this
    refine wpAny_pyNext_enum_itemD (Draws.tuple (A := X.A.in1) (show X.A.in1.handled = none from I.ok.hd hc) it a hai its.toArray) he ⟨hit, p⟩ hlt hne (by simp [hne, Ne.symm hae]) fun y h' tk hy ho hst' hT hsz hk => ?_
    have ey : y = u := by
      have hy : its.toArray[i]? = some y := hy
      have h2 : its.toArray[i]? = some u := by simpa using hu
      rw [h2] at hy
      exact (Option.some.inj hy).symm
    subst ey
    refine ⟨_, rfl, wpAny_letOwnedTupleGo_enum (s := { s with heap := h', toks := tk + 1 }) ho fun h'' he' sb => ?_⟩
    have hT2 : h''.get? s.heap.objs.size = some { cls := .type "tuple", data := .seq #[.int i tk, y] } := (sb.2 _ (Nat.ne_of_gt hel)).trans hT
    have new : ObjOk X.prog X.w (upd H s.heap.objs.size (.tup [.int (i : Nat), x])) h'' s.heap.objs.size (.tup [.int (i : Nat), x]) :=
      ⟨by show 2 ≤ sizeLine; decide, [.int i tk, y], .cons ⟨_, rfl⟩ (.cons ru .nil), ⟨_, hT2, rfl, _, rfl⟩⟩
    have I1 : Inv X pins σ (upd H s.heap.objs.size (.tup [.int (i : Nat), x])) { s with heap := h'', toks := tk + 1 } :=
      I.turnedNew (ch := [e, it]) (fun b ob hb q => (sb.2 b (fun z => hb (by simp [z]))).trans (hk b ob (fun z => hb (by simp [z])) (fun z => hb (by simp [z])) q)) hf (Nat.le_refl _) new
    refine ⟨.ref s.heap.objs.size, _, I1, rfl, ⟨_, x, rfl, I.hok.fresh (Nat.le_refl _), rfl, fun ys hy => by rw [I.tuple_inj hy hq]; exact hx⟩, ⟨⟨y, ?_⟩, hst'.1.at fun o q => (sb.2 it (Ne.symm hne)).trans q, hne, hai, hae⟩, fun b hb => ?_⟩
    · have e1 : ((i + 1 : Nat) : Int) = (i : Int) + 1 := by omega
      rw [e1]; exact he'
    · have hb' : b < s.heap.objs.size := by
        have e' : b = e ∨ b = it := by simpa using hb
        rcases e' with z | z
        · rw [z]; exact hel
        · rw [z]; exact hil
      rw [upd_ne (Nat.ne_of_lt hb')]
      exact (hf b hb).1
  done := by
    intro X hP hw hK hc i pins s σ H E I hf st hg
    subst hP hw hK
    obtain ⟨⟨old, he⟩, hit, hne, hai, hae⟩ := st
    obtain ⟨xs, hq, hx⟩ := hg
    obtain ⟨its, rv, p, hz⟩ := I.tuple hq
    obtain ⟨f0, f1, f2, f3, f4, f5⟩ := hf it (by simp)
    have hl := rv.length
    have hi : i = its.toArray.size := by simp; omega
    subst hi
    exact wpAny_pyNext_enum_endD (Draws.tuple (A := X.A.in1) (show X.A.in1.handled = none from I.ok.hd hc) it a hai its.toArray) he ⟨hit, p⟩ fun h' eb => ⟨rfl, I.turned (t' := s.toks) (fun b o hb q => eb b o hb q) f0 f1 f3 f4 f5⟩
  self := fun A i s Q E st h => let ⟨⟨_, he⟩, _⟩ := st; wpAny_pyIter_enum he h
def iEnumT (K : PySem.W.Frag) (ta : TA) : TI := fun σ H R => ta σ H fun vs H1 => ∃ a xs, vs = [.ref a] ∧ SqT K H1 a xs ∧ R (IteT K a) H1
theorem pi_enumT {X : Cx} {e : Expr} {ta : TA} {p pos tpos : Pos} {elts : List Expr} {kk : Nat} (hg : Gl X "enumerate") (hm : X.mg "enumerate" = none) (ha : PA X [e] ta) (hs : starEach [e] X.env = [(false, eval e X.env)] := by rfl) :
    PI X (.Tuple elts kk tpos) (.Call (.Name "enumerate" p) [e] [] pos) (iEnumT X.K ta) := by
  refine ⟨fun pins s σ H R I h => ?_⟩
  refine Call_ (ld_blt I hg hm boot_enumerate (PyProof.Rows.callWith_type1 (thn (ha.run pos pins s σ H _ I h) fun us s1 ⟨vs, H1, I1, r1, q1⟩ => ?_) hs rfl))
  obtain ⟨a, xs, ex, hq, q⟩ := q1
  subst ex
  cases r1 with
  | cons r rr =>
    cases rr
    cases r
    obtain ⟨its, rv, p', hz⟩ := I1.tuple hq
    have hal : a < s1.heap.objs.size := by obtain ⟨_, q, _⟩ := id p'; exact Heap.lt_size q
    refine call_enum_tuple (show s1.heap.IsTuple a its.toArray from p') fun h' he hit hsz hk => wpAny_pyIter_enum he ?_
    have I2 : Inv X pins σ H1 { s1 with heap := h' } := I1.kept (t' := s1.toks) hk
    refine ⟨s1.heap.objs.size + 1, [s1.heap.objs.size + 1, s1.heap.objs.size], _, _, H1, rfl, I2, turn_enumT a (s1.heap.objs.size + 1) s1.heap.objs.size, ⟨⟨.none, he⟩, hit, Nat.succ_ne_self _, Nat.ne_of_lt hal, Nat.ne_of_lt (Nat.lt_succ_of_lt hal)⟩, fun b hb => ?_, q⟩
    have e' : b = s1.heap.objs.size + 1 ∨ b = s1.heap.objs.size := by simpa using hb
    have hle : s1.heap.objs.size ≤ b := by
      rcases e' with z | z
      · rw [z]; exact Nat.le_add_right _ _
      · rw [z]; exact Nat.le_refl _
    exact I1.fpOk hle (I1.hok.fresh hle)
theorem walk_enumT {K : PySem.W.Frag} {a : Addr} {xs : List V} : Walk (IteT K a) xs.length (fun H => SqT K H a xs) (YPair (fun i => some (.int (i : Nat))) (fun i => xs[i]?)) := by
  refine ⟨fun i _ hi q => ⟨xs, xs[i], q, by simp [hi]⟩, fun _ q => ⟨xs, q, rfl⟩, fun i H v H' _ q y => ?_⟩
  obtain ⟨T, x, h1, h2, h3, h4⟩ := y
  exact ⟨T, .int (i : Nat), x, h1, h2, h3, rfl, h4 xs q⟩
theorem walk_zipT {K : PySem.W.Frag} {a b : Addr} {xs ys : List V} (hl : xs.length = ys.length) : Walk (RZ.ItzT K a b) xs.length (fun H => SqT K H a xs ∧ SqT K H b ys) (YPair (fun i => xs[i]?) (fun i => ys[i]?)) := by
  refine ⟨fun i _ hi q => ?_, fun _ q => ⟨xs, ys, q.1, q.2, .inl (Nat.le_refl _)⟩, fun i H v H' _ q y => ?_⟩
  · have h2 : i < ys.length := by omega
    exact ⟨xs, ys, xs[i], ys[i], q.1, q.2, by simp [hi], by simp [h2]⟩
  · obtain ⟨T, x, z, h1, h2, h3, h4, h5⟩ := y
    exact ⟨T, x, z, h1, h2, h3, h4 xs q.1, h5 ys q.2⟩
end L2

/-! Own rules of the layer: min of a list of pairs of ints (the comparison leans on the heap), tuple * int. -/
namespace L2
open PySem PySem.Spec PyProof.Rows
/-- comparing the i-th and the j-th item in every state where G stands -/
def CmpG (prog : Program) (w : World) (A : Around) (G : Heap → Prop) (P : Nat → Value → Prop) (bt : Nat → Nat → Bool) : Prop :=
  ∀ i j vi vj (s : Shared) (Q : Value → Shared → Prop) (E : Value → Shared → Prop), P i vi → P j vj → G s.heap → Q (.bool (bt i j)) s → wpAny (model prog w) A (richCompare .Lt vi vj) Q E s
section
variable {prog : Program} {w : World} {A : Around} {R : Result → Shared → Prop} {I : Addr} {fp wr : List Addr} {n : Nat} {P : Nat → Value → Prop} {St : Nat → Heap → Prop} {G : Heap → Prop}
theorem minG_loop (W : Walks prog w A.in1 I fp wr n P St) (bt : Nat → Nat → Bool) (hcmp : CmpG prog w A.in1 G P bt) (S : Addr) (hSf : S ∉ fp)
    (hG : ∀ h h', G h → (∀ b o, b ∉ wr → b ≠ S → h.get? b = some o → h'.get? b = some o) → G h') :
    ∀ (k j : Nat) (s : Shared) (vb : Value) (c : Nat), n - (j + 1) = k → j + 1 ≤ n → St (j + 1) s.heap → P (argBest bt j) vb → G s.heap →
    s.heap.get? S = some { cls := .type "list", dict := none, data := .seq #[vb, vb] c, slots := #[] } →
    (∀ v h' tk, P (argBest bt (n - 1)) v → (∀ b o, b ∉ wr → b ≠ S → s.heap.get? b = some o → h'.get? b = some o) → R (.ok (.ret v)) { s with heap := h', toks := tk }) →
    codeAny (model prog w) A (.builtin "min.loop" ⟨[.ref I, .none, .ref S], []⟩) R s := by
  have hSw : S ∉ wr := fun z => hSf (W.sub _ z)
  have nm : (toString "min" ++ toString ".loop" : String) = "min.loop" := by decide
  intro k
  induction k with
  | zero =>
    intro j s vb c hk hj hst hPb g0 hS hR
    have hin : j + 1 = n := by omega
    refine codeAny_builtin F.entry_min_loop ?_
    rw [Around.under_plainId F.plain_min_loop _]
    show wpAny _ A.in1 (seqItems? (.ref S) >>= _) _ _ s
    refine wpAny_bind (wpAny_seqItems hS rfl ?_)
    show wpAny _ A.in1 (tryCatch (pyNext (.ref I)) _ >>= _) _ _ s
    refine wpAny_bind (wpAny_tryCatch (W.done s _ _ (hin ▸ hst) fun h' tk kp => ?_))
    have hS2 := kp S _ hSw hS
    show wpAny _ A.in1 (updateSeq S (fun _ => #[]) >>= _) _ _ _
    refine wpAny_bind ?_
    refine wpAny_updateSeq hS2 rfl (wpAny_bind (wpAny_letGo (wpAny_pure ?_)))
    exact hR vb _ tk (by rw [← hin]; exact hPb) fun b o hbw hbS e => (Heap.get?_update_other _ _ (Ne.symm hbS)).trans (kp b o hbw e)
  | succ k ih =>
    intro j s vb c hk hj hst hPb g0 hS hR
    have hlt : j + 1 < n := by omega
    refine codeAny_builtin F.entry_min_loop ?_
    rw [Around.under_plainId F.plain_min_loop _]
    show wpAny _ A.in1 (seqItems? (.ref S) >>= _) _ _ s
    refine wpAny_bind (wpAny_seqItems hS rfl ?_)
    show wpAny _ A.in1 (tryCatch (pyNext (.ref I)) _ >>= _) _ _ s
    refine wpAny_bind (wpAny_tryCatch (W.item (j + 1) s _ _ hlt hst fun v h' tk hP st2 kp => ?_))
    have hS2 := kp S _ hSw hS
    have g1 : G h' := hG _ _ g0 fun b o hb _ e => kp b o hb e
    show wpAny _ A.in1 (tryCatch (holding [v, v] (richCompare .Lt v vb >>= _)) _ >>= _) _ _ _
    refine wpAny_bind (wpAny_tryCatch (wpAny_holding (wpAny_bind (hcmp (j + 1) (argBest bt j) v vb _ _ _ hP hPb g1 ?_))))
    refine wpAny_bind (wpAny_holding (wpAny_truthy_bool ?_))
    refine wpAny_bind (wpAny_letGo (wpAny_pure ?_))
    cases hb : bt (j + 1) (argBest bt j) with
    | true =>
      simp only [if_true]
      refine wpAny_bind ?_
      refine wpAny_updateSeq hS2 rfl (wpAny_bind (wpAny_letGo ?_))
      rw [nm]
      refine wpAny_pure ⟨plainId_quiet F.plain_min_loop _, ih (j + 1) _ v _ (by omega) hlt (W.frame _ _ _ st2 fun b hbf o e => ?_) (by simp only [argBest, hb, if_true]; exact hP)
        (hG _ _ g1 fun b o _ hbS e => (Heap.get?_update_other _ _ (Ne.symm hbS)).trans e) (Heap.get?_update_self _ hS2 rfl) fun v2 h2 tk2 hP2 kp2 => ?_⟩
      · exact (Heap.get?_update_other _ _ (fun z : S = b => hSf (by rw [z]; exact hbf))).trans e
      · exact hR v2 h2 tk2 hP2 fun b o hbw hbS e => kp2 b o hbw hbS ((Heap.get?_update_other _ _ (Ne.symm hbS)).trans (kp b o hbw e))
    | false =>
      simp only [Bool.false_eq_true, if_false]
      refine wpAny_bind (wpAny_letGo ?_)
      rw [nm]
      refine wpAny_pure ⟨plainId_quiet F.plain_min_loop _, ih (j + 1) _ vb c (by omega) hlt st2 (by simp only [argBest, hb, Bool.false_eq_true, if_false]; exact hPb) g1 hS2 fun v2 h2 tk2 hP2 kp2 => ?_⟩
      exact hR v2 h2 tk2 hP2 fun b o hbw hbS e => kp2 b o hbw hbS (kp b o hbw e)
end
section
variable {prog : Program} {w : World} {A : Around} {E : Value → Shared → Prop} {s : Shared}
theorem minG_call {x : Value} {Q : Value → Shared → Prop}
    (h : wpAny (model prog w) A.in1 (pyIter x) (fun it s₂ => ∃ I fp wr n P St bt G, it = .ref I ∧ Walks prog w A.in1 I fp wr n P St ∧ St 0 s₂.heap ∧ (∀ b ∈ fp, b < s₂.heap.objs.size) ∧ 0 < n ∧ CmpG prog w A.in1 G P bt ∧ G s₂.heap ∧
      (∀ S : Addr, s₂.heap.objs.size ≤ S → ∀ h h', G h → (∀ b o, b ∉ wr → b ≠ S → h.get? b = some o → h'.get? b = some o) → G h') ∧
      ∀ v h' tk, P (argBest bt (n - 1)) v → (∀ b o, b ∉ wr → s₂.heap.get? b = some o → h'.get? b = some o) → Q v { s₂ with heap := h', toks := tk }) E s) :
    wpAny (model prog w) A (call (.builtin "min") [x]) Q E s := by
  have nm : (toString "min" ++ toString ".loop" : String) = "min.loop" := by decide
  refine call_function_tree F.kind_min F.plain_min F.entry_min (F.args_min1 _) ?_
  show wpAny _ A.in1 (Builtin.Builtins.bindParams "min" ["key", "default"] 0 ⟨[], []⟩ >>= _) _ _ s
  refine wpAny_bind (wpAny_of_eq (show Builtin.Builtins.bindParams "min" ["key", "default"] 0 ⟨[], []⟩ = pure [none, none] from rfl) ?_)
  refine wpAny_bind (wpAny_pure ?_)
  refine wpAny_bind (wpAny_mono h (fun it s₂ h₂ => ?_) fun _ _ e => e)
  obtain ⟨I, fp, wr, n, P, St, bt, G, rfl, W, hst, hfp, hn, hcmp, g0, hG, hQ⟩ := h₂
  refine wpAny_bind (wpAny_newObj_type ?_)
  have hSf : s₂.heap.objs.size ∉ fp := fun hm => Nat.lt_irrefl _ (hfp _ hm)
  have hSw : s₂.heap.objs.size ∉ wr := fun z => hSf (W.sub _ z)
  rw [nm]
  refine wpAny_pure ⟨plainId_quiet F.plain_min_loop _, ?_⟩
  -- the first item
  have hS : (s₂.heap.push { cls := .type "list", data := .seq ([] : List Value).toArray }).get? s₂.heap.objs.size = some { cls := .type "list", dict := none, data := .seq #[] 0, slots := #[] } := Heap.get?_push_size _ rfl
  have st1 : St 0 (s₂.heap.push { cls := .type "list", data := .seq ([] : List Value).toArray }) := W.frame _ _ _ hst fun b _ o e => Heap.get?_push_of_some _ e
  refine codeAny_builtin F.entry_min_loop ?_
  rw [Around.under_plainId F.plain_min_loop _]
  show wpAny _ A.in1 (seqItems? (.ref s₂.heap.objs.size) >>= _) _ _ _
  refine wpAny_bind (wpAny_seqItems hS rfl ?_)
  show wpAny _ A.in1 (tryCatch (pyNext (.ref I)) _ >>= _) _ _ _
  refine wpAny_bind (wpAny_tryCatch (W.item 0 _ _ _ hn st1 fun v h' tk hP st2 kp => ?_))
  have hS2 := kp _ _ hSw hS
  show wpAny _ A.in1 (updateSeq s₂.heap.objs.size (fun _ => #[v, v]) >>= _) _ _ _
  refine wpAny_bind ?_
  refine wpAny_updateSeq hS2 rfl ?_
  rw [nm]
  have g1 : G h' := hG _ (Nat.le_refl _) _ _ g0 fun b o hb hbS e => kp b o hb (Heap.get?_push_of_some _ e)
  refine wpAny_pure ⟨plainId_quiet F.plain_min_loop _, minG_loop W bt hcmp s₂.heap.objs.size hSf (hG _ (Nat.le_refl _)) _ 0 _ v _ rfl hn (W.frame _ _ _ st2 fun b hbf o e => ?_) hP
    (hG _ (Nat.le_refl _) _ _ g1 fun b o _ hbS e => (Heap.get?_update_other _ _ (Ne.symm hbS)).trans e) (Heap.get?_update_self _ hS2 rfl) fun v2 h2 tk2 hP2 kp2 => ?_⟩
  · exact (Heap.get?_update_other _ _ (fun z : s₂.heap.objs.size = b => hSf (by rw [z]; exact hbf))).trans e
  · refine hQ v2 h2 tk2 hP2 fun b o hbw e => ?_
    have ne : b ≠ s₂.heap.objs.size := Nat.ne_of_lt (Heap.lt_size e)
    exact kp2 b o hbw ne ((Heap.get?_update_other _ _ (Ne.symm ne)).trans (kp b o hbw (Heap.get?_push_of_some _ e)))
end
theorem best_least {n : Nat} {lt : Nat → Nat → Bool} (tr : ∀ i j k, lt j i = false → lt k i = true → lt j k = false) (ir : ∀ i, lt i i = false) (as_ : ∀ i j, lt i j = true → lt j i = false) : ∀ k, argBest lt k ≤ k ∧ ∀ j, j ≤ k → lt j (argBest lt k) = false
  | 0 => ⟨Nat.le_refl _, fun j hj => by
    rw [Nat.le_zero.mp hj]
    exact ir 0⟩
  | k + 1 => by
    obtain ⟨h1, h2⟩ := best_least tr ir as_ (n := n) k
    unfold argBest
    cases hb : lt (k + 1) (argBest lt k) with
    | true =>
      rw [if_pos rfl]
      refine ⟨Nat.le_refl _, fun j hj => ?_⟩
      by_cases e : j = k + 1
      · rw [e]; exact ir _
      · exact tr _ j _ (h2 j (by omega)) hb
    | false =>
      rw [if_neg Bool.false_ne_true]
      refine ⟨by omega, fun j hj => ?_⟩
      by_cases e : j = k + 1
      · rw [e]; exact hb
      · exact h2 j (by omega)
def ltP (p q : Int × Int) : Bool := decide (p.1 < q.1 ∨ (p.1 = q.1 ∧ p.2 < q.2))
theorem ltP_lex (p q : Int × Int) : HT.lexLt [p.1, p.2] [q.1, q.2] = ltP p q := by
  rw [HT.lexLt_cons, HT.lexLt_cons, HT.lexLt_nil_nil]
  unfold ltP
  by_cases h1 : p.1 = q.1
  · rw [if_pos h1]
    by_cases h2 : p.2 = q.2
    · rw [if_pos h2]; exact (decide_eq_false (by omega)).symm
    · rw [if_neg h2]
      by_cases h3 : p.2 < q.2
      · rw [decide_eq_true h3]; exact (decide_eq_true (by omega)).symm
      · rw [decide_eq_false h3]; exact (decide_eq_false (by omega)).symm
  · rw [if_neg h1]
    by_cases h3 : p.1 < q.1
    · rw [decide_eq_true h3]; exact (decide_eq_true (by omega)).symm
    · rw [decide_eq_false h3]; exact (decide_eq_false (by omega)).symm
/-- min of a list of pairs of ints -/
def rMinT (K : PySem.W.Frag) : List V → Hp → VK → Prop := fun vs H Q => ∃ (a : Addr) (ps : List Addr) (rw : List (Int × Int)), vs = [V.ref a] ∧ SqL K H a (ps.map V.ref) ∧ ps.length = rw.length ∧ 0 < rw.length ∧
  (∀ i, i < rw.length → H (ps.getD i 0) = some (.tup [.int (rw.getD i (0, 0)).1, .int (rw.getD i (0, 0)).2])) ∧
  ∀ i, i < rw.length → (∀ j, j < rw.length → ltP (rw.getD j (0, 0)) (rw.getD i (0, 0)) = false) → Q (.ref (ps.getD i 0)) H
theorem refs_vals : ∀ {ps : List Addr} {us : List Value}, Vals (ps.map V.ref) us → us = ps.map Value.ref
  | [], _, h => by cases h; rfl
  | p :: ps, us, h => by
    cases h with
    | cons r t =>
      rw [refs_vals t]
      have r : _ = Value.ref p := r
      rw [r]
      rfl
theorem cr_minT {X : Cx} (hc : X.calm = true) (hu : X.A.units + 2 < cLine) : CallR X (.builtin "min") (rMinT X.K) := by
  intro pins s σ H vs us Q I r h
  obtain ⟨a, ps, rws, rfl, hs, hl, hne, hp, q⟩ := h
  obtain ⟨its, rv, pl, _⟩ := I.list hs
  rw [Vals.ref1 r]
  have ei := refs_vals rv
  subst ei
  have hh : X.A.handled = none := I.ok.hd hc
  -- what stands of the pairs
  have tups : ∀ i, i < rws.length → ∃ us : List Value, IntsAre us [(rws.getD i (0, 0)).1, (rws.getD i (0, 0)).2] ∧ IsTup s.heap (ps.getD i 0) us.toArray := fun i hi => by
    obtain ⟨us, rv2, p2, _⟩ := I.tuple (SqT.of (hp i hi))
    exact ⟨us, (Vals.ints (ns := [(rws.getD i (0, 0)).1, (rws.getD i (0, 0)).2]) rv2), p2⟩
  refine minG_call (wpAny_pyIter_list pl.isList ?_)
  have hlt : a < s.heap.objs.size := by obtain ⟨_, e, _⟩ := pl.isList; exact Heap.lt_size e
  have hLs : (s.heap.push { cls := .type "list_iterator", data := .fields #[.ref a, .int 0 0] }).objs.size = s.heap.objs.size + 1 := Heap.size_push ..
  refine ⟨s.heap.objs.size, _, _, _, _, _, fun i j => ltP (rws.getD i (0, 0)) (rws.getD j (0, 0)),
    fun h => ∀ i, i < rws.length → ∃ us : List Value, IntsAre us [(rws.getD i (0, 0)).1, (rws.getD i (0, 0)).2] ∧ ps.getD i 0 < s.heap.objs.size ∧ IsTup h (ps.getD i 0) us.toArray, rfl,
    Walks.list (A := X.A.in1) hh s.heap.objs.size a (Nat.ne_of_lt hlt) (ps.map Value.ref).toArray, ⟨⟨_, Heap.get?_push_size _ rfl, rfl, rfl⟩, pl.isList.push _⟩, fun b hb => ?_, ?_, ?_, fun i hi => ?_, fun S hS h h' g kp i hi => ?_, fun v h' tk hP kp => ?_⟩
  · show b < (s.heap.push _).objs.size
    rw [hLs]
    rcases List.mem_cons.mp hb with rfl | hb
    · exact Nat.lt_succ_self _
    · rcases List.mem_cons.mp hb with rfl | hb
      · exact Nat.lt_succ_of_lt hlt
      · cases hb
  · simp; omega
  · intro i j vi vj s2 Q2 E2 hi hj g hq
    have hi' : (ps.map Value.ref)[i]? = some vi := by simpa using hi
    have hj' : (ps.map Value.ref)[j]? = some vj := by simpa using hj
    rw [List.getElem?_map] at hi' hj'
    have il : i < ps.length := by
      cases e : ps[i]? with
      | none => rw [e] at hi'; cases hi'
      | some p => exact (List.getElem?_eq_some_iff.mp e).1
    have jl : j < ps.length := by
      cases e : ps[j]? with
      | none => rw [e] at hj'; cases hj'
      | some p => exact (List.getElem?_eq_some_iff.mp e).1
    have e1 : vi = .ref (ps.getD i 0) := by
      rw [List.getElem?_eq_getElem il] at hi'
      simp [List.getD_eq_getElem?_getD, il]
      exact (Option.some.inj hi').symm
    have e2 : vj = .ref (ps.getD j 0) := by
      rw [List.getElem?_eq_getElem jl] at hj'
      simp [List.getD_eq_getElem?_getD, jl]
      exact (Option.some.inj hj').symm
    subst e1 e2
    obtain ⟨u1, i1, _, p1⟩ := g i (by omega)
    obtain ⟨u2, i2, _, p2⟩ := g j (by omega)
    have z := HT.lt_tupInts (prog := X.prog) (w := X.w) (A := X.A.in1) (E := E2) (s := s2) (Q := Q2) p1 p2 (ns := [(rws.getD i (0, 0)).1, (rws.getD i (0, 0)).2]) (ms := [(rws.getD j (0, 0)).1, (rws.getD j (0, 0)).2]) (by simpa using i1) (by simpa using i2) (by show X.A.units + 1 < cLine; omega) (by rw [ltP_lex]; exact hq)
    exact z
  · obtain ⟨us, hi2, p2⟩ := tups i hi
    obtain ⟨o, e, c⟩ := p2
    exact ⟨us, hi2, Heap.lt_size e, o, Heap.get?_push_of_some _ e, c⟩
  · obtain ⟨us, hi2, hb, o, e, c⟩ := g i hi
    refine ⟨us, hi2, hb, o, kp _ _ (fun hm => ?_) (fun z => ?_) e, c⟩
    · have e1 : ps.getD i 0 = s.heap.objs.size := List.mem_singleton.mp hm
      exact absurd (e1 ▸ hb) (Nat.lt_irrefl _)
    · have hS : s.heap.objs.size + 1 ≤ S := by rw [← hLs]; exact hS
      exact absurd (Nat.lt_of_lt_of_le (z ▸ hb) (Nat.le_of_succ_le hS)) (Nat.lt_irrefl _)
  · have I2 : Inv X pins σ H { s with heap := h', toks := tk } := I.kept fun b o e => kp b o (fun hm => by
      have e1 : b = s.heap.objs.size := List.mem_singleton.mp hm
      exact absurd (e1 ▸ Heap.lt_size e) (Nat.lt_irrefl _)) (Heap.get?_push_of_some _ e)
    have sz : (ps.map Value.ref).toArray.size = rws.length := by simp; exact hl
    obtain ⟨b1, b2⟩ := best_least (n := rws.length) (lt := fun i j => ltP (rws.getD i (0, 0)) (rws.getD j (0, 0))) (fun i j k h1 h2 => by
      unfold ltP at *
      have := of_decide_eq_false h1
      have := of_decide_eq_true h2
      exact decide_eq_false (by omega)) (fun i => by unfold ltP; exact decide_eq_false (by omega)) (fun i j h => by
      unfold ltP at *
      have := of_decide_eq_true h
      exact decide_eq_false (by omega)) ((ps.map Value.ref).toArray.size - 1)
    have il : argBest (fun i j => ltP (rws.getD i (0, 0)) (rws.getD j (0, 0))) ((ps.map Value.ref).toArray.size - 1) < rws.length := by omega
    have ev : v = .ref (ps.getD (argBest (fun i j => ltP (rws.getD i (0, 0)) (rws.getD j (0, 0))) ((ps.map Value.ref).toArray.size - 1)) 0) := by
      have hP' : (ps.map Value.ref)[argBest (fun i j => ltP (rws.getD i (0, 0)) (rws.getD j (0, 0))) ((ps.map Value.ref).toArray.size - 1)]? = some v := by
        have hP : (ps.map Value.ref).toArray[argBest (fun i j => ltP (rws.getD i (0, 0)) (rws.getD j (0, 0))) ((ps.map Value.ref).toArray.size - 1)]? = some v := hP
        rw [List.getElem?_toArray] at hP
        exact hP
      rw [List.getElem?_map, List.getElem?_eq_getElem (by omega)] at hP'
      rw [List.getD_eq_getElem?_getD, List.getElem?_eq_getElem (by omega)]
      exact (Option.some.inj hP').symm
    subst ev
    exact ⟨.ref (ps.getD (argBest (fun i j => ltP (rws.getD i (0, 0)) (rws.getD j (0, 0))) ((ps.map Value.ref).toArray.size - 1)) 0), H, I2, rfl, q _ il fun j hj => b2 j (by omega)⟩
end L2

/-! Own rules of the layer: a tuple of one item times an int from 0; x not in a list of dicts. -/
namespace L2
open PySem PySem.Spec PyProof.Rows
open AutoSeq1 (wpAny_loadPart')
theorem tmul_one (l : Addr) (items : Array Value) (n : Nat) (dd : Option Addr) (sl : Array (Option Value)) (u : Tok) :
    Meets (Builtin.«tuple.__mul__» ⟨[.ref l, .int 1 u], []⟩) (fun _ R s => s.heap.get? l = some { cls := .type "tuple", dict := dd, data := .seq items n, slots := sl } ∧ R (.ok (.ret (Value.ref l))) s) :=
  .of_wp fun prog w A R s h => by
    obtain ⟨hp, g, d, tk, os⟩ := s
    obtain ⟨hl, h⟩ := h
    have f1 := AutoSeq1.idx_int
    have c0 : (decide ((1 : Int) < -(2 ^ 63)) || decide ((1 : Int) ≥ 2 ^ 63)) = false := by decide
    have c1 : (items.isEmpty || (1 : Int) == 1) = true := by rw [show ((1 : Int) == 1) = true from rfl, Bool.or_true]
    wp_walk using wpAny_loadPart' hl
    exact ⟨_, rfl, h⟩
theorem tmul_zero (l : Addr) (items : Array Value) (n : Nat) (dd : Option Addr) (sl : Array (Option Value)) (u : Tok) (he : items.isEmpty = false) :
    Meets (Builtin.«tuple.__mul__» ⟨[.ref l, .int 0 u], []⟩) (fun _ R s => s.heap.get? l = some { cls := .type "tuple", dict := dd, data := .seq items n, slots := sl } ∧
      R (.ok (.ret (Value.ref s.heap.objs.size))) { s with heap := s.heap.push { cls := Value.type "tuple", data := Data.seq #[] }, toks := s.toks }) :=
  .of_wp fun prog w A R s h => by
    obtain ⟨hp, g, d, tk, os⟩ := s
    obtain ⟨hl, h⟩ := h
    have f1 := AutoSeq1.idx_int
    have c0 : (decide ((0 : Int) < -(2 ^ 63)) || decide ((0 : Int) ≥ 2 ^ 63)) = false := by decide
    have c1 : (items.isEmpty || (0 : Int) == 1) = false := by rw [he]; rfl
    have c2 : (decide ((0 : Int) ≤ 0) || items.isEmpty) = true := by rw [decide_eq_true (Int.le_refl 0)]; rfl
    wp_walk using wpAny_loadPart' hl
    repeat (first
      | (refine wpAny_ite_false (decide_eq_false (by rw [c1]; exact Bool.false_ne_true)) ?_; wp_walk using wpAny_loadPart' hl))
    exact ⟨_, rfl, h⟩

/-- a tuple of one item, times an int from 0: the tuple itself, or a new one -/
def rRepT1 (K : PySem.W.Frag) : R2 := fun x y H Q => ∃ l k v, x = .ref l ∧ y = .int k ∧ H l = some (.tup [v]) ∧ 0 ≤ k ∧ k ≤ 1000 ∧ ∀ p H1, (∀ b o, H b = some o → H1 b = some o) → H1 p = some (.tup (List.replicate k.toNat v)) → Q (.ref p) H1
theorem op_repT1 (K : PySem.W.Frag) {X : Cx} (hK : X.K = K) : OpR X (binaryOp .Mult) (rRepT1 K) := by
  subst hK
  intro pins s σ H x y v u Q I rx ry h
  obtain ⟨l, k, z, rfl, rfl, hT, h0, h1, q⟩ := h
  have new : ∀ p, H p = none → ∀ b o, H b = some o → (upd H p (.tup (List.replicate k.toNat z))) b = some o := fun p np b o e => by
    rw [upd_ne (ne_of_none e np)]
    exact e
  by_cases k2 : 2 ≤ k
  · refine op_repT pins s σ H _ _ v u Q I rx ry ⟨l, k, [z], rfl, rfl, SqT.of hT, by simp, k2, h1, by simp, fun p np => ?_⟩
    rw [List.flatten_replicate_singleton]
    exact q p _ (new p np) upd_same
  · cases rx
    obtain ⟨t, rfl⟩ := ry
    obtain ⟨its, r, ⟨⟨cls, dd, data, sl⟩, ho, hc, n, hd⟩, hs⟩ := I.tuple (SqT.of hT)
    simp only at hc hd
    subst hc hd
    by_cases k1 : k = 1
    · subst k1
      refine wpAny_binaryOp_repeat_ref (T := "tuple") (U := "int") (by decide) ⟨_, ho, rfl⟩ (fun s' => typeIs_int s' 1 t) noFill_tuple_mul F.fills_int_mul F.slot_int_rmul repeat_tuple F.slot_int_index.lookup
        (call_meets F.slot_int_rmul (typeIs_int s 1 t) F.entry_int_rmul (F.args_int_rmul_2 _ _) (int_rmul_tuple 1 t l its.toArray n dd sl)
          ⟨ho, rfl, ⟨_, ho, rfl⟩, call_meets F.slot_tuple_mul ⟨_, ho, rfl⟩ F.entry_tuple_mul (F.args_tuple_mul_2 _ _) (tmul_one l its.toArray n dd sl t) ⟨ho, ?_⟩⟩)
      exact ⟨.ref l, H, I, rfl, q l H (fun _ _ e => e) hT⟩
    · have k0 : k = 0 := by omega
      subst k0
      have hne : its.toArray.isEmpty = false := by
        have := r.length
        cases its with
        | nil => simp at this
        | cons a b => rfl
      refine wpAny_binaryOp_repeat_ref (T := "tuple") (U := "int") (by decide) ⟨_, ho, rfl⟩ (fun s' => typeIs_int s' 0 t) noFill_tuple_mul F.fills_int_mul F.slot_int_rmul repeat_tuple F.slot_int_index.lookup
        (call_meets F.slot_int_rmul (typeIs_int s 0 t) F.entry_int_rmul (F.args_int_rmul_2 _ _) (int_rmul_tuple 0 t l its.toArray n dd sl)
          ⟨ho, rfl, ⟨_, ho, rfl⟩, call_meets F.slot_tuple_mul ⟨_, ho, rfl⟩ F.entry_tuple_mul (F.args_tuple_mul_2 _ _) (tmul_zero l its.toArray n dd sl t hne) ⟨ho, ?_⟩⟩)
      have np : H s.heap.objs.size = none := I.hok.fresh (Nat.le_refl _)
      refine ⟨.ref s.heap.objs.size, _, I.laid (t' := s.toks) (o := .tup []) (fun b ob q => Heap.get?_push_of_some _ q) (Nat.le_refl _) ?_, rfl, q _ _ (new _ np) upd_same⟩
      exact ⟨Nat.zero_le _, [], .nil, IsTup.new _ _⟩

/-! ### x not in a list of dicts -/
section
open MeetsSeq MeetsSeq2 MeetsSeq3 SeqRoads2 SeqAt
variable {prog : Program} {w : World}
theorem containsP_loop (l : Addr) (items : Array Value) (n : Nat) (dd : Option Addr) (sl : Array (Option Value)) (x : Value) (e : Value → Bool) (k : Nat) :
    ∀ i : Nat, items.size - i = k → MeetsIn prog w (Builtin.«list.__contains__.loop» ⟨[.ref l, x, rawInt i], []⟩)
      (fun A R s => s.heap.get? l = some { cls := .type "list", dict := dd, data := .seq items n, slots := sl } ∧ (∀ y, y ∈ items → EqP prog w A.in1 s y x (e y)) ∧ R (.ok (.ret (.bool ((items.toList.drop i).any e)))) s) := by
  induction k with
  | zero =>
    intro i hk A R s h
    obtain ⟨hp, g, d, tk, os⟩ := s; obtain ⟨hl, he, h⟩ := h
    wp_walk using wpAny_loadPart' hl
    have z1 : items[((i : Nat) : Int).toNat]? = none := by simp; omega
    have z2 : items.toList.drop i = [] := by simp; omega
    rw [z2] at h
    rw [z1]
    wp_walk
    exact h
  | succ k ih =>
    intro i hk A R s h
    obtain ⟨hp, g, d, tk, os⟩ := s; obtain ⟨hl, he, h⟩ := h
    wp_walk using wpAny_loadPart' hl
    have hlt : i < items.size := by omega
    have z1 : items[((i : Nat) : Int).toNat]? = some items[i] := by simp [hlt]
    have z2 : items.toList.drop i = items[i] :: items.toList.drop (i + 1) := by simp [List.drop_eq_getElem_cons, hlt]
    rw [z2, List.any_cons] at h
    rw [z1]
    refine wpAny_bind (he _ (Array.getElem_mem hlt) _ _ ?_)
    cases hb : e items[i] with
    | true =>
      rw [hb] at h
      wp_walk
      exact h
    | false =>
      rw [hb] at h
      have hc : ((i : Int) + 1) = ((i + 1 : Nat) : Int) := by push_cast; rfl
      wp_walk
      rw [hc]
      exact ⟨plainId_quiet plain_contains_loop _, codeAny_builtin entry_contains_loop (by
        rw [Around.under_plainId plain_contains_loop _]
        exact ih (i + 1) (by omega) A R _ ⟨hl, he, by simpa using h⟩)⟩
theorem containsP (l : Addr) (items : Array Value) (n : Nat) (dd : Option Addr) (sl : Array (Option Value)) (x : Value) (e : Value → Bool) :
    MeetsIn prog w (Builtin.«list.__contains__» ⟨[.ref l, x], []⟩)
      (fun A R s => s.heap.get? l = some { cls := .type "list", dict := dd, data := .seq items n, slots := sl } ∧ (∀ y, y ∈ items → EqP prog w A.in1 s y x (e y)) ∧ R (.ok (.ret (.bool (items.any e)))) s) := by
  intro A R s h
  obtain ⟨hp, g, d, tk, os⟩ := s; obtain ⟨hl, he, h⟩ := h
  wp_walk using wpAny_loadPart' hl
  exact ⟨plainId_quiet plain_contains_loop _, codeAny_builtin entry_contains_loop (by
    rw [Around.under_plainId plain_contains_loop _]
    exact containsP_loop l items n dd sl x e _ 0 rfl A R _ ⟨hl, he, by simpa using h⟩)⟩
theorem notInP {A : Around} {E : Value → Shared → Prop} {s : Shared} {l : Addr} {items : Array Value} {x : Value} {Q : Value → Shared → Prop} (e : Value → Bool) (hl : s.heap.IsList l items) (he : ∀ y, y ∈ items → EqP prog w A.in1 s y x (e y))
    (h : Q (.bool (!items.any e)) s) : wpAny (model prog w) A (compareOp .NotIn x (.ref l)) Q E s := by
  obtain ⟨⟨cls, dd, data, sl⟩, ho, hc, n, hd⟩ := id hl
  simp only at hc hd
  subst hc hd
  have ta : s.TypeIs (.ref l) "list" := ⟨_, ho, rfl⟩
  show wpAny _ A (do return .bool (!(← contains (.ref l) x))) Q E s
  refine wpAny_bind (wpAny_contains_slot ta F.slot_list_contains (wpAny_mono (call_meetsIn (Q := fun v s' => ∃ b, v = .bool b ∧ Q (.bool (!b)) s') F.slot_list_contains ta F.entry_list_contains (F.args_list_contains_2 _ _) (containsP l items n dd sl x e) ⟨ho, he, _, rfl, h⟩) (fun v s' hv => ?_) fun _ _ e => e))
  obtain ⟨b, rfl, hq⟩ := hv
  exact wpAny_truthy_bool (wpAny_pure hq)
end
def AllInt (ks : List (Key × V)) : Prop := ∀ p ∈ ks, ∃ i : Int, p.2 = .int i
def rowB (ks ls : List (Key × V)) : Bool := ks.all fun p => decide (valV ls p.1 = some p.2)
theorem rows_hits {P : Program} {w : World} {A : Around} {s : Shared} {ls : List (Key × V)} {vb : List (Key × Value)} (rb : KV ls vb) (bi : AllInt ls) {ks : List (Key × V)} {va : List (Key × Value)}
    (ra : KV ks va) : AllInt ks → PySem.W.KeqHitsP P w A s vb va (rowB ks ls) := by
  unfold KV at ra
  induction ra with
  | nil => intro _; exact .nil
  | @cons p q ps qs h t k =>
    intro ai
    obtain ⟨h1, h2⟩ := h
    obtain ⟨key, v⟩ := q
    obtain ⟨pk, pv⟩ := p
    have h1' : pk = key := h1
    subst h1'
    obtain ⟨i, ei⟩ := ai _ List.mem_cons_self
    have ei : pv = .int i := ei
    subst ei
    obtain ⟨t1, ev⟩ : ∃ t1, v = Value.int i t1 := h2
    subst ev
    have rr : RelO (valV ls pk) (valueAt vb pk) := rb.val pk
    have rest := k fun p' hm => ai p' (List.mem_cons_of_mem _ hm)
    unfold rowB
    rw [List.all_cons]
    cases hv : valV ls pk with
    | none =>
      rw [hv] at rr
      cases hw : valueAt vb pk with
      | none =>
        rw [decide_eq_false (fun z => by cases z), Bool.false_and]
        exact .miss hw
      | some y => rw [hw] at rr; exact rr.elim
    | some u =>
      rw [hv] at rr
      obtain ⟨y, hw, ry⟩ := rr.some_of
      obtain ⟨m, em, eu⟩ : ∃ m, m ∈ ls ∧ m.2 = u := by
        obtain ⟨m, hm, e⟩ := Option.map_eq_some_iff.mp hv
        exact ⟨m, List.mem_of_find?_eq_some hm, e⟩
      obtain ⟨j, ej⟩ := bi m em
      rw [eu] at ej
      subst ej
      obtain ⟨t2, ey⟩ : ∃ t2, y = Value.int j t2 := ry
      subst ey
      refine .hit hw ?_ rest
      have z : decide (some (V.int j) = some (V.int i)) = (i == j) := by
        by_cases e : i = j
        · subst e; simp
        · rw [decide_eq_false (fun q => e (V.int.inj (Option.some.inj q)).symm)]
          exact (beq_eq_false_iff_ne.mpr e).symm
      show SeqAt.EqP P w A s (.int i t1) (.int j t2) (decide (some (V.int j) = some (V.int i)))
      rw [z]
      exact (SeqAt.EqAt.int_int _ _ _ _).eqP
/-- contained: some row of the list is of the same pairs -/
def rNiRows : R2 := fun x y H Q => ∃ (a : Addr) (ka : List (Key × V)) (l : Addr) (ps : List Addr), x = .ref a ∧ H a = some (.dK ka) ∧ y = .ref l ∧ H l = some (.lst (ps.map V.ref)) ∧ AllInt ka ∧ (∀ p ∈ ps, p ≠ a ∧ ∃ kb, H p = some (.dK kb) ∧ AllInt kb) ∧
  ∀ b : Bool, (b = true → ∃ p ∈ ps, ∃ kb, H p = some (.dK kb) ∧ kb.length = ka.length ∧ ∀ q ∈ kb, valV ka q.1 = some q.2) → Q (.bl (!b)) H
open Classical in
theorem op_niRows {X : Cx} (hu : X.A.units + 64 < cLine) : OpR X (compareOp .NotIn) rNiRows := by
  intro pins s σ H x y v u Q I rx ry h
  obtain ⟨a, ka, l, ps, rfl, ha, rfl, hl, ai, hp, q⟩ := h
  cases rx
  cases ry
  obtain ⟨its, rv, pl, _⟩ := I.list (SqL.of hl)
  have ei := refs_vals rv
  subst ei
  obtain ⟨_, ya, va, ra, da⟩ := (show ObjOk X.prog X.w H s.heap a (.dK ka) from I.hok a _ ha)
  refine notInP (fun v => decide (∃ p ∈ ps, v = .ref p ∧ ∃ kb, H p = some (.dK kb) ∧ (kb.length == ka.length && rowB kb ka) = true)) pl.isList (fun y hy => ?_) ⟨.bl _, H, I, rfl, q _ fun hb => ?_⟩
  · obtain ⟨p, hm, rfl⟩ : ∃ p ∈ ps, Value.ref p = y := by simpa using hy
    obtain ⟨ne, kb, hk, bi⟩ := hp p hm
    obtain ⟨_, yb, vb, rb, db⟩ := (show ObjOk X.prog X.w H s.heap p (.dK kb) from I.hok p _ hk)
    have e : decide (∃ p' ∈ ps, Value.ref p = .ref p' ∧ ∃ kb, H p' = some (.dK kb) ∧ (kb.length == ka.length && rowB kb ka) = true) = (kb.length == ka.length && rowB kb ka) := by
      cases z : (kb.length == ka.length && rowB kb ka) with
      | true => exact decide_eq_true ⟨p, hm, rfl, kb, hk, z⟩
      | false =>
        refine decide_eq_false fun ⟨p', _, e1, kb', e2, e3⟩ => ?_
        cases e1
        rw [hk] at e2
        cases e2
        rw [z] at e3
        cases e3
    rw [e]
    refine SeqAt.eqP_refs ne fun E2 Q2 h2 => ?_
    refine PySem.W.rcP_dicts (knd := mixKind X.prog X.w) (r := rowB kb ka) yb ya db da (by show X.A.units + 1 < cLine; omega) (fun _ => rows_hits ra ai rb bi) E2 Q2 ?_
    have e : vb.length = kb.length := rb.length.symm
    have e2 : va.length = ka.length := ra.length.symm
    rw [e, e2]
    exact h2
  · have hb : ((ps.map Value.ref).any fun v => decide (∃ p ∈ ps, v = .ref p ∧ ∃ kb, H p = some (.dK kb) ∧ (kb.length == ka.length && rowB kb ka) = true)) = true := by rw [← List.any_toArray]; exact hb
    obtain ⟨v, hv, hd⟩ := List.any_eq_true.mp hb
    obtain ⟨p, hm, _, kb, hk, e⟩ := of_decide_eq_true hd
    obtain ⟨e1, e2⟩ := Bool.and_eq_true_iff.mp e
    exact ⟨p, hm, kb, hk, of_decide_eq_true e1, fun z hz => of_decide_eq_true (List.all_eq_true.mp e2 z hz)⟩
end L2

/-! The text by places, the defs, named rules. -/
namespace TW
open PySem L2
/-! ### the text -/
def topS (i : Nat) : Stmt := PySem.Challenge.pw_truelevels_k37_report_is_told.main.body.getD i (.Pass ⟨0, 0, 0, 0⟩)
abbrev s_miss_of : Stmt := topS 1
abbrev s_misses : Stmt := topS 2
abbrev s_cost : Stmt := topS 3
abbrev s_sign : Stmt := topS 5
abbrev s_init : Stmt := inClass (topS 6) 0
abbrev s_excess : Stmt := inClass (topS 6) 1
abbrev s_steps : Stmt := inClass (topS 6) 2
abbrev s_shortest : Stmt := inClass (topS 6) 3
abbrev s_push : Stmt := inClass (topS 6) 4
abbrev s_run : Stmt := inClass (topS 6) 5
abbrev s_adjusted : Stmt := topS 7
abbrev s_best_paper : Stmt := topS 8
abbrev s_search : Stmt := topS 10
abbrev s_greatest_flow : Stmt := topS 11
abbrev s_next_reading : Stmt := topS 12
abbrev s_ways_of : Stmt := topS 13
abbrev s_side_of : Stmt := topS 14
abbrev s_least_cut : Stmt := topS 15
abbrev s_strength_paper : Stmt := topS 16
abbrev s_strength : Stmt := topS 17
abbrev s_bounds : Stmt := topS 19
abbrev s_greatest : Stmt := topS 20
abbrev s_spans : Stmt := topS 21
abbrev s_most_lies : Stmt := topS 23
abbrev s_mark_lines : Stmt := topS 25
abbrev s_reading_lines : Stmt := topS 26
abbrev s_strength_lines : Stmt := topS 27
abbrev s_report : Stmt := topS 28
abbrev s_law_cell : Stmt := topS 30
abbrev s_law_digits : Stmt := topS 31
abbrev s_law_draw : Stmt := topS 32
abbrev s_law_pick : Stmt := topS 33
abbrev s_law_pairs : Stmt := topS 34
abbrev s_law_heights : Stmt := topS 35
abbrev s_law_names : Stmt := topS 36
abbrev s_law_kept_net : Stmt := topS 37
abbrev s_law_changed : Stmt := topS 38
abbrev s_law_some : Stmt := topS 39
abbrev s_law_lied : Stmt := topS 40
abbrev s_law_net : Stmt := topS 41
abbrev s_law_sides : Stmt := topS 42
abbrev s_law_cut : Stmt := topS 43
abbrev s_law_strength : Stmt := topS 44
abbrev s_law_misses : Stmt := topS 45
abbrev s_law_cost : Stmt := topS 46
abbrev s_law_any_net : Stmt := topS 47
abbrev s_law_vertices : Stmt := topS 48
abbrev s_law_all_best : Stmt := topS 49
abbrev s_law_mark_line : Stmt := topS 50
abbrev s_law : Stmt := topS 51
theorem sc_miss_of : FnScope ["reading", "heights"] ["reading", "heights"] (defScope s_miss_of) := ⟨rfl, rfl, rfl, by decide +kernel, rfl, by decide +kernel, by decide +kernel⟩
theorem sc_misses : FnScope ["net", "heights", "reading"] ["net", "heights"] (defScope s_misses) := ⟨rfl, rfl, rfl, by decide +kernel, rfl, by decide +kernel, by decide +kernel⟩
theorem sc_cost : FnScope ["net", "heights", "miss"] ["net", "heights"] (defScope s_cost) := ⟨rfl, rfl, rfl, by decide +kernel, rfl, by decide +kernel, by decide +kernel⟩
theorem sc_sign : FnScope ["n"] ["n"] (defScope s_sign) := ⟨rfl, rfl, rfl, by decide +kernel, rfl, by decide +kernel, by decide +kernel⟩
theorem sc_init : FnScope ["self", "net", "weights", "weight", "reading"] ["self", "net", "weights"] (defScope s_init) := ⟨rfl, rfl, rfl, by decide +kernel, rfl, by decide +kernel, by decide +kernel⟩
theorem sc_excess : FnScope ["self", "found", "index", "reading"] ["self"] (defScope s_excess) := ⟨rfl, rfl, rfl, by decide +kernel, rfl, by decide +kernel, by decide +kernel⟩
theorem sc_steps : FnScope ["self", "found", "told", "index", "reading"] ["self"] (defScope s_steps) := ⟨rfl, rfl, rfl, by decide +kernel, rfl, by decide +kernel, by decide +kernel⟩
theorem sc_shortest : FnScope ["self", "start", "costs", "last", "steps", "changed", "step", "total"] ["self", "start"] (defScope s_shortest) := ⟨rfl, rfl, rfl, by decide +kernel, rfl, by decide +kernel, by decide +kernel⟩
theorem sc_push : FnScope ["self", "start", "excess", "costs", "last", "ends", "most", "mark", "other", "path", "many", "step"] ["self", "start", "excess"] (defScope s_push) := ⟨rfl, rfl, rfl, by decide +kernel, rfl, by decide +kernel, by decide +kernel⟩
theorem sc_run : FnScope ["self", "excess"] ["self"] (defScope s_run) := ⟨rfl, rfl, rfl, by decide +kernel, rfl, by decide +kernel, by decide +kernel⟩
theorem sc_adjusted : FnScope ["net", "weights", "search", "heights", "height"] ["net", "weights"] (defScope s_adjusted) := ⟨rfl, rfl, rfl, by decide +kernel, rfl, by decide +kernel, by decide +kernel⟩
theorem sc_best_paper : FnScope ["net"] ["net"] (defScope s_best_paper) := ⟨rfl, rfl, rfl, by decide +kernel, rfl, by decide +kernel, by decide +kernel⟩
theorem sc_search : FnScope ["net", "flow", "start", "last", "queue", "mark", "index", "reading", "one", "other", "_"] ["net", "flow", "start"] (defScope s_search) := ⟨rfl, rfl, rfl, by decide +kernel, rfl, by decide +kernel, by decide +kernel⟩
theorem sc_greatest_flow : FnScope ["net", "start", "end", "flow", "last", "mark", "before", "index", "by"] ["net", "start", "end"] (defScope s_greatest_flow) := ⟨rfl, rfl, rfl, by decide +kernel, rfl, by decide +kernel, by decide +kernel⟩
theorem sc_next_reading : FnScope ["net", "flow", "mark", "index", "reading"] ["net", "flow", "mark"] (defScope s_next_reading) := ⟨rfl, rfl, rfl, by decide +kernel, rfl, by decide +kernel, by decide +kernel⟩
theorem sc_ways_of : FnScope ["net", "flow", "start", "end", "ways", "mark", "way", "index", "one", "other", "_"] ["net", "flow", "start", "end"] (defScope s_ways_of) := ⟨rfl, rfl, rfl, by decide +kernel, rfl, by decide +kernel, by decide +kernel⟩
theorem sc_side_of : FnScope ["net", "flow", "start", "last", "there", "mark"] ["net", "flow", "start"] (defScope s_side_of) := ⟨rfl, rfl, rfl, by decide +kernel, rfl, by decide +kernel, by decide +kernel⟩
theorem sc_least_cut : FnScope ["net", "one", "other", "flow"] ["net", "one", "other"] (defScope s_least_cut) := ⟨rfl, rfl, rfl, by decide +kernel, rfl, by decide +kernel, by decide +kernel⟩
theorem sc_strength_paper : FnScope ["net", "cuts", "least", "place", "mark", "cut"] ["net"] (defScope s_strength_paper) := ⟨rfl, rfl, rfl, by decide +kernel, rfl, by decide +kernel, by decide +kernel⟩
theorem sc_strength : FnScope ["net"] ["net"] (defScope s_strength) := ⟨rfl, rfl, rfl, by decide +kernel, rfl, by decide +kernel, by decide +kernel⟩
theorem sc_bounds : FnScope ["net", "flow", "found", "reading", "unit"] ["net", "flow"] (defScope s_bounds) := ⟨rfl, rfl, rfl, by decide +kernel, rfl, by decide +kernel, by decide +kernel⟩
theorem sc_greatest : FnScope ["many", "steps", "heights", "changed", "one", "other", "most"] ["many", "steps"] (defScope s_greatest) := ⟨rfl, rfl, rfl, by decide +kernel, rfl, by decide +kernel, by decide +kernel⟩
theorem sc_spans : FnScope ["net", "steps", "high", "low", "one", "other", "most", "least"] ["net"] (defScope s_spans) := ⟨rfl, rfl, rfl, by decide +kernel, rfl, by decide +kernel, by decide +kernel⟩
theorem sc_most_lies : FnScope ["net"] ["net"] (defScope s_most_lies) := ⟨rfl, rfl, rfl, by decide +kernel, rfl, by decide +kernel, by decide +kernel⟩
theorem sc_mark_lines : FnScope ["net", "heights", "lines", "told", "k", "line"] ["net", "heights"] (defScope s_mark_lines) := ⟨rfl, rfl, rfl, by decide +kernel, rfl, by decide +kernel, by decide +kernel⟩
theorem sc_reading_lines : FnScope ["net", "heights", "lines", "reading", "miss", "line"] ["net", "heights"] (defScope s_reading_lines) := ⟨rfl, rfl, rfl, by decide +kernel, rfl, by decide +kernel, by decide +kernel⟩
theorem sc_strength_lines : FnScope ["net"] ["net"] (defScope s_strength_lines) := ⟨rfl, rfl, rfl, by decide +kernel, rfl, by decide +kernel, by decide +kernel⟩
theorem sc_report : FnScope ["net", "heights", "lines", "line"] ["net"] (defScope s_report) := ⟨rfl, rfl, rfl, by decide +kernel, rfl, by decide +kernel, by decide +kernel⟩
theorem sc_law_cell : FnScope ["_law_script", "_law_k"] ["_law_script", "_law_k"] (defScope s_law_cell) := ⟨rfl, rfl, rfl, by decide +kernel, rfl, by decide +kernel, by decide +kernel⟩
theorem sc_law_digits : FnScope ["_law_script", "_law_first", "_law_last", "_law_digits_here", "_law_k", "_law_cell_here", "_law_turn", "_law_seed"] ["_law_script", "_law_first", "_law_last"] (defScope s_law_digits) := ⟨rfl, rfl, rfl, by decide +kernel, rfl, by decide +kernel, by decide +kernel⟩
theorem sc_law_draw : FnScope ["_law_box", "_law_many", "_law_at"] ["_law_box", "_law_many"] (defScope s_law_draw) := ⟨rfl, rfl, rfl, by decide +kernel, rfl, by decide +kernel, by decide +kernel⟩
theorem sc_law_pick : FnScope ["_law_box", "_law_things"] ["_law_box", "_law_things"] (defScope s_law_pick) := ⟨rfl, rfl, rfl, by decide +kernel, rfl, by decide +kernel, by decide +kernel⟩
theorem sc_law_pairs : FnScope ["_law_box", "_law_many", "_law_extra", "_law_pairs_here", "_law_mark", "_law_other", "_law_turn", "_law_start", "_law_end"] ["_law_box", "_law_many", "_law_extra"] (defScope s_law_pairs) := ⟨rfl, rfl, rfl, by decide +kernel, rfl, by decide +kernel, by decide +kernel⟩
theorem sc_law_heights : FnScope ["_law_box", "_law_many", "_law_k"] ["_law_box", "_law_many"] (defScope s_law_heights) := ⟨rfl, rfl, rfl, by decide +kernel, rfl, by decide +kernel, by decide +kernel⟩
theorem sc_law_names : FnScope ["_law_many", "_law_k"] ["_law_many"] (defScope s_law_names) := ⟨rfl, rfl, rfl, by decide +kernel, rfl, by decide +kernel, by decide +kernel⟩
theorem sc_law_kept_net : FnScope ["_law_pairs_here", "_law_heights_here", "_law_readings", "_law_a", "_law_b"] ["_law_pairs_here", "_law_heights_here"] (defScope s_law_kept_net) := ⟨rfl, rfl, rfl, by decide +kernel, rfl, by decide +kernel, by decide +kernel⟩
theorem sc_law_changed : FnScope ["_law_net_here", "_law_rows", "_law_readings", "_law_index", "_law_more", "_law_a", "_law_b", "_law_value"] ["_law_net_here", "_law_rows"] (defScope s_law_changed) := ⟨rfl, rfl, rfl, by decide +kernel, rfl, by decide +kernel, by decide +kernel⟩
theorem sc_law_some : FnScope ["_law_box", "_law_many", "_law_most", "_law_found", "_law_turn", "_law_index"] ["_law_box", "_law_many", "_law_most"] (defScope s_law_some) := ⟨rfl, rfl, rfl, by decide +kernel, rfl, by decide +kernel, by decide +kernel⟩
theorem sc_law_lied : FnScope ["_law_box", "_law_net_here", "_law_most", "_law_rows", "_law_index"] ["_law_box", "_law_net_here", "_law_most"] (defScope s_law_lied) := ⟨rfl, rfl, rfl, by decide +kernel, rfl, by decide +kernel, by decide +kernel⟩
theorem sc_law_net : FnScope ["_law_box", "_law_most_marks", "_law_most_extra", "_law_many", "_law_pairs_here", "_law_net_here"] ["_law_box", "_law_most_marks", "_law_most_extra"] (defScope s_law_net) := ⟨rfl, rfl, rfl, by decide +kernel, rfl, by decide +kernel, by decide +kernel⟩
theorem sc_law_sides : FnScope ["_law_many", "_law_sides_here", "_law_mark", "_law_side"] ["_law_many"] (defScope s_law_sides) := ⟨rfl, rfl, rfl, by decide +kernel, rfl, by decide +kernel, by decide +kernel⟩
theorem sc_law_cut : FnScope ["_law_net_here", "_law_side", "_law_k"] ["_law_net_here", "_law_side"] (defScope s_law_cut) := ⟨rfl, rfl, rfl, by decide +kernel, rfl, by decide +kernel, by decide +kernel⟩
theorem sc_law_strength : FnScope ["_law_net_here", "_law_side"] ["_law_net_here"] (defScope s_law_strength) := ⟨rfl, rfl, rfl, by decide +kernel, rfl, by decide +kernel, by decide +kernel⟩
theorem sc_law_misses : FnScope ["_law_net_here", "_law_heights_here", "_law_a", "_law_b", "_law_value"] ["_law_net_here", "_law_heights_here"] (defScope s_law_misses) := ⟨rfl, rfl, rfl, by decide +kernel, rfl, by decide +kernel, by decide +kernel⟩
theorem sc_law_cost : FnScope ["_law_net_here", "_law_heights_here", "_law_miss"] ["_law_net_here", "_law_heights_here"] (defScope s_law_cost) := ⟨rfl, rfl, rfl, by decide +kernel, rfl, by decide +kernel, by decide +kernel⟩
theorem sc_law_any_net : FnScope ["_law_box", "_law_most_marks", "_law_most_extra"] ["_law_box", "_law_most_marks", "_law_most_extra"] (defScope s_law_any_net) := ⟨rfl, rfl, rfl, by decide +kernel, rfl, by decide +kernel, by decide +kernel⟩
theorem sc_law_vertices : FnScope ["_law_net_here", "_law_rows", "_law_turn", "_law_more", "_law_row", "_law_a", "_law_b", "_law_value", "_law_grown", "_law_mark"] ["_law_net_here"] (defScope s_law_vertices) := ⟨rfl, rfl, rfl, by decide +kernel, rfl, by decide +kernel, by decide +kernel⟩
theorem sc_law_all_best : FnScope ["_law_net_here", "_law_rows", "_law_least", "_law_heights_here"] ["_law_net_here"] (defScope s_law_all_best) := ⟨rfl, rfl, rfl, by decide +kernel, rfl, by decide +kernel, by decide +kernel⟩
theorem sc_law_mark_line : FnScope ["_law_net_here", "_law_heights_here", "_law_best", "_law_mark", "_law_line", "_law_least", "_law_most", "_law_row"] ["_law_net_here", "_law_heights_here", "_law_best", "_law_mark"] (defScope s_law_mark_line) := ⟨rfl, rfl, rfl, by decide +kernel, rfl, by decide +kernel, by decide +kernel⟩
theorem sc_law : FnScope ["_law_script", "_law_box", "_law_turn", "_law_net_here", "_law_heights_here", "_law_best", "_law_cost_here", "_law_lines", "_law_misses_here", "_law_index", "_law_a", "_law_b", "_law_value", "_law_line", "_law_mark"] ["_law_script"] (defScope s_law) := ⟨rfl, rfl, rfl, by decide +kernel, rfl, by decide +kernel, by decide +kernel⟩
structure All (K : PySem.W.Frag) (mg : Str → Option Value) where
  C : Addr
  gS : mg "Search" = some (.ref C)
  cl : Cls K C
  a_init : Addr
  d_init : FuncData
  mkS : Mk K C a_init
  n_net : NoAttr K C "net"
  n_weights : NoAttr K C "weights"
  n_many : NoAttr K C "many"
  n_heights : NoAttr K C "heights"
  n_flow : NoAttr K C "flow"
  z_len : mg "len" = none
  z_abs : mg "abs" = none
  z_sum : mg "sum" = none
  z_sorted : mg "sorted" = none
  z_min : mg "min" = none
  z_max : mg "max" = none
  z_int : mg "int" = none
  z_str : mg "str" = none
  z_list : mg "list" = none
  z_tuple : mg "tuple" = none
  z_dict : mg "dict" = none
  z_range : mg "range" = none
  z_enumerate : mg "enumerate" = none
  z_zip : mg "zip" = none
  a_miss_of : Addr
  d_miss_of : FuncData
  F_miss_of : Fun K "miss_of" "miss_of" s_miss_of a_miss_of d_miss_of
  b_miss_of : Binds K d_miss_of ["reading", "heights"] []
  g_miss_of : mg "miss_of" = some (.ref a_miss_of)
  a_misses : Addr
  d_misses : FuncData
  F_misses : Fun K "misses" "misses" s_misses a_misses d_misses
  b_misses : Binds K d_misses ["net", "heights"] []
  g_misses : mg "misses" = some (.ref a_misses)
  a_cost : Addr
  d_cost : FuncData
  F_cost : Fun K "cost" "cost" s_cost a_cost d_cost
  b_cost : Binds K d_cost ["net", "heights"] []
  g_cost : mg "cost" = some (.ref a_cost)
  a_sign : Addr
  d_sign : FuncData
  F_sign : Fun K "sign" "sign" s_sign a_sign d_sign
  b_sign : Binds K d_sign ["n"] []
  g_sign : mg "sign" = some (.ref a_sign)
  F_init : Fun K "__init__" "Search.__init__" s_init a_init d_init
  b_init : Binds K d_init ["self", "net", "weights"] []
  a_excess : Addr
  d_excess : FuncData
  F_excess : Fun K "excess" "Search.excess" s_excess a_excess d_excess
  b_excess : Binds K d_excess ["self"] []
  m_excess : Meth K C "excess" a_excess
  a_steps : Addr
  d_steps : FuncData
  F_steps : Fun K "steps" "Search.steps" s_steps a_steps d_steps
  b_steps : Binds K d_steps ["self"] []
  m_steps : Meth K C "steps" a_steps
  a_shortest : Addr
  d_shortest : FuncData
  F_shortest : Fun K "shortest" "Search.shortest" s_shortest a_shortest d_shortest
  b_shortest : Binds K d_shortest ["self", "start"] []
  m_shortest : Meth K C "shortest" a_shortest
  a_push : Addr
  d_push : FuncData
  F_push : Fun K "push" "Search.push" s_push a_push d_push
  b_push : Binds K d_push ["self", "start", "excess"] []
  m_push : Meth K C "push" a_push
  a_run : Addr
  d_run : FuncData
  F_run : Fun K "run" "Search.run" s_run a_run d_run
  b_run : Binds K d_run ["self"] []
  m_run : Meth K C "run" a_run
  a_adjusted : Addr
  d_adjusted : FuncData
  F_adjusted : Fun K "adjusted" "adjusted" s_adjusted a_adjusted d_adjusted
  b_adjusted : Binds K d_adjusted ["net", "weights"] []
  g_adjusted : mg "adjusted" = some (.ref a_adjusted)
  a_best_paper : Addr
  d_best_paper : FuncData
  F_best_paper : Fun K "best_paper" "best_paper" s_best_paper a_best_paper d_best_paper
  b_best_paper : Binds K d_best_paper ["net"] []
  g_best_paper : mg "best_paper" = some (.ref a_best_paper)
  a_search : Addr
  d_search : FuncData
  F_search : Fun K "search" "search" s_search a_search d_search
  b_search : Binds K d_search ["net", "flow", "start"] []
  g_search : mg "search" = some (.ref a_search)
  a_greatest_flow : Addr
  d_greatest_flow : FuncData
  F_greatest_flow : Fun K "greatest_flow" "greatest_flow" s_greatest_flow a_greatest_flow d_greatest_flow
  b_greatest_flow : Binds K d_greatest_flow ["net", "start", "end"] []
  g_greatest_flow : mg "greatest_flow" = some (.ref a_greatest_flow)
  a_next_reading : Addr
  d_next_reading : FuncData
  F_next_reading : Fun K "next_reading" "next_reading" s_next_reading a_next_reading d_next_reading
  b_next_reading : Binds K d_next_reading ["net", "flow", "mark"] []
  g_next_reading : mg "next_reading" = some (.ref a_next_reading)
  a_ways_of : Addr
  d_ways_of : FuncData
  F_ways_of : Fun K "ways_of" "ways_of" s_ways_of a_ways_of d_ways_of
  b_ways_of : Binds K d_ways_of ["net", "flow", "start", "end"] []
  g_ways_of : mg "ways_of" = some (.ref a_ways_of)
  a_side_of : Addr
  d_side_of : FuncData
  F_side_of : Fun K "side_of" "side_of" s_side_of a_side_of d_side_of
  b_side_of : Binds K d_side_of ["net", "flow", "start"] []
  g_side_of : mg "side_of" = some (.ref a_side_of)
  a_least_cut : Addr
  d_least_cut : FuncData
  F_least_cut : Fun K "least_cut" "least_cut" s_least_cut a_least_cut d_least_cut
  b_least_cut : Binds K d_least_cut ["net", "one", "other"] []
  g_least_cut : mg "least_cut" = some (.ref a_least_cut)
  a_strength_paper : Addr
  d_strength_paper : FuncData
  F_strength_paper : Fun K "strength_paper" "strength_paper" s_strength_paper a_strength_paper d_strength_paper
  b_strength_paper : Binds K d_strength_paper ["net"] []
  g_strength_paper : mg "strength_paper" = some (.ref a_strength_paper)
  a_strength : Addr
  d_strength : FuncData
  F_strength : Fun K "strength" "strength" s_strength a_strength d_strength
  b_strength : Binds K d_strength ["net"] []
  g_strength : mg "strength" = some (.ref a_strength)
  a_bounds : Addr
  d_bounds : FuncData
  F_bounds : Fun K "bounds" "bounds" s_bounds a_bounds d_bounds
  b_bounds : Binds K d_bounds ["net", "flow"] []
  g_bounds : mg "bounds" = some (.ref a_bounds)
  a_greatest : Addr
  d_greatest : FuncData
  F_greatest : Fun K "greatest" "greatest" s_greatest a_greatest d_greatest
  b_greatest : Binds K d_greatest ["many", "steps"] []
  g_greatest : mg "greatest" = some (.ref a_greatest)
  a_spans : Addr
  d_spans : FuncData
  F_spans : Fun K "spans" "spans" s_spans a_spans d_spans
  b_spans : Binds K d_spans ["net"] []
  g_spans : mg "spans" = some (.ref a_spans)
  a_most_lies : Addr
  d_most_lies : FuncData
  F_most_lies : Fun K "most_lies" "most_lies" s_most_lies a_most_lies d_most_lies
  b_most_lies : Binds K d_most_lies ["net"] []
  g_most_lies : mg "most_lies" = some (.ref a_most_lies)
  a_mark_lines : Addr
  d_mark_lines : FuncData
  F_mark_lines : Fun K "mark_lines" "mark_lines" s_mark_lines a_mark_lines d_mark_lines
  b_mark_lines : Binds K d_mark_lines ["net", "heights"] []
  g_mark_lines : mg "mark_lines" = some (.ref a_mark_lines)
  a_reading_lines : Addr
  d_reading_lines : FuncData
  F_reading_lines : Fun K "reading_lines" "reading_lines" s_reading_lines a_reading_lines d_reading_lines
  b_reading_lines : Binds K d_reading_lines ["net", "heights"] []
  g_reading_lines : mg "reading_lines" = some (.ref a_reading_lines)
  a_strength_lines : Addr
  d_strength_lines : FuncData
  F_strength_lines : Fun K "strength_lines" "strength_lines" s_strength_lines a_strength_lines d_strength_lines
  b_strength_lines : Binds K d_strength_lines ["net"] []
  g_strength_lines : mg "strength_lines" = some (.ref a_strength_lines)
  a_report : Addr
  d_report : FuncData
  F_report : Fun K "report" "report" s_report a_report d_report
  b_report : Binds K d_report ["net"] []
  g_report : mg "report" = some (.ref a_report)
  a_law_cell : Addr
  d_law_cell : FuncData
  F_law_cell : Fun K "_law_cell" "_law_cell" s_law_cell a_law_cell d_law_cell
  b_law_cell : Binds K d_law_cell ["_law_script", "_law_k"] []
  g_law_cell : mg "_law_cell" = some (.ref a_law_cell)
  a_law_digits : Addr
  d_law_digits : FuncData
  F_law_digits : Fun K "_law_digits" "_law_digits" s_law_digits a_law_digits d_law_digits
  b_law_digits : Binds K d_law_digits ["_law_script", "_law_first", "_law_last"] []
  g_law_digits : mg "_law_digits" = some (.ref a_law_digits)
  a_law_draw : Addr
  d_law_draw : FuncData
  F_law_draw : Fun K "_law_draw" "_law_draw" s_law_draw a_law_draw d_law_draw
  b_law_draw : Binds K d_law_draw ["_law_box", "_law_many"] []
  g_law_draw : mg "_law_draw" = some (.ref a_law_draw)
  a_law_pick : Addr
  d_law_pick : FuncData
  F_law_pick : Fun K "_law_pick" "_law_pick" s_law_pick a_law_pick d_law_pick
  b_law_pick : Binds K d_law_pick ["_law_box", "_law_things"] []
  g_law_pick : mg "_law_pick" = some (.ref a_law_pick)
  a_law_pairs : Addr
  d_law_pairs : FuncData
  F_law_pairs : Fun K "_law_pairs" "_law_pairs" s_law_pairs a_law_pairs d_law_pairs
  b_law_pairs : Binds K d_law_pairs ["_law_box", "_law_many", "_law_extra"] []
  g_law_pairs : mg "_law_pairs" = some (.ref a_law_pairs)
  a_law_heights : Addr
  d_law_heights : FuncData
  F_law_heights : Fun K "_law_heights" "_law_heights" s_law_heights a_law_heights d_law_heights
  b_law_heights : Binds K d_law_heights ["_law_box", "_law_many"] []
  g_law_heights : mg "_law_heights" = some (.ref a_law_heights)
  a_law_names : Addr
  d_law_names : FuncData
  F_law_names : Fun K "_law_names" "_law_names" s_law_names a_law_names d_law_names
  b_law_names : Binds K d_law_names ["_law_many"] []
  g_law_names : mg "_law_names" = some (.ref a_law_names)
  a_law_kept_net : Addr
  d_law_kept_net : FuncData
  F_law_kept_net : Fun K "_law_kept_net" "_law_kept_net" s_law_kept_net a_law_kept_net d_law_kept_net
  b_law_kept_net : Binds K d_law_kept_net ["_law_pairs_here", "_law_heights_here"] []
  g_law_kept_net : mg "_law_kept_net" = some (.ref a_law_kept_net)
  a_law_changed : Addr
  d_law_changed : FuncData
  F_law_changed : Fun K "_law_changed" "_law_changed" s_law_changed a_law_changed d_law_changed
  b_law_changed : Binds K d_law_changed ["_law_net_here", "_law_rows"] []
  g_law_changed : mg "_law_changed" = some (.ref a_law_changed)
  a_law_some : Addr
  d_law_some : FuncData
  F_law_some : Fun K "_law_some" "_law_some" s_law_some a_law_some d_law_some
  b_law_some : Binds K d_law_some ["_law_box", "_law_many", "_law_most"] []
  g_law_some : mg "_law_some" = some (.ref a_law_some)
  a_law_lied : Addr
  d_law_lied : FuncData
  F_law_lied : Fun K "_law_lied" "_law_lied" s_law_lied a_law_lied d_law_lied
  b_law_lied : Binds K d_law_lied ["_law_box", "_law_net_here", "_law_most"] []
  g_law_lied : mg "_law_lied" = some (.ref a_law_lied)
  a_law_net : Addr
  d_law_net : FuncData
  F_law_net : Fun K "_law_net" "_law_net" s_law_net a_law_net d_law_net
  b_law_net : Binds K d_law_net ["_law_box", "_law_most_marks", "_law_most_extra"] []
  g_law_net : mg "_law_net" = some (.ref a_law_net)
  a_law_sides : Addr
  d_law_sides : FuncData
  F_law_sides : Fun K "_law_sides" "_law_sides" s_law_sides a_law_sides d_law_sides
  b_law_sides : Binds K d_law_sides ["_law_many"] []
  g_law_sides : mg "_law_sides" = some (.ref a_law_sides)
  a_law_cut : Addr
  d_law_cut : FuncData
  F_law_cut : Fun K "_law_cut" "_law_cut" s_law_cut a_law_cut d_law_cut
  b_law_cut : Binds K d_law_cut ["_law_net_here", "_law_side"] []
  g_law_cut : mg "_law_cut" = some (.ref a_law_cut)
  a_law_strength : Addr
  d_law_strength : FuncData
  F_law_strength : Fun K "_law_strength" "_law_strength" s_law_strength a_law_strength d_law_strength
  b_law_strength : Binds K d_law_strength ["_law_net_here"] []
  g_law_strength : mg "_law_strength" = some (.ref a_law_strength)
  a_law_misses : Addr
  d_law_misses : FuncData
  F_law_misses : Fun K "_law_misses" "_law_misses" s_law_misses a_law_misses d_law_misses
  b_law_misses : Binds K d_law_misses ["_law_net_here", "_law_heights_here"] []
  g_law_misses : mg "_law_misses" = some (.ref a_law_misses)
  a_law_cost : Addr
  d_law_cost : FuncData
  F_law_cost : Fun K "_law_cost" "_law_cost" s_law_cost a_law_cost d_law_cost
  b_law_cost : Binds K d_law_cost ["_law_net_here", "_law_heights_here"] []
  g_law_cost : mg "_law_cost" = some (.ref a_law_cost)
  a_law_any_net : Addr
  d_law_any_net : FuncData
  F_law_any_net : Fun K "_law_any_net" "_law_any_net" s_law_any_net a_law_any_net d_law_any_net
  b_law_any_net : Binds K d_law_any_net ["_law_box", "_law_most_marks", "_law_most_extra"] []
  g_law_any_net : mg "_law_any_net" = some (.ref a_law_any_net)
  a_law_vertices : Addr
  d_law_vertices : FuncData
  F_law_vertices : Fun K "_law_vertices" "_law_vertices" s_law_vertices a_law_vertices d_law_vertices
  b_law_vertices : Binds K d_law_vertices ["_law_net_here"] []
  g_law_vertices : mg "_law_vertices" = some (.ref a_law_vertices)
  a_law_all_best : Addr
  d_law_all_best : FuncData
  F_law_all_best : Fun K "_law_all_best" "_law_all_best" s_law_all_best a_law_all_best d_law_all_best
  b_law_all_best : Binds K d_law_all_best ["_law_net_here"] []
  g_law_all_best : mg "_law_all_best" = some (.ref a_law_all_best)
  a_law_mark_line : Addr
  d_law_mark_line : FuncData
  F_law_mark_line : Fun K "_law_mark_line" "_law_mark_line" s_law_mark_line a_law_mark_line d_law_mark_line
  b_law_mark_line : Binds K d_law_mark_line ["_law_net_here", "_law_heights_here", "_law_best", "_law_mark"] []
  g_law_mark_line : mg "_law_mark_line" = some (.ref a_law_mark_line)
  a_law : Addr
  d_law : FuncData
  F_law : Fun K "law" "law" s_law a_law d_law
  b_law : Binds K d_law ["_law_script"] []
  g_law : mg "law" = some (.ref a_law)

/-! ### named rules -/
section
variable {X : Cx}
/-- an item of a list or a tuple -/
def rIxA (K : PySem.W.Frag) : R2 := fun x y H Q => ∃ p xs i v, x = .ref p ∧ y = .int i ∧ (SqL K H p xs ∨ SqT K H p xs) ∧ atI xs i = some v ∧ Q v H
theorem ix_A (K : PySem.W.Frag) (hK : X.K = K) : IxR X (rIxA K) := by
  subst hK
  have h := (ix_list (X := X)).or ix_tup
  intro va sl pins s σ H x y v u Q I rx ry q hs
  refine h va sl pins s σ H x y v u Q I rx ry ?_ hs
  obtain ⟨p, xs, i, w, e1, e2, o, e3, k⟩ := q
  rcases o with o | o
  · exact .inl ⟨p, xs, i, w, e1, e2, o, e3, k⟩
  · exact .inr ⟨p, xs, i, w, e1, e2, o, e3, k⟩
theorem op_addS : OpR X (binaryOp .Add) rAddS := op_add_str
def rAbsA : List V → Hp → VK → Prop := fun xs H Q => ∃ i, xs = [.int i] ∧ Q (.int (if i < 0 then -i else i)) H
theorem call_absA : CallR X (.builtin "abs") rAbsA := call_abs
def rMin2A : List V → Hp → VK → Prop := fun xs H Q => ∃ i j, xs = [.int i, .int j] ∧ Q (.int (if j < i then j else i)) H
theorem call_min2A (hc : X.calm = true) : CallR X (.builtin "min") rMin2A := call_min2 hc
def rIntA : List V → Hp → VK → Prop := fun xs H Q => (∃ i, xs = [.int i] ∧ Q (.int i) H) ∨ ∃ k, xs = [.bl k] ∧ Q (.int (if k then 1 else 0)) H
theorem call_intA : CallR X (.type "int") rIntA := call_int1
def rStrA : List V → Hp → VK → Prop := fun xs H Q => ∃ i : Int, xs = [.int i] ∧ i.natAbs.log2 < 1920 ∧ Q (.str (toString i)) H
theorem call_strA : CallR X (.type "str") rStrA := call_str_int
def rLenA (K : PySem.W.Frag) : List V → Hp → VK → Prop := fun xs H Q => ∃ p ys, xs = [.ref p] ∧ (SqL K H p ys ∨ SqT K H p ys) ∧ Q (.int ys.length) H
theorem call_lenA (K : PySem.W.Frag) (hK : X.K = K) : CallR X (.builtin "len") (rLenA K) := by
  subst hK
  exact call_len_seq
def rLenDA : List V → Hp → VK → Prop := fun xs H Q => ∃ a kvs, xs = [V.ref a] ∧ H a = some (.dK kvs) ∧ Q (.int kvs.length) H
theorem call_lenDA : CallR X (.builtin "len") rLenDA := call_lenD
def rListA (K : PySem.W.Frag) : List V → Hp → VK → Prop := fun xs H Q => ∃ p ys, xs = [.ref p] ∧ (SqL K H p ys ∨ SqT K H p ys) ∧ ∀ l, H l = none → Q (.ref l) (upd H l (.lst ys))
theorem call_listA (K : PySem.W.Frag) (hK : X.K = K) : CallR X (.type "list") (rListA K) := by
  subst hK
  exact call_list_of
def rTupA (K : PySem.W.Frag) : List V → Hp → VK → Prop := fun xs H Q => ∃ p ys, xs = [.ref p] ∧ SqL K H p ys ∧ ∀ l, H l = none → Q (.ref l) (upd H l (.tup ys))
theorem call_tupA (K : PySem.W.Frag) (hK : X.K = K) : CallR X (.type "tuple") (rTupA K) := by
  subst hK
  intro pins s σ H xs us Q I r h
  obtain ⟨p, ys, e, a, b⟩ := h
  exact call_tuple_of pins s σ H xs us Q I r ⟨p, ys, e, .inl ⟨a, b⟩⟩
theorem op_inA (K : PySem.W.Frag) (hK : X.K = K) : OpR X (compareOp .In) (rIn K false) := by
  subst hK
  exact op_in_seq
theorem op_niA (K : PySem.W.Frag) (hK : X.K = K) : OpR X (compareOp .NotIn) (rIn K true) := by
  subst hK
  exact op_notIn_seq
theorem op_neDA (K : PySem.W.Frag) (hK : X.K = K) (hu : X.A.units + 64 < cLine) : OpR X (compareOp .NotEq) (rNeD K) := by
  subst hK
  exact op_neD hu
theorem op_catA1 (K : PySem.W.Frag) (hK : X.K = K) : OpR X (binaryOp .Add) (rCatA K) := by
  subst hK
  exact op_catA
theorem sl_tupA1 (K : PySem.W.Frag) (hK : X.K = K) : SlR X (rSlA K) := by
  subst hK
  exact sl_tupA
theorem pe_fldA (K : PySem.W.Frag) (hK : X.K = K) {e : Expr} {ta : TE} {f : Str} {pos : Pos} (he : PE X e ta) (hb : attributeBase e f X.env (eval e X.env) = eval e X.env) : PE X (.Attribute e f pos) (tFld K ta f) := by
  subst hK
  exact pe_fld he hb
theorem pg_tupA (K : PySem.W.Frag) (hK : X.K = K) {es : List Expr} {k : Nat} {t : TGs} {n : Nat} {pos : Pos} (hc : X.calm = true) (h : PGs X es t) (hn : (assignEach es X.env).length = n := by rfl) (hst : (assignEach es X.env).findIdx? (·.1) = none := by rfl) : PG X (.Tuple es k pos) (gTup K n t) := by
  subst hK
  exact pg_tup hc h hn hst
def rInsA : V → List V → Hp → VK → Prop := fun x vs H Q => ∃ (l : Addr) (xs : List V) (i : Int) (y : V), x = .ref l ∧ vs = [.int i, y] ∧ H l = some (.lst xs) ∧ xs.length < sizeLine ∧ 0 ≤ i ∧ i < 2 ^ 63 ∧
    Q .non (upd H l (.lst (xs.take i.toNat ++ [y] ++ xs.drop i.toNat)))
theorem mt_insertA : MtR X "list.insert" rInsA := mt_insert
end
theorem _root_.L2.Room.units2 {k : Nat} {A : Around} (r : Room k A) : A.units + 2 < cLine := by have := r.un; omega

/-! ### how a reading is gone through: a row for each head -/
section
variable {K : PySem.W.Frag} {σ : St} {H H1 : Hp} {Q : VK} {ta tb tc te : TE} {tr : TA} {D : Ends} {t u : TS} {tt tu : TT} {x y v : V} {i j : Int} {a b p : Addr}
theorem w_seq (h : t { D with nx := u D } σ H) : tSeq t u D σ H := h
theorem w_next (h : D.nx σ H) : tNext D σ H := h
theorem w_nx {n : St → Hp → Prop} {r : VK} {k c : St → Hp → Prop} (h : n σ H) : Ends.nx ⟨n, r, k, c⟩ σ H := h
theorem w_rt {n : St → Hp → Prop} {r : VK} {k c : St → Hp → Prop} (h : r v H) : Ends.rt ⟨n, r, k, c⟩ v H := h
theorem w_asg {g : TG} (h : te σ H fun x H1 => g x σ H1 D.nx) : tAsg te g D σ H := h
theorem w_name {n : Nat} {q : St → Hp → Prop} (h : q (σ.set n (some v)) H) : gName n v σ H q := h
theorem w_sub {to ti : TE} {t : TSet} {q : St → Hp → Prop} (h : to σ H fun o H1 => ti σ H1 fun k H2 => t o k v H2 fun H3 => q σ H3) : gSub to ti t v σ H q := h
theorem w_ret (h : te σ H D.rt) : tRet te D σ H := h
theorem w_drop (h : te σ H fun _ H1 => D.nx σ H1) : tDrop te D σ H := h
theorem w_if (h : tt σ H fun b H1 => if b = true then t D σ H1 else u D σ H1) : tIfS tt t u D σ H := h
theorem w_op {r : R2} (h : ta σ H fun x H1 => tb σ H1 fun y H2 => r x y H2 Q) : tOp r ta tb σ H Q := h
theorem w_un {r : V → Hp → VK → Prop} (h : ta σ H fun x H1 => r x H1 Q) : tUn r ta σ H Q := h
theorem w_var {n : Nat} (h : σ[n]? = some (some v)) (q : Q v H) : tVar n σ H Q := ⟨v, h, q⟩
theorem w_c (q : Q v H) : tC v σ H Q := q
def rK (x : V) (H : Hp) (q : Bool → Hp → Prop) : Prop := ∃ k, x = .bl k ∧ q k H
theorem w_test {q : Bool → Hp → Prop} (h : te σ H fun x H1 => rK x H1 q) : tTest te σ H q := h
theorem w_tB {q : Bool → Hp → Prop} (h : te σ H fun x H1 => rK x H1 q) : tB te σ H q := h
theorem w_k {c : Bool} {q : Bool → Hp → Prop} (h : q c H) : rK (.bl c) H q := ⟨c, rfl, h⟩
theorem w_and {q : Bool → Hp → Prop} (h : tt σ H fun c H1 => if c = true then tu σ H1 q else q false H1) : tAnd tt tu σ H q := h
theorem w_or {q : Bool → Hp → Prop} (h : tt σ H fun c H1 => if c = true then q true H1 else tu σ H1 q) : tOr tt tu σ H q := h
theorem w_yes {q : Bool → Hp → Prop} (h : q true H) : tYes σ H q := h
theorem w_nil {q : List V → Hp → Prop} (h : q [] H) : tNil σ H q := h
theorem w_cons {q : List V → Hp → Prop} (h : ta σ H fun x H1 => tr σ H1 fun xs H2 => q (x :: xs) H2) : tCons ta tr σ H q := h
theorem w_cb {r : List V → Hp → VK → Prop} (h : tr σ H fun vs H1 => r vs H1 Q) : tCB r tr σ H Q := h
theorem w_call {sp : Sp} {dvs : List V} {E : XK} (h : tr σ H fun vs H1 => sp (vs ++ dvs) H1 Q E) : tCall sp dvs E tr σ H Q := h
theorem w_I0 {g : Int → Int → V} (q : Q (g i j) H) : rI0 g (.int i) (.int j) H Q := ⟨i, j, rfl, rfl, q⟩
theorem w_neg {g : Int → V} (q : Q (g i) H) : rU g (.int i) H Q := ⟨i, rfl, q⟩
theorem w_eqI (q : Q (.bl (decide (i = j))) H) : rEq (.int i) (.int j) H Q := ⟨rfl, by
  have e : decide (V.int i = V.int j) = decide (i = j) := by
    by_cases h : i = j
    · subst h; rw [decide_eq_true rfl, decide_eq_true rfl]
    · rw [decide_eq_false h, decide_eq_false fun z => h (V.int.inj z)]
  rw [e]; exact q⟩
theorem w_neI (q : Q (.bl (!decide (i = j))) H) : rNe (.int i) (.int j) H Q := ⟨rfl, by
  have e : decide (V.int i = V.int j) = decide (i = j) := by
    by_cases h : i = j
    · subst h; rw [decide_eq_true rfl, decide_eq_true rfl]
    · rw [decide_eq_false h, decide_eq_false fun z => h (V.int.inj z)]
  rw [e]; exact q⟩
theorem w_neB {c d : Bool} (q : Q (.bl (!decide (c = d))) H) : rNe (.bl c) (.bl d) H Q := ⟨rfl, by
  have e : decide (V.bl c = V.bl d) = decide (c = d) := by cases c <;> cases d <;> rfl
  rw [e]; exact q⟩
theorem w_isN0 (q : Q (.bl true) H) : rIsN .non .non H Q := ⟨rfl, q⟩
theorem w_isN1 (q : Q (.bl false) H) : rIsN (.int i) .non H Q := ⟨rfl, q⟩
theorem w_isN2 (q : Q (.bl false) H) : rIsN (.ref a) .non H Q := ⟨rfl, q⟩
theorem w_noN0 (q : Q (.bl false) H) : rNotN .non .non H Q := ⟨rfl, q⟩
theorem w_noN1 (q : Q (.bl true) H) : rNotN (.int i) .non H Q := ⟨rfl, q⟩
theorem w_noN2 (q : Q (.bl true) H) : rNotN (.ref a) .non H Q := ⟨rfl, q⟩
theorem w_ixT {xs : List V} (h : H p = some (.tup xs)) (e : atI xs i = some v) (q : Q v H) : rIxA K (.ref p) (.int i) H Q := ⟨p, xs, i, v, rfl, rfl, .inr (SqT.of h), e, q⟩
theorem w_ixL {xs : List V} (h : H p = some (.lst xs)) (e : atI xs i = some v) (q : Q v H) : rIxA K (.ref p) (.int i) H Q := ⟨p, xs, i, v, rfl, rfl, .inl (SqL.of h), e, q⟩
def rFld (K : PySem.W.Frag) (f : Str) (x : V) (H : Hp) (Q : VK) : Prop := ∃ a C dx fs v, x = .ref a ∧ H a = some (.ins C dx fs) ∧ Cls K C ∧ NoAttr K C f ∧ fs.lookup f = some v ∧ Q v H
theorem w_fld {C dx : Addr} {fs : List (Str × V)} {f : Str} (h : H p = some (.ins C dx fs)) (c : Cls K C) (n : NoAttr K C f) (l : fs.lookup f = some v) (q : Q v H) : rFld K f (.ref p) H Q := ⟨p, C, dx, fs, v, rfl, h, c, n, l, q⟩
theorem w_lenT {xs : List V} (h : H p = some (.tup xs)) (q : Q (.int xs.length) H) : rLenA K [.ref p] H Q := ⟨p, xs, rfl, .inr (SqT.of h), q⟩
theorem w_lenL {xs : List V} (h : H p = some (.lst xs)) (q : Q (.int xs.length) H) : rLenA K [.ref p] H Q := ⟨p, xs, rfl, .inl (SqL.of h), q⟩
theorem w_abs (q : Q (.int (TL.absI i)) H) : rAbsA [.int i] H Q := ⟨i, rfl, q⟩
theorem w_min2 (q : Q (.int (TL.minI i j)) H) : rMin2A [.int i, .int j] H Q := ⟨i, j, rfl, q⟩
theorem w_intI (q : Q (.int i) H) : rIntA [.int i] H Q := .inl ⟨i, rfl, q⟩
theorem w_intB {k : Bool} (q : Q (.int (if k then 1 else 0)) H) : rIntA [.bl k] H Q := .inr ⟨k, rfl, q⟩
/-! heaps -/
/-- all that stood stands, but at the places of L -/
def Sm (L : List Addr) (H H' : Hp) : Prop := ∀ b o, b ∉ L → H b = some o → H' b = some o
theorem Sm.of {H H' : Hp} (h : Same H H') (L : List Addr) : Sm L H H' := fun b o _ e => h b o e
theorem same_new {H : Hp} {p : Addr} {o : HO} (h : H p = none) : Same H (upd H p o) := fun b u e => by
  rw [upd_ne (ne_of_none e h)]
  exact e
/-- an object that the heap at the start does not know may change -/
theorem same_mut {H0 H : Hp} {p : Addr} {o : HO} (s : Same H0 H) (h : H0 p = none) : Same H0 (upd H p o) := fun a u e => by
  rw [upd_ne (ne_of_none e h)]
  exact s a u e
def rNewT (xs : List V) (H : Hp) (Q : VK) : Prop := xs.length ≤ sizeLine ∧ ∀ p, H p = none → Q (.ref p) (upd H p (.tup xs))
def rNewL (xs : List V) (H : Hp) (Q : VK) : Prop := xs.length ≤ sizeLine ∧ ∀ p, H p = none → Q (.ref p) (upd H p (.lst xs))
theorem w_tup (h : tr σ H fun xs H1 => rNewT xs H1 Q) : tTup tr σ H Q := h
theorem w_lst (h : tr σ H fun xs H1 => rNewL xs H1 Q) : tLst tr σ H Q := h
theorem w_newT {xs : List V} (hz : xs.length ≤ 1000) (h : ∀ p H1, H p = none → Same H H1 → H1 p = some (.tup xs) → Q (.ref p) H1) : rNewT xs H Q :=
  ⟨Nat.le_trans hz (by decide), fun p np => h p _ np (same_new np) upd_same⟩
theorem w_newL {xs : List V} (hz : xs.length ≤ 1000) (h : ∀ p H1, H p = none → Same H H1 → H1 p = some (.lst xs) → Q (.ref p) H1) : rNewL xs H Q :=
  ⟨Nat.le_trans hz (by decide), fun p np => h p _ np (same_new np) upd_same⟩
theorem w_tupA {xs : List V} (h : H p = some (.lst xs)) (k : ∀ l H1, H l = none → Same H H1 → H1 l = some (.tup xs) → Q (.ref l) H1) : rTupA K [.ref p] H Q :=
  ⟨p, xs, rfl, SqL.of h, fun l nl => k l _ nl (same_new nl) upd_same⟩
/-- xs[i] = v at a list -/
theorem w_setL {xs : List V} {n : Nat} {q : Hp → Prop} (h : H p = some (.lst xs)) (hn : n < xs.length) (k : ∀ H1, Sm [p] H H1 → H1 p = some (.lst (xs.set n v)) → q H1) : rSetL (.ref p) (.int (n : Int)) v H q := by
  refine ⟨p, xs, (n : Int), n, rfl, rfl, h, ?_, k _ (fun b o nb e => ?_) upd_same⟩
  · unfold ixN
    rw [if_pos (by omega), if_pos (by omega)]
    simp
  · rw [upd_ne fun z => nb (by rw [z]; exact List.mem_cons_self)]
    exact e
theorem w_app {xs : List V} (h : H p = some (.lst xs)) (hz : xs.length < 100000) (k : ∀ H1, Sm [p] H H1 → H1 p = some (.lst (xs ++ [v])) → Q .non H1) : rAppend (.ref p) [v] H Q := by
  refine ⟨p, xs, v, rfl, rfl, h, Nat.lt_of_lt_of_le hz (by decide), k _ (fun b o nb e => ?_) upd_same⟩
  rw [upd_ne fun z => nb (by rw [z]; exact List.mem_cons_self)]
  exact e
theorem w_bm {T : String} {r : V → List V → Hp → VK → Prop} (h : ta σ H fun x H1 => tyV K T x H1 ∧ tr σ H1 fun xs H2 => r x xs H2 Q) : tBM K T r ta tr σ H Q := h
theorem tyL {xs : List V} (h : H p = some (.lst xs)) : tyV K "list" (.ref p) H := .inl ⟨rfl, xs, SqL.of h⟩
theorem w_ifd {c A B : Prop} [Decidable c] (h1 : c → A) (h2 : ¬ c → B) : if decide c = true then A else B := by
  by_cases h : c
  · rw [decide_eq_true h, if_pos rfl]; exact h1 h
  · rw [decide_eq_false h, if_neg Bool.false_ne_true]; exact h2 h
theorem w_ifn {c A B : Prop} [Decidable c] (h1 : ¬ c → A) (h2 : c → B) : if (!decide c) = true then A else B := by
  by_cases h : c
  · rw [decide_eq_true h]; exact iteF (h2 h)
  · rw [decide_eq_false h]; exact iteT (h1 h)
end
/-! items -/
theorem at_int {hs : List Int} {j : Nat} (h : j < hs.length) : atI (hs.map V.int) (j : Int) = some (.int (TL.gi hs j)) := by
  refine atI_nat ?_
  rw [List.getElem?_map, List.getElem?_eq_getElem h]
  show some (V.int hs[j]) = _
  unfold TL.gi
  rw [List.getD_eq_getElem?_getD, List.getElem?_eq_getElem h]
  rfl
theorem at_ref {ps : List Addr} {j : Nat} (h : j < ps.length) : atI (ps.map V.ref) (j : Int) = some (.ref (ps.getD j 0)) := by
  refine atI_nat ?_
  rw [List.getElem?_map, List.getElem?_eq_getElem h, List.getD_eq_getElem?_getD, List.getElem?_eq_getElem h]
  rfl
/-- all tuples stand -/
def Tp (H H' : Hp) : Prop := ∀ b xs, H b = some (.tup xs) → H' b = some (.tup xs)
theorem Tp.refl (H : Hp) : Tp H H := fun _ _ e => e
theorem Tp.trans {H H1 H2 : Hp} (a : Tp H H1) (b : Tp H1 H2) : Tp H H2 := fun c xs e => b c xs (a c xs e)
theorem Tp.of {H H' : Hp} (s : Same H H') : Tp H H' := fun b xs e => s b _ e
theorem Tp.sm {H H' : Hp} {p : Addr} {xs : List V} (s : Sm [p] H H') (h : H p = some (.lst xs)) : Tp H H' := fun b ys e => s b _ (fun hm => by
  rw [List.mem_singleton.mp hm, h] at e
  cases e) e
/-! ### loops -/
/-- what a for asks behind the start of its walk -/
def FO (J : It) (g : TG) (tb : TS) (D : Ends) (σ : L2.St) (H : Hp) : Prop := ∃ W : Nat → Nat → L2.St → Hp → Prop, (∃ m, W 0 m σ H) ∧ ∀ i m σ H, W i m σ H →
  (J.stop i H ∧ D.nx σ H) ∨ (J.go i H ∧ ∃ N : L2.St → Hp → Prop, (∀ σ' H', N σ' H' → ∃ m', m' < m ∧ W (i + 1) m' σ' H') ∧ ∀ x H', J.yld i H x H' → g x σ H' fun σ2 H2 => tb { D with nx := N, ct := N, bk := D.nx } σ2 H2)
def LC (J : It) (g : TG) (tt : TT) (te : TE) (vs : List Nat) (σ : L2.St) (H1 : Hp) (D : Addr) (Qd : Hp → Prop) : Prop := ∃ W : Nat → Nat → Hp → Prop, (∃ m, W 0 m (upd H1 D (.lst []))) ∧ ∀ i m H, W i m H →
  (J.stop i H ∧ Qd H) ∨ (J.go i H ∧ ∃ Nx : Hp → Prop, (∀ H', Nx H' → ∃ m', m' < m ∧ W (i + 1) m' H') ∧ ∀ x H', J.yld i H x H' → g x (wipe σ vs) H' fun σ2 H2 => wipe σ2 vs = wipe σ vs ∧ tt σ2 H2 fun b H3 =>
    if b = true then te σ2 H3 fun y H4 => ∃ acc, H4 D = some (.lst acc) ∧ acc.length < sizeLine ∧ Nx (upd H4 D (.lst (acc ++ [y]))) else Nx H3)
section
variable {K : PySem.W.Frag} {J : It} {n : Nat} {G : Hp → Prop} {Y : Nat → Hp → V → Hp → Prop} {g : TG} {tb : TS} {tt : TT} {te tl : TE} {ta : TA} {D : Ends} {σ : L2.St} {H : Hp} {Q : VK} {vs : List Nat}
theorem fo (w : Walk J n G Y) (Pv : Nat → L2.St → Hp → Prop) (h0 : Pv 0 σ H) (hG : ∀ i σ H, i ≤ n → Pv i σ H → G H)
    (hs : ∀ i x σ H H', i < n → Pv i σ H → Y i H x H' → g x σ H' fun σ2 H2 => tb { D with nx := Pv (i + 1), ct := Pv (i + 1), bk := D.nx } σ2 H2) (hd : ∀ σ H, Pv n σ H → D.nx σ H) : FO J g tb D σ H := for_it w Pv h0 hG hs hd
/-- a comprehension: P of the turn, the items so far and the heap; H1 the heap at its start, L the new list -/
theorem lc {H1 : Hp} {L : Addr} (w : Walk J n G Y) (hn : n ≤ 100000) (nL : H1 L = none) (P : Nat → List V → Hp → Prop) (h0 : ∀ H, Same H1 H → H L = some (.lst []) → P 0 [] H)
    (hG : ∀ i acc H, Same H1 H → P i acc H → G H)
    (hs : ∀ i acc x H H' (F : V → Hp → Prop) (No : Hp → Prop), i < n → Same H1 H → H L = some (.lst acc) → P i acc H → Y i H x H' →
      (∀ y H4, Same H H4 → (∀ H5, Sm [L] H4 H5 → Tp H4 H5 → Same H1 H5 → H5 L = some (.lst (acc ++ [y])) → P (i + 1) (acc ++ [y]) H5) → F y H4) → (∀ H3, Same H H3 → P (i + 1) acc H3 → No H3) →
      g x (wipe σ vs) H' fun σ2 H2 => wipe σ2 vs = wipe σ vs ∧ tt σ2 H2 fun b H3 => if b = true then te σ2 H3 F else No H3)
    {Qd : Hp → Prop} (hd : ∀ acc H, Same H1 H → H L = some (.lst acc) → acc.length ≤ n → P n acc H → Qd H) : LC J g tt te vs σ H1 L Qd := by
  refine lc_it w (fun i H => ∃ acc, Same H1 H ∧ H L = some (.lst acc) ∧ acc.length ≤ i ∧ P i acc H) ⟨[], same_new nL, upd_same, Nat.le_refl _, h0 _ (same_new nL) upd_same⟩ (fun i H _ ⟨acc, s, e, _, p⟩ => hG i acc H s p) ?_ (fun H ⟨acc, s, e, hl, p⟩ => hd acc H s e hl p)
  rintro i x H H' hi ⟨acc, s, e, hl, p⟩ y
  refine hs i acc x H H' _ _ hi s e p y (fun y H4 s4 k => ?_) (fun H3 s3 k => ⟨acc, s.trans s3, s3 _ _ e, by omega, k⟩)
  refine ⟨acc, s4 _ _ e, Nat.lt_of_lt_of_le (show acc.length < 100000 by omega) (by decide), acc ++ [y], same_mut (s.trans s4) nL, upd_same, by rw [List.length_append, List.length_singleton]; omega, ?_⟩
  have sm : Sm [L] H4 (upd H4 L (.lst (acc ++ [y]))) := fun b o nb e => by
    rw [upd_ne fun z => nb (by rw [z]; exact List.mem_cons_self)]
    exact e
  exact k _ sm (Tp.sm sm (s4 _ _ e)) (same_mut (s.trans s4) nL) upd_same
theorem w_forT (h : tl σ H fun x H1 => ∃ a xs, x = .ref a ∧ SqT K H1 a xs ∧ FO (Itt K a) g tb D σ H1) (mono : ∀ Q Q' : VK, (∀ y H1, Q y H1 → Q' y H1) → tl σ H Q → tl σ H Q') : tFor (iTup K tl) g tb D σ H :=
  mono _ _ (fun x H1 ⟨a, xs, e, s, k⟩ => ⟨a, e, ⟨xs, s⟩, k⟩) h
theorem w_for {wi : TI} (h : wi σ H fun J H1 => FO J g tb D σ H1) : tFor wi g tb D σ H := h
theorem w_lc {wi : TI} (h : wi σ H fun J H1 => ∀ L, H1 L = none → LC J g tt te vs σ H1 L fun H => Q (.ref L) H) : tLc wi g tt te vs σ H Q := h
theorem w_iT {R : It → Hp → Prop} (h : tl σ H fun x H1 => ∃ a, x = .ref a ∧ (∃ xs, SqT K H1 a xs) ∧ R (Itt K a) H1) : iTup K tl σ H R := h
theorem w_iL {R : It → Hp → Prop} (h : tl σ H fun x H1 => ∃ a, x = .ref a ∧ (∃ xs, SqL K H1 a xs) ∧ R (Itl K a) H1) : iList K tl σ H R := h
theorem w_iE {R : It → Hp → Prop} (h : ta σ H fun vs H1 => ∃ a xs, vs = [.ref a] ∧ SqT K H1 a xs ∧ R (IteT K a) H1) : iEnumT K ta σ H R := h
theorem w_iEl {R : It → Hp → Prop} (h : ta σ H fun vs H1 => ∃ a xs, vs = [.ref a] ∧ SqL K H1 a xs ∧ R (Ite K a) H1) : iEnum K ta σ H R := h
theorem w_iZ {R : It → Hp → Prop} (h : ta σ H fun vs H1 => ∃ a b xs ys, vs = [.ref a, .ref b] ∧ ((SqL K H1 a xs ∧ SqL K H1 b ys ∧ R (Itz K a b) H1) ∨ (SqT K H1 a xs ∧ SqT K H1 b ys ∧ R (RZ.ItzT K a b) H1))) : RZ.iZipA K ta σ H R := h
theorem w_iR1 {R : It → Hp → Prop} (h : ta σ H fun vs H1 => ∃ j : Int, vs = [.int j] ∧ -(2 ^ 62) ≤ j ∧ j < 2 ^ 62 ∧ R (Itr 0 j.toNat) H1) : iRng1 ta σ H R := h
theorem w_iR2 {R : It → Hp → Prop} (h : ta σ H fun vs H1 => ∃ i j : Int, vs = [.int i, .int j] ∧ (-(2 ^ 62) ≤ i ∧ i < 2 ^ 62 ∧ -(2 ^ 62) ≤ j ∧ j < 2 ^ 62) ∧ R (Itr i (j - i).toNat) H1) : iRng2 ta σ H R := h
theorem y_T {a : Addr} {xs : List V} {R : It → Hp → Prop} (h : H a = some (.tup xs)) (k : R (Itt K a) H) : ∃ b, V.ref a = .ref b ∧ (∃ xs, SqT K H b xs) ∧ R (Itt K b) H := ⟨a, rfl, ⟨xs, SqT.of h⟩, k⟩
theorem y_L {a : Addr} {xs : List V} {R : It → Hp → Prop} (h : H a = some (.lst xs)) (k : R (Itl K a) H) : ∃ b, V.ref a = .ref b ∧ (∃ xs, SqL K H b xs) ∧ R (Itl K b) H := ⟨a, rfl, ⟨xs, SqL.of h⟩, k⟩
theorem y_E {a : Addr} {xs : List V} {R : It → Hp → Prop} (h : H a = some (.tup xs)) (k : R (IteT K a) H) : ∃ b xs, [V.ref a] = [.ref b] ∧ SqT K H b xs ∧ R (IteT K b) H := ⟨a, xs, rfl, SqT.of h, k⟩
theorem y_El {a : Addr} {xs : List V} {R : It → Hp → Prop} (h : H a = some (.lst xs)) (k : R (Ite K a) H) : ∃ b xs, [V.ref a] = [.ref b] ∧ SqL K H b xs ∧ R (Ite K b) H := ⟨a, xs, rfl, SqL.of h, k⟩
theorem y_R1 {n : Nat} {R : It → Hp → Prop} (hn : n ≤ 100000) (k : R (Itr 0 n) H) : ∃ j : Int, [V.int (n : Int)] = [.int j] ∧ -(2 ^ 62) ≤ j ∧ j < 2 ^ 62 ∧ R (Itr 0 j.toNat) H := ⟨(n : Int), rfl, by omega, by omega, by rw [Int.toNat_natCast]; exact k⟩
theorem y_R2 {m n : Nat} {R : It → Hp → Prop} (hm : m ≤ 100000) (hn : n ≤ 100000) (k : R (Itr (m : Int) (n - m)) H) : ∃ i j : Int, [V.int (m : Int), V.int (n : Int)] = [.int i, .int j] ∧ (-(2 ^ 62) ≤ i ∧ i < 2 ^ 62 ∧ -(2 ^ 62) ≤ j ∧ j < 2 ^ 62) ∧ R (Itr i (j - i).toNat) H :=
  ⟨(m : Int), (n : Int), rfl, by omega, by rw [show ((n : Int) - (m : Int)).toNat = n - m by omega]; exact k⟩
/-- a while that goes as c and f say -/
theorem w_while {α : Type} {c : α → Bool} {f : α → α} {k : Nat} {a0 r : α} (l : TL.LoopN c f k a0 r) (I : α → Prop) (rep : α → L2.St → Hp → Prop) (i0 : I a0) (r0 : rep a0 σ H)
    (hs : ∀ a σ H (Yes No : Hp → Prop), I a → rep a σ H →
      (c a = true → ∀ H1, tb { D with nx := fun σ' H' => I (f a) ∧ rep (f a) σ' H', ct := fun σ' H' => I (f a) ∧ rep (f a) σ' H', bk := D.nx } σ H1 → Yes H1) →
      (c a = false → ∀ H1, (r = a → D.nx σ H1) → No H1) → tt σ H fun b H1 => if b = true then Yes H1 else No H1) : tWhile tt tb D σ H := by
  refine ⟨fun m σ H => ∃ a, TL.LoopN c f m a r ∧ I a ∧ rep a σ H, ⟨k, a0, l, i0, r0⟩, ?_⟩
  rintro m σ H ⟨a, l, i, p⟩
  refine hs a σ H _ _ i p (fun hc H1 q => ?_) (fun hc H1 q => q (l.stop hc))
  obtain ⟨m', rfl, l'⟩ := l.go hc
  exact ⟨_, fun σ' H' z => ⟨m', Nat.lt_succ_self _, f a, l', z.1, z.2⟩, q⟩
end
theorem w_gT {K : PySem.W.Frag} {n : Nat} {t : TGs} {a : Addr} {xs : List V} {σ : L2.St} {H : Hp} {q : L2.St → Hp → Prop} (h : H a = some (.tup xs)) (l : xs.length = n) (k : t xs σ H q) : gTup K n t (.ref a) σ H q := ⟨a, xs, rfl, SqT.of h, l, k⟩
theorem w_gc {t : TG} {u : TGs} {v : V} {r : List V} {σ : L2.St} {H : Hp} {q : L2.St → Hp → Prop} (h : t v σ H fun σ' H' => u r σ' H' q) : gCons t u (v :: r) σ H q := ⟨v, r, rfl, h⟩
theorem w_gn {σ : L2.St} {H : Hp} {q : L2.St → Hp → Prop} (k : q σ H) : gNil [] σ H q := ⟨rfl, k⟩
theorem w_sfld {K : PySem.W.Frag} {ta tv : TE} {f : Str} {D : Ends} {σ : L2.St} {H : Hp} (h : tv σ H fun y H1 => ta σ H1 fun x H2 => ∃ a C dx fs, x = .ref a ∧ H2 a = some (.ins C dx fs) ∧ Cls K C ∧ NoAttr K C f ∧ fs.length < 1000 ∧ D.nx σ (upd H2 a (.ins C dx (putF f y fs)))) : sFld K ta tv f D σ H := h
theorem w_tfld {K : PySem.W.Frag} {ta : TE} {f : Str} {σ : L2.St} {H : Hp} {Q : VK} (h : ta σ H fun x H1 => rFld K f x H1 Q) : tFld K ta f σ H Q := h
theorem sm_upd {H : Hp} {p : Addr} {o : HO} : Sm [p] H (upd H p o) := fun b u nb e => by
  rw [upd_ne fun z => nb (by rw [z]; exact List.mem_cons_self)]
  exact e
theorem w_fs {K : PySem.W.Frag} {C dx p : Addr} {fs : List (Str × V)} {f : Str} {y : V} {H : Hp} {q : Hp → Prop} (h : H p = some (.ins C dx fs)) (c : Cls K C) (n : NoAttr K C f) (l : fs.length < 1000) (k : ∀ H1, Sm [p] H H1 → H1 p = some (.ins C dx (putF f y fs)) → q H1) :
    ∃ a C dx fs, V.ref p = .ref a ∧ H a = some (.ins C dx fs) ∧ Cls K C ∧ NoAttr K C f ∧ fs.length < 1000 ∧ q (upd H a (.ins C dx (putF f y fs))) := ⟨p, C, dx, fs, rfl, h, c, n, l, k _ sm_upd upd_same⟩
theorem same_sm {H0 H H1 : Hp} {l : Addr} (s : Same H0 H) (m : Sm [l] H H1) (n : H0 l = none) : Same H0 H1 := fun b o e => m b o (fun hm => by
  rw [List.mem_singleton.mp hm, n] at e
  cases e) (s b o e)
theorem w_rep1 {H : Hp} {l : Addr} {y : V} {n : Nat} {Q : VK} (h : H l = some (.lst [y])) (hn : n ≤ 1000) (k : ∀ p H1, H p = none → Same H H1 → H1 p = some (.lst (List.replicate n y)) → Q (.ref p) H1) : rRep (.ref l) (.int (n : Int)) H Q := by
  refine ⟨l, (n : Int), [y], rfl, rfl, h, by omega, by omega, ?_, fun p np => ?_⟩
  · rw [Int.toNat_natCast]
    exact Nat.le_trans (show 1 * n ≤ 1000 by omega) (by decide)
  · rw [Int.toNat_natCast, List.flatten_replicate_singleton]
    exact k p _ np (same_new np) upd_same
theorem w_I {C : Int → Int → Prop} {gg : Int → Int → V} {i j : Int} {H : Hp} {Q : VK} (c : C i j) (q : Q (gg i j) H) : rI C gg (.int i) (.int j) H Q := ⟨i, j, rfl, rfl, c, q⟩
theorem set_ints {hs : List Int} {j : Nat} {x : Int} : (hs.map V.int).set j (.int x) = (hs.set j x).map V.int := List.map_set.symm
theorem lk_yes {f : Str} {v : V} {r : List (Str × V)} : ((f, v) :: r).lookup f = some v := by
  rw [List.lookup_cons, show (f == f) = true from beq_self_eq_true f]
theorem lk_no {f g : Str} {v : V} {r : List (Str × V)} (h : (f == g) = false) : ((g, v) :: r).lookup f = r.lookup f := by
  rw [List.lookup_cons, h]
theorem sz {n : Nat} (h : Nat.ble n 1000 = true) : n ≤ 1000 := Nat.le_of_ble_eq_true h
def rMe (C : Addr) (m : Str) (x : V) (H : Hp) (q : Hp → Prop) : Prop := ∃ a dx fs, x = .ref a ∧ H a = some (.ins C dx fs) ∧ fs.lookup m = none ∧ q H
theorem w_meth {C : Addr} {m : Str} {sp : Sp} {dvs : List V} {E : XK} {ta : TE} {t : TA} {σ : L2.St} {H : Hp} {Q : VK} (h : ta σ H fun x H1 => rMe C m x H1 fun H1 => t σ H1 fun vs H2 => sp (x :: (vs ++ dvs)) H2 Q E) : tMeth C m sp dvs E ta t σ H Q := h
theorem w_me {C p dx : Addr} {m : Str} {fs : List (Str × V)} {H : Hp} {q : Hp → Prop} (e : H p = some (.ins C dx fs)) (l : fs.lookup m = none) (k : q H) : rMe C m (.ref p) H q := ⟨p, dx, fs, rfl, e, l, k⟩
theorem walk_r0 {n : Nat} : Walk (Itr 0 n) n (fun _ => True) (fun i H x H' => H' = H ∧ x = .int (i : Int)) :=
  walk_range.mono (fun _ h => h) fun i H x H' _ _ y => ⟨y.1, by
    have e : x = .int (0 + (i : Int)) := y.2
    rw [e, Int.zero_add]⟩
theorem walk_r1 {m n : Nat} : Walk (Itr (m : Int) n) n (fun _ => True) (fun i H x H' => H' = H ∧ x = .int ((m + i : Nat) : Int)) :=
  walk_range.mono (fun _ h => h) fun i H x H' _ _ y => ⟨y.1, by
    have e : x = .int ((m : Int) + (i : Int)) := y.2
    rw [e, Int.natCast_add]⟩
def rMk (C : Addr) (sp : Sp) (dvs vs : List V) (E : XK) (H1 : Hp) (Q : VK) : Prop := ∀ x dx, H1 x = none → H1 dx = none → dx ≠ x → sp (.ref x :: (vs ++ dvs)) (upd (upd H1 dx (.own x)) x (.ins C dx [])) (fun v H2 => v = .non ∧ Q (.ref x) H2) E
theorem w_make {C : Addr} {sp : Sp} {dvs : List V} {E : XK} {t : TA} {σ : L2.St} {H : Hp} {Q : VK} (h : t σ H fun vs H1 => rMk C sp dvs vs E H1 Q) : tMake C sp dvs E t σ H Q := h
theorem take_map {α β : Type} {l : List α} {f : α → β} {i : Nat} {x : α} (h : l[i]? = some x) : (l.take (i + 1)).map f = (l.take i).map f ++ [f x] := by
  rw [List.take_add_one, h, List.map_append]
  rfl
theorem take_all {α : Type} {l : List α} : l.take l.length = l := List.take_length
/-! ### nets in the heap -/
open TL (Rd rat miss gi)
def rdV (r : Rd) : List V := [.int r.a, .int r.b, .int r.v]
structure Net where
  a : Addr
  m : Addr
  t : Addr
  ps : List Addr
  nm : List Str
  rs : List Rd
def Net.n (N : Net) : Nat := N.nm.length
structure NetAt (H : Hp) (N : Net) : Prop where
  a : H N.a = some (.tup [.str "net", .ref N.m, .ref N.t])
  m : H N.m = some (.tup (N.nm.map V.str))
  t : H N.t = some (.tup (N.ps.map V.ref))
  pl : N.ps.length = N.rs.length
  r : ∀ i, i < N.rs.length → H (N.ps.getD i 0) = some (.tup (rdV (rat N.rs i)))
theorem _root_.L2.Same.tup {K : PySem.W.Frag} {H H' : Hp} (s : Same H H') {a : Addr} {xs : List V} (h : H a = some (.tup xs)) : SqT K H' a xs := SqT.of (s _ _ h)
theorem _root_.L2.Same.lst {K : PySem.W.Frag} {H H' : Hp} (s : Same H H') {a : Addr} {xs : List V} (h : H a = some (.lst xs)) : SqL K H' a xs := SqL.of (s _ _ h)
theorem NetAt.tp {H H' : Hp} {N : Net} (h : NetAt H N) (t : Tp H H') : NetAt H' N := ⟨t _ _ h.a, t _ _ h.m, t _ _ h.t, h.pl, fun i hi => t _ _ (h.r i hi)⟩
/-- a net that is right -/
structure NOk (N : Net) : Prop where
  n1 : 1 ≤ N.n
  n4 : N.n ≤ 4
  r9 : N.rs.length ≤ 9
  ok : TL.Ok N.n N.rs
end TW

namespace TW
open PySem L2
/-- one step of a reading -/
local macro_rules | `(tactic| walk_at "st") => `(tactic| first
  | with_reducible refine w_seq ?_ | with_reducible refine w_next ?_ | with_reducible refine w_nx ?_ | with_reducible refine w_rt ?_ | with_reducible refine w_asg ?_ | with_reducible refine w_name ?_
  | with_reducible refine w_op ?_ | with_reducible refine w_un ?_ | with_reducible refine w_var rfl ?_ | with_reducible refine w_c ?_ | with_reducible refine w_ret ?_ | with_reducible refine w_drop ?_
  | with_reducible refine w_if ?_ | with_reducible refine w_test ?_ | with_reducible refine w_tB ?_ | with_reducible refine w_k ?_ | with_reducible refine w_and ?_ | with_reducible refine w_or ?_ | with_reducible refine w_yes ?_
  | with_reducible refine w_nil ?_ | with_reducible refine w_cons ?_ | with_reducible refine w_cb ?_ | with_reducible refine w_call ?_ | with_reducible refine w_I0 ?_ | with_reducible refine w_neg ?_
  | with_reducible refine w_eqI ?_ | with_reducible refine w_neI ?_ | with_reducible refine w_abs ?_ | with_reducible refine w_min2 ?_ | with_reducible refine w_intI ?_ | with_reducible refine w_intB ?_
  | with_reducible refine w_isN0 ?_ | with_reducible refine w_isN1 ?_ | with_reducible refine w_isN2 ?_ | with_reducible refine w_noN0 ?_ | with_reducible refine w_noN1 ?_ | with_reducible refine w_noN2 ?_
  | with_reducible refine w_sub ?_ | with_reducible refine w_for ?_ | with_reducible refine w_lc ?_ | with_reducible refine w_iT ?_ | with_reducible refine w_iL ?_ | with_reducible refine w_iE ?_ | with_reducible refine w_iEl ?_
  | with_reducible refine w_iZ ?_ | with_reducible refine w_iR1 ?_ | with_reducible refine w_iR2 ?_ | with_reducible refine w_gc ?_ | with_reducible refine w_gn ?_ | with_reducible refine w_bm ?_ | with_reducible refine w_sfld ?_ | with_reducible refine w_tfld ?_ | with_reducible refine w_meth ?_ | with_reducible refine w_make ?_ | with_reducible refine w_tup ?_ | with_reducible refine w_lst ?_)
local macro_rules | `(tactic| walk_at "go") => `(tactic| repeat walk_at "st")
local macro_rules | `(tactic| walk_at "nx") => `(tactic| repeat (first | with_reducible refine w_next ?_ | with_reducible refine w_nx ?_ | with_reducible refine w_name ?_ | with_reducible refine w_gc ?_ | with_reducible refine w_gn ?_))

open TL (Rd rat miss gi absI)
section
variable {P : Program} {w : World} {K : PySem.W.Frag} {mg : Str → Option Value} {base : Heap}
/-! ### misses -/
/-- a row of ints: a list or a tuple -/
def Ints (K : PySem.W.Frag) (H : Hp) (p : Addr) (xs : List Int) : Prop := SqL K H p (xs.map V.int) ∨ SqT K H p (xs.map V.int)
theorem Ints.ix {H : Hp} {p : Addr} {xs : List Int} {j : Nat} {Q : VK} (h : Ints K H p xs) (hj : j < xs.length) (q : Q (.int (gi xs j)) H) : rIxA K (.ref p) (.int (j : Int)) H Q := ⟨p, xs.map V.int, _, _, rfl, rfl, h, at_int hj, q⟩
theorem Ints.same {H H' : Hp} {p : Addr} {xs : List Int} (h : Ints K H p xs) (s : Same H H') : Ints K H' p xs := by
  rcases h with h | h
  · exact .inl (s.seq h)
  · refine .inr ?_
    rcases h with (h | ⟨o, h⟩) | h
    · exact .inl (.inl (s _ _ h))
    · exact .inl (.inr ⟨o, s _ _ h⟩)
    · exact .inr h
def spMissOf (K : PySem.W.Frag) : Sp := fun vs H Q _ => ∃ (p q : Addr) (r : Rd) (hs : List Int), vs = [.ref p, .ref q] ∧ H p = some (.tup (rdV r)) ∧ Ints K H q hs ∧ r.a < hs.length ∧ r.b < hs.length ∧ Q (.int (miss r hs)) H
theorem ok_miss_of (A : All K mg) : FnOk P w K mg base CX0 1 A.a_miss_of A.d_miss_of ["reading", "heights"] (spMissOf K) := by
  refine A.F_miss_of.ok sc_miss_of (fun vs H Q E h => ?_) (fun cdv A' outer s H vs Q E hr h => ?_)
  · obtain ⟨p, q, r, hs, rfl, _⟩ := h
    rfl
  · obtain ⟨p, q, r, hs, rfl, hp, hq, ha, hb, k⟩ := h
    refine ⟨_, (pss_one (ps_ret (pe_op op_add (pe_op op_sub (pe_ix (ix_A K rfl) (pv 0) pe_int (fun _ _ => rfl)) (pe_ix (ix_A K rfl) (pv 1) (pe_ix (ix_A K rfl) (pv 0) pe_int (fun _ _ => rfl)) (fun _ _ => rfl))) (pe_ix (ix_A K rfl) (pv 1) (pe_ix (ix_A K rfl) (pv 0) pe_int (fun _ _ => rfl)) (fun _ _ => rfl))))), ?_⟩
    walk_at "go"
    refine w_ixT hp (atI_nat (j := 2) rfl) ?_
    walk_at "go"
    refine w_ixT hp (atI_nat (j := 1) rfl) (hq.ix hb ?_)
    walk_at "go"
    refine w_ixT hp (atI_nat (j := 0) rfl) (hq.ix ha ?_)
    walk_at "go"
    exact k

def missesL (rs : List Rd) (hs : List Int) : List Int := rs.map fun r => miss r hs
theorem missesL_at {rs : List Rd} {hs : List Int} {i : Nat} (h : i < rs.length) : gi (missesL rs hs) i = miss (rat rs i) hs := by
  unfold gi missesL rat
  simp [List.getD_eq_getElem?_getD, h]
/-- a new row of ints -/
def retT (H : Hp) (Q : VK) (xs : List Int) : Prop := ∀ p H', Same H H' → H p = none → H' p = some (.tup (xs.map V.int)) → Q (.ref p) H'
theorem rat_at {N : Net} {H : Hp} (h : NetAt H N) {i : Nat} (hi : i < N.rs.length) {x : V} (e : (N.ps.map V.ref)[i]? = some x) : x = .ref (N.ps.getD i 0) ∧ H (N.ps.getD i 0) = some (.tup (rdV (rat N.rs i))) := by
  refine ⟨?_, h.r i hi⟩
  have hl : i < N.ps.length := by rw [h.pl]; exact hi
  rw [List.getElem?_map, List.getElem?_eq_getElem hl] at e
  rw [List.getD_eq_getElem?_getD, List.getElem?_eq_getElem hl]
  exact (Option.some.inj e).symm
theorem NetAt.same {H H' : Hp} {N : Net} (h : NetAt H N) (s : Same H H') : NetAt H' N := h.tp (Tp.of s)
def spMisses (K : PySem.W.Frag) : Sp := fun vs H Q _ => ∃ (N : Net) (q : Addr) (hs : List Int), vs = [.ref N.a, .ref q] ∧ NetAt H N ∧ NOk N ∧ Ints K H q hs ∧ hs.length = N.n ∧ retT H Q (missesL N.rs hs)
theorem ok_misses (A : All K mg) : FnOk P w K mg base CX0 2 A.a_misses A.d_misses ["net", "heights"] (spMisses K) := by
  refine A.F_misses.ok sc_misses (fun vs H Q E h => ?_) (fun cdv A' outer s H vs Q E hr h => ?_)
  · obtain ⟨N, q, hs, rfl, _⟩ := h
    rfl
  · obtain ⟨N, q, hs, rfl, hN, ok, hq, hl, k⟩ := h
    refine ⟨_, (pss_one (ps_ret (pe_callTy (call_tupA K rfl) (by rfl) A.z_tuple (by decide +kernel) (pa_cons (pe_lc (own := [("reading", 2)]) (g := (gName 2)) (tt := tYes) rfl sc_misses.nd (pi_tup (pe_ix (ix_A K rfl) (pv 0) pe_int (fun _ _ => rfl))) (blkOk_by (own := [("reading", 2)]) (N := ["net", "heights", "reading"]) (sc := defScope s_misses) (by decide +kernel)) (fun _ _ _ _ _ => (pg_name (i := 2) sc_misses.nd rfl (by first | exact Or.inl rfl | exact Or.inr rfl))) (fun _ _ _ _ _ => pts_nil) (fun _ _ _ _ _ => (pe_call (ok_miss_of A) hr (by rfl) A.g_miss_of A.F_miss_of.kp A.b_miss_of .nil pass0 (pa_cons (pv 2) (pa_cons (pv 1) pa_nil))))) pa_nil)))), ?_⟩
    walk_at "go"
    refine w_ixT hN.a (atI_nat (j := 2) rfl) ⟨N.t, rfl, ⟨_, SqT.of hN.t⟩, fun L nL => ?_⟩
    refine lc walk_tup (by rw [List.length_map, hN.pl]; have := ok.r9; omega) nL (fun i acc _ => acc = ((N.rs.take i).map fun r => miss r hs).map V.int) (fun _ _ _ => rfl) (fun i acc H' s' _ => s'.tup hN.t) ?_ ?_
    · rintro i acc x H2 H3 F No hi s2 eL ea ⟨rfl, hx⟩ hF _
      rw [List.length_map, hN.pl] at hi
      obtain ⟨rfl, er⟩ := rat_at (hN.same s2) hi hx
      walk_at "go"
      refine ⟨rfl, ?_⟩
      walk_at "go"
      rw [if_pos rfl]
      walk_at "go"
      refine ⟨_, q, _, hs, rfl, er, hq.same s2, by rw [hl]; exact ok.ok.a _ (TL.rat_mem hi), by rw [hl]; exact ok.ok.b _ (TL.rat_mem hi), ?_⟩
      refine hF _ _ (Same.refl _) fun H5 _ _ _ _ => ?_
      rw [ea, take_map (TL.rat_get hi), List.map_append]
      rfl
    · intro acc H2 s2 eL _ ea
      rw [List.length_map, hN.pl, take_all] at ea
      walk_at "go"
      refine w_tupA eL fun p H3 np s3 ep => ?_
      walk_at "go"
      refine k p H3 (s2.trans s3) (s2.free np) ?_
      rw [ep, ea]
      rfl

def costL (rs : List Rd) (hs : List Int) : Int := ((missesL rs hs).map absI).sum
theorem sumZ_list {α : Type} (F : α → Int) (d : α) : ∀ l : List α, (l.map F).sum = TL.sumZ (fun i => F (l.getD i d)) l.length := by
  have key : ∀ (l : List α) (k : Nat), k ≤ l.length → ((l.take k).map F).sum = TL.sumZ (fun i => F (l.getD i d)) k := fun l k => by
    induction k with
    | zero => intro _; simp [TL.sumZ]
    | succ k ih =>
      intro h
      rw [List.take_add_one, List.map_append, List.sum_append, ih (by omega), List.getElem?_eq_getElem (by omega), TL.sumZ]
      simp [List.getD_eq_getElem?_getD, show k < l.length by omega]
  intro l
  have := key l l.length (Nat.le_refl _)
  rw [List.take_length] at this
  exact this
theorem costL_eq (rs : List Rd) (hs : List Int) : costL rs hs = TL.costZ rs hs := by
  unfold costL missesL TL.costZ
  rw [List.map_map, sumZ_list _ TL.dR]
  rfl
def spCost (K : PySem.W.Frag) : Sp := fun vs H Q _ => ∃ (N : Net) (q : Addr) (hs : List Int), vs = [.ref N.a, .ref q] ∧ NetAt H N ∧ NOk N ∧ Ints K H q hs ∧ hs.length = N.n ∧ ∀ H', Same H H' → Q (.int (costL N.rs hs)) H'
theorem ok_cost (A : All K mg) : FnOk P w K mg base CX0 3 A.a_cost A.d_cost ["net", "heights"] (spCost K) := by
  refine A.F_cost.ok sc_cost (fun vs H Q E h => ?_) (fun cdv A' outer s H vs Q E hr h => ?_)
  · obtain ⟨N, q, hs, rfl, _⟩ := h
    rfl
  · obtain ⟨N, q, hs, rfl, hN, ok, hq, hl, k⟩ := h
    refine ⟨_, (pss_one (ps_ret (pe_callB (cr_sum rfl) (by rfl) A.z_sum (by decide +kernel) (pa_cons (pe_lc (own := [("miss", 2)]) (g := (gName 2)) (tt := tYes) rfl sc_cost.nd (pi_tup (pe_call (ok_misses A) hr (by rfl) A.g_misses A.F_misses.kp A.b_misses .nil pass0 (pa_cons (pv 0) (pa_cons (pv 1) pa_nil)))) (blkOk_by (own := [("miss", 2)]) (N := ["net", "heights", "miss"]) (sc := defScope s_cost) (by decide +kernel)) (fun _ _ _ _ _ => (pg_name (i := 2) sc_cost.nd rfl (by first | exact Or.inl rfl | exact Or.inr rfl))) (fun _ _ _ _ _ => pts_nil) (fun _ _ _ _ _ => (pe_callB call_absA (by rfl) A.z_abs (by decide +kernel) (pa_cons (pv 2) pa_nil)))) pa_nil)))), ?_⟩
    walk_at "go"
    refine ⟨N, q, hs, rfl, hN, ok, hq, hl, fun p H1 s1 np ep => ?_⟩
    refine ⟨p, rfl, ⟨_, SqT.of ep⟩, fun L nL => ?_⟩
    have lm : (missesL N.rs hs).length = N.rs.length := by simp [missesL]
    refine lc walk_tup (by rw [List.length_map, lm]; have := ok.r9; omega) nL (fun i acc _ => acc = (((missesL N.rs hs).take i).map absI).map V.int) (fun _ _ _ => rfl) (fun i acc H' s' _ => s'.tup ep) ?_ ?_
    · rintro i acc x H2 H3 F No hi s2 eL ea ⟨rfl, hx⟩ hF _
      rw [List.length_map] at hi
      rw [List.getElem?_map, List.getElem?_eq_getElem hi] at hx
      cases hx
      walk_at "go"
      refine ⟨rfl, ?_⟩
      walk_at "go"
      rw [if_pos rfl]
      walk_at "go"
      refine hF _ _ (Same.refl _) fun H5 _ _ _ _ => ?_
      rw [ea, take_map (List.getElem?_eq_getElem hi), List.map_append]
      rfl
    · intro acc H2 s2 eL _ ea
      rw [List.length_map, take_all] at ea
      walk_at "go"
      refine ⟨L, (missesL N.rs hs).map absI, rfl, SqL.of (by rw [eL, ea]), ?_⟩
      walk_at "go"
      exact k _ (s1.trans s2)
def spSign : Sp := fun vs H Q _ => ∃ n : Int, vs = [.int n] ∧ Q (.int (TL.sgn n)) H
theorem ok_sign (A : All K mg) : FnOk P w K mg base CX0 1 A.a_sign A.d_sign ["n"] spSign := by
  refine A.F_sign.ok sc_sign (fun vs H Q E h => ?_) (fun cdv A' outer s H vs Q E hr h => ?_)
  · obtain ⟨n, rfl, _⟩ := h
    rfl
  · obtain ⟨n, rfl, k⟩ := h
    refine ⟨_, (pss_one (ps_ret (pe_op op_sub (pe_callTy call_intA (by rfl) A.z_int (by decide +kernel) (pa_cons (pe_cmpR op_gt (pv 0) pe_int (nomark _)) pa_nil)) (pe_callTy call_intA (by rfl) A.z_int (by decide +kernel) (pa_cons (pe_cmpR op_lt (pv 0) pe_int (nomark _)) pa_nil))))), ?_⟩
    walk_at "go"
    have e : ((if decide (0 < n) = true then (1 : Int) else 0) - if decide (n < 0) = true then (1 : Int) else 0) = TL.sgn n := by
      unfold TL.sgn
      simp only [decide_eq_true_eq]
    rw [e]
    exact k
/-! ### the search's object -/
structure Sr where
  p : Addr
  dx : Addr
  hl : Addr
  fl : Addr
  wp : Addr
def srF (N : Net) (S : Sr) : List (Str × V) := [("net", .ref N.a), ("weights", .ref S.wp), ("many", .int (N.n : Int)), ("heights", .ref S.hl), ("flow", .ref S.fl)]
def onesL (N : Net) : List Int := List.replicate N.rs.length 1
structure SrAt (C : Addr) (H : Hp) (N : Net) (S : Sr) (h f : List Int) : Prop where
  o : H S.p = some (.ins C S.dx (srF N S))
  hl : H S.hl = some (.lst (h.map V.int))
  fl : H S.fl = some (.lst (f.map V.int))
  w : H S.wp = some (.tup ((onesL N).map V.int))
  net : NetAt H N
  ne : S.hl ≠ S.fl
theorem lk_net {N : Net} {S : Sr} : (srF N S).lookup ("net" : Str) = some (.ref N.a) := lk_yes
theorem lk_weights {N : Net} {S : Sr} : (srF N S).lookup ("weights" : Str) = some (.ref S.wp) := by
  unfold srF
  rw [lk_no (by decide +kernel), lk_yes]
theorem lk_many {N : Net} {S : Sr} : (srF N S).lookup ("many" : Str) = some (.int (N.n : Int)) := by
  unfold srF
  rw [lk_no (by decide +kernel), lk_no (by decide +kernel), lk_yes]
theorem lk_heights {N : Net} {S : Sr} : (srF N S).lookup ("heights" : Str) = some (.ref S.hl) := by
  unfold srF
  rw [lk_no (by decide +kernel), lk_no (by decide +kernel), lk_no (by decide +kernel), lk_yes]
theorem lk_flow {N : Net} {S : Sr} : (srF N S).lookup ("flow" : Str) = some (.ref S.fl) := by
  unfold srF
  rw [lk_no (by decide +kernel), lk_no (by decide +kernel), lk_no (by decide +kernel), lk_no (by decide +kernel), lk_yes]
theorem lk_none {N : Net} {S : Sr} {m : Str} (h1 : (m == ("net" : Str)) = false) (h2 : (m == ("weights" : Str)) = false) (h3 : (m == ("many" : Str)) = false) (h4 : (m == ("heights" : Str)) = false) (h5 : (m == ("flow" : Str)) = false) : (srF N S).lookup m = none := by
  unfold srF
  rw [lk_no h1, lk_no h2, lk_no h3, lk_no h4, lk_no h5]
  rfl
section
variable {C : Addr} {H H1 : Hp} {N : Net} {S : Sr} {h f h' f' : List Int}
theorem SrAt.same (a : SrAt C H N S h f) (s : Same H H1) : SrAt C H1 N S h f := ⟨s _ _ a.o, s _ _ a.hl, s _ _ a.fl, s _ _ a.w, a.net.same s, a.ne⟩
theorem sm_at {L : List Addr} {b : Addr} {o : HO} (m : Sm L H H1) (e : H b = some o) (n : b ∉ L) : H1 b = some o := m b o n e
theorem SrAt.setH (a : SrAt C H N S h f) (m : Sm [S.hl] H H1) (e : H1 S.hl = some (.lst (h'.map V.int))) : SrAt C H1 N S h' f := by
  have t : Tp H H1 := Tp.sm m a.hl
  refine ⟨sm_at m a.o fun z => ?_, e, sm_at m a.fl fun z => a.ne (List.mem_singleton.mp z).symm, t _ _ a.w, a.net.tp t, a.ne⟩
  have q := a.hl
  rw [← List.mem_singleton.mp z, a.o] at q
  cases q
theorem SrAt.setF (a : SrAt C H N S h f) (m : Sm [S.fl] H H1) (e : H1 S.fl = some (.lst (f'.map V.int))) : SrAt C H1 N S h f' := by
  have t : Tp H H1 := Tp.sm m a.fl
  refine ⟨sm_at m a.o fun z => ?_, sm_at m a.hl fun z => a.ne (List.mem_singleton.mp z), e, t _ _ a.w, a.net.tp t, a.ne⟩
  have q := a.fl
  rw [← List.mem_singleton.mp z, a.o] at q
  cases q
end
theorem ones_at {N : Net} {i : Nat} (h : i < N.rs.length) : gi (onesL N) i = 1 := TL.gi_rep h
theorem flow0_take {rs : List Rd} {i : Nat} {r : Rd} (h : rs[i]? = some r) : TL.flow0 (rs.take (i + 1)) = TL.flow0 (rs.take i) ++ [TL.sgn r.v] := take_map h
def spInit (K : PySem.W.Frag) (C : Addr) : Sp := fun vs H Q _ => ∃ (N : Net) (p dx wp : Addr), vs = [.ref p, .ref N.a, .ref wp] ∧ H p = some (.ins C dx []) ∧ NetAt H N ∧ NOk N ∧ H wp = some (.tup ((onesL N).map V.int)) ∧
  ∀ H' hl fl, Sm [p] H H' → H hl = none → H fl = none → SrAt C H' N ⟨p, dx, hl, fl, wp⟩ (List.replicate N.n 0) (TL.flow0 N.rs) → Q .non H'
theorem pf_no {f g : Str} {v x : V} {r : List (Str × V)} (h : (g == f) = false) : putF f v ((g, x) :: r) = (g, x) :: putF f v r := by
  show (if g = f then _ else _) = _
  rw [if_neg (beq_eq_false_iff_ne.mp h)]
theorem pf_nil {f : Str} {v : V} : putF f v [] = [(f, v)] := rfl
theorem pfW {a b : V} : putF ("weights" : Str) b ([("net", a)] : List (Str × V)) = ([("net", a), ("weights", b)] : List (Str × V)) := by rw [pf_no (by decide +kernel), pf_nil]
theorem pfM {a b c : V} : putF ("many" : Str) c ([("net", a), ("weights", b)] : List (Str × V)) = ([("net", a), ("weights", b), ("many", c)] : List (Str × V)) := by rw [pf_no (by decide +kernel), pf_no (by decide +kernel), pf_nil]
theorem pfH {a b c d : V} : putF ("heights" : Str) d ([("net", a), ("weights", b), ("many", c)] : List (Str × V)) = ([("net", a), ("weights", b), ("many", c), ("heights", d)] : List (Str × V)) := by rw [pf_no (by decide +kernel), pf_no (by decide +kernel), pf_no (by decide +kernel), pf_nil]
theorem pfF {a b c d e : V} : putF ("flow" : Str) e ([("net", a), ("weights", b), ("many", c), ("heights", d)] : List (Str × V)) = ([("net", a), ("weights", b), ("many", c), ("heights", d), ("flow", e)] : List (Str × V)) := by
  rw [pf_no (by decide +kernel), pf_no (by decide +kernel), pf_no (by decide +kernel), pf_no (by decide +kernel), pf_nil]
theorem ok_init (A : All K mg) : FnOk P w K mg base CX0 2 A.a_init A.d_init ["self", "net", "weights"] (spInit K A.C) := by
  refine A.F_init.ok sc_init (fun vs H Q E h => ?_) (fun cdv A' outer s H vs Q E hr h => ?_)
  · obtain ⟨N, p, dx, wp, rfl, _⟩ := h
    rfl
  · obtain ⟨N, p, dx, wp, rfl, hp, hN, ok, hw, k⟩ := h
    refine ⟨_, (pss_cons (ps_fld (pv 0) (pv 1) rfl) (pss_cons (ps_fld (pv 0) (pv 2) rfl) (pss_cons (ps_fld (pv 0) (pe_callB (call_lenA K rfl) (by rfl) A.z_len (by decide +kernel) (pa_cons (pe_ix (ix_A K rfl) (pv 1) pe_int (fun _ _ => rfl)) pa_nil)) rfl) (pss_cons (ps_fld (pv 0) (pe_op op_rep (pe_lst (pa_cons pe_int pa_nil)) (pe_fldA K rfl (pv 0) rfl)) rfl) (pss_one (ps_fld (pv 0) (pe_lc (own := [("weight", 3), ("reading", 4)]) (g := (gTup K 2 (gCons (gName 3) (gCons (gName 4) gNil)))) (tt := tYes) rfl sc_init.nd (RZ.pi_zipA (by rfl) A.z_zip (pa_cons (pv 2) (pa_cons (pe_ix (ix_A K rfl) (pv 1) pe_int (fun _ _ => rfl)) pa_nil))) (blkOk_by (own := [("weight", 3), ("reading", 4)]) (N := ["self", "net", "weights", "weight", "reading"]) (sc := defScope s_init) (by decide +kernel)) (fun _ _ _ _ _ => (pg_tupA K rfl rfl (pgs_cons (pg_name (i := 3) sc_init.nd rfl (by first | exact Or.inl rfl | exact Or.inr rfl)) (pgs_cons (pg_name (i := 4) sc_init.nd rfl (by first | exact Or.inl rfl | exact Or.inr rfl)) pgs_nil)))) (fun _ _ _ _ _ => pts_nil) (fun _ _ _ _ _ => (pe_op op_mul (pv 3) (pe_call (ok_sign A) hr (by rfl) A.g_sign A.F_sign.kp A.b_sign .nil pass0 (pa_cons (pe_ix (ix_A K rfl) (pv 4) pe_int (fun _ _ => rfl)) pa_nil))))) rfl)))))), ?_⟩
    -- self.net, self.weights, self.many
    walk_at "go"
    refine w_fs hp A.cl A.n_net (by show 0 < 1000; decide) fun H1 m1 e1 => ?_
    have np : ∀ {b o}, H b = some o → (∀ C dx fs, o ≠ .ins C dx fs) → b ∉ [p] := fun {b o} e z hm => by
      rw [List.mem_singleton.mp hm, hp] at e
      cases e
      exact z _ _ _ rfl
    have t1 : Tp H H1 := fun b xs e => m1 b _ (np e fun _ _ _ z => by cases z) e
    walk_at "go"
    refine w_fs e1 A.cl A.n_weights (by show 1 < 1000; decide) fun H2 m2 e2 => ?_
    have t2 : Tp H H2 := fun b xs e => m2 b _ (np e fun _ _ _ z => by cases z) (t1 b xs e)
    walk_at "go"
    refine w_ixT (t2 _ _ hN.a) (atI_nat (j := 1) rfl) ?_
    walk_at "go"
    refine w_lenT (t2 _ _ hN.m) ?_
    walk_at "go"
    refine w_fs e2 A.cl A.n_many (by show 2 < 1000; decide) fun H3 m3 e3 => ?_
    have t3 : Tp H H3 := fun b xs e => m3 b _ (np e fun _ _ _ z => by cases z) (t2 b xs e)
    have m13 : Sm [p] H H3 := fun b o n e => m3 b o n (m2 b o n (m1 b o n e))
    rw [List.length_map] at e3
    -- self.heights
    rw [pf_nil] at e1 e2
    rw [pf_nil, pfW] at e3
    walk_at "go"
    refine w_newL (sz rfl) fun l0 H4 n4 s4 e4 => ?_
    have e5 := s4 _ _ e3
    walk_at "go"
    rw [pfM] at e5
    refine w_fld e5 A.cl A.n_many (by rw [lk_no (by decide +kernel), lk_no (by decide +kernel), lk_yes]) ?_
    refine w_rep1 e4 (by have := ok.n4; show N.nm.length ≤ 1000; unfold Net.n at this; omega) fun hl H5 n5 s5 e6 => ?_
    walk_at "go"
    refine w_fs (s5 _ _ e5) A.cl A.n_heights (by show 3 < 1000; decide) fun H6 m6 e7 => ?_
    rw [pfH] at e7
    have t6 : Tp H H6 := fun b xs e => m6 b _ (np e fun _ _ _ z => by cases z) (s5 _ _ (s4 _ _ (t3 b xs e)))
    -- self.flow
    walk_at "go"
    refine w_ixT (t6 _ _ hN.a) (atI_nat (j := 2) rfl) ?_
    walk_at "go"
    have lw : ((onesL N).map V.int).length = N.rs.length := by simp [onesL]
    have lp : (N.ps.map V.ref).length = N.rs.length := by rw [List.length_map, hN.pl]
    refine ⟨wp, N.t, _, _, rfl, .inr ⟨SqT.of (t6 _ _ hw), SqT.of (t6 _ _ hN.t), fun fl nl => ?_⟩⟩
    refine lc (walk_zipT (by rw [lw, lp])) (by rw [lw]; have := ok.r9; omega) nl (fun i acc _ => acc = (TL.flow0 (N.rs.take i)).map V.int) (fun _ _ _ => rfl) (fun i acc H' s' _ => ⟨s'.tup (t6 _ _ hw), s'.tup (t6 _ _ hN.t)⟩) ?_ ?_
    · rintro i acc v H7 H8 F No hi s7 eL ea ⟨T, x, y, rfl, nT, rfl, hx, hy⟩ hF _
      rw [lw] at hi
      obtain ⟨ey, er⟩ := rat_at ((hN.tp t6).same (s7.trans (same_new nT))) hi hy
      subst ey
      have ex : x = .int 1 := by
        dsimp only at hx
        rw [List.getElem?_map, show (onesL N)[i]? = some 1 by simp [onesL, hi]] at hx
        exact (Option.some.inj hx).symm
      subst ex
      refine w_gT upd_same rfl ?_
      walk_at "go"
      refine ⟨rfl, ?_⟩
      walk_at "go"
      rw [if_pos rfl]
      walk_at "go"
      refine w_ixT er (atI_nat (j := 2) rfl) ?_
      walk_at "go"
      refine ⟨_, rfl, ?_⟩
      refine w_I (.inl ⟨by decide, by decide⟩) ?_
      refine hF _ _ (same_new nT) fun H5 _ _ _ _ => ?_
      rw [ea, flow0_take (TL.rat_get hi), List.map_append, Int.one_mul]
      rfl
    · intro acc H7 s7 eL _ ea
      rw [lw, take_all] at ea
      walk_at "go"
      refine w_fs (s7 _ _ e7) A.cl A.n_flow (by show 4 < 1000; decide) fun H8 m8 e8 => ?_
      rw [pfF] at e8
      walk_at "go"
      have hlp : ∀ {b : Addr} {xs : List V}, H6 b = some (.lst xs) → b ∉ [p] := fun {b xs} e hm => by
        rw [List.mem_singleton.mp hm, e7] at e
        cases e
      have hlp5 : hl ∉ [p] := fun hm => by
        have z := s5 _ _ e5
        rw [← List.mem_singleton.mp hm, e6] at z
        cases z
      have h6 : H6 hl = some (.lst (List.replicate N.nm.length (V.int 0))) := m6 _ _ hlp5 e6
      have back : ∀ (Hx : Hp) (b : Addr), Sm [p] H Hx → (∃ o, Hx p = some o) → Hx b = none → H b = none := fun Hx b m ex e => by
        cases q : H b with
        | none => rfl
        | some o =>
          by_cases hb : b = p
          · obtain ⟨o', z⟩ := ex
            rw [hb, z] at e
            cases e
          · rw [m b o (fun z => hb (List.mem_singleton.mp z)) q] at e
            cases e
      have m14 : Sm [p] H H4 := fun b o n e => s4 _ _ (m13 b o n e)
      have m16 : Sm [p] H H6 := fun b o n e => m6 _ _ n (s5 _ _ (m14 b o n e))
      have t8 : Tp H H8 := fun b xs e => m8 b _ (np e fun _ _ _ z => by cases z) (s7 _ _ (t6 b xs e))
      refine k H8 hl fl (fun b o n e => m8 b o n (s7 _ _ (m16 b o n e))) (back H4 hl m14 ⟨_, e5⟩ n5) (back H6 fl m16 ⟨_, e7⟩ nl) ⟨e8, ?_, ?_, t8 _ _ hw, hN.tp t8, fun z => ?_⟩
      · show H8 hl = _
        rw [m8 hl _ hlp5 (s7 _ _ h6), List.map_replicate]
        rfl
      · show H8 fl = _
        rw [m8 fl _ (fun hm => by
          have := s7 _ _ e7
          rw [← List.mem_singleton.mp hm, eL] at this
          cases this) eL, ea]
      · have z : hl = fl := z
        rw [← z, h6] at nl
        cases nl
end
end TW

namespace TW
open PySem L2
/-- one step of a reading -/
local macro_rules | `(tactic| walk_at "st") => `(tactic| first
  | with_reducible refine w_seq ?_ | with_reducible refine w_next ?_ | with_reducible refine w_nx ?_ | with_reducible refine w_rt ?_ | with_reducible refine w_asg ?_ | with_reducible refine w_name ?_
  | with_reducible refine w_op ?_ | with_reducible refine w_un ?_ | with_reducible refine w_var rfl ?_ | with_reducible refine w_c ?_ | with_reducible refine w_ret ?_ | with_reducible refine w_drop ?_
  | with_reducible refine w_if ?_ | with_reducible refine w_test ?_ | with_reducible refine w_tB ?_ | with_reducible refine w_k ?_ | with_reducible refine w_and ?_ | with_reducible refine w_or ?_ | with_reducible refine w_yes ?_
  | with_reducible refine w_nil ?_ | with_reducible refine w_cons ?_ | with_reducible refine w_cb ?_ | with_reducible refine w_call ?_ | with_reducible refine w_I0 ?_ | with_reducible refine w_neg ?_
  | with_reducible refine w_eqI ?_ | with_reducible refine w_neI ?_ | with_reducible refine w_abs ?_ | with_reducible refine w_min2 ?_ | with_reducible refine w_intI ?_ | with_reducible refine w_intB ?_
  | with_reducible refine w_isN0 ?_ | with_reducible refine w_isN1 ?_ | with_reducible refine w_isN2 ?_ | with_reducible refine w_noN0 ?_ | with_reducible refine w_noN1 ?_ | with_reducible refine w_noN2 ?_
  | with_reducible refine w_sub ?_ | with_reducible refine w_for ?_ | with_reducible refine w_lc ?_ | with_reducible refine w_iT ?_ | with_reducible refine w_iL ?_ | with_reducible refine w_iE ?_ | with_reducible refine w_iEl ?_
  | with_reducible refine w_iZ ?_ | with_reducible refine w_iR1 ?_ | with_reducible refine w_iR2 ?_ | with_reducible refine w_gc ?_ | with_reducible refine w_gn ?_ | with_reducible refine w_bm ?_ | with_reducible refine w_sfld ?_ | with_reducible refine w_tfld ?_ | with_reducible refine w_meth ?_ | with_reducible refine w_make ?_ | with_reducible refine w_tup ?_ | with_reducible refine w_lst ?_)
local macro_rules | `(tactic| walk_at "go") => `(tactic| repeat walk_at "st")
local macro_rules | `(tactic| walk_at "nx") => `(tactic| repeat (first | with_reducible refine w_next ?_ | with_reducible refine w_nx ?_ | with_reducible refine w_name ?_ | with_reducible refine w_gc ?_ | with_reducible refine w_gn ?_))

open TL (Rd rat miss gi absI Stp BF)
section
variable {P : Program} {w : World} {K : PySem.W.Frag} {mg : Str → Option Value} {base : Heap}
/-! ### excess -/
def retL (H : Hp) (Q : VK) (xs : List Int) : Prop := ∀ l H', Same H H' → H l = none → H' l = some (.lst (xs.map V.int)) → Q (.ref l) H'
theorem gi_len {f : List Int} {i : Nat} (h : i < f.length) : f.map V.int = f.map V.int := rfl
def spExcess (C : Addr) : Sp := fun vs H Q _ => ∃ (N : Net) (S : Sr) (h f : List Int), vs = [.ref S.p] ∧ SrAt C H N S h f ∧ NOk N ∧ f.length = N.rs.length ∧ retL H Q (TL.excess N.n N.rs f)
theorem ok_excess (A : All K mg) : FnOk P w K mg base CX0 1 A.a_excess A.d_excess ["self"] (spExcess A.C) := by
  refine A.F_excess.ok sc_excess (fun vs H Q E h => ?_) (fun cdv A' outer s H vs Q E hr h => ?_)
  · obtain ⟨N, S, h, f, rfl, _⟩ := h
    rfl
  · obtain ⟨N, S, h, f, rfl, a, ok, lf, k⟩ := h
    refine ⟨_, (pss_cons (ps_set (i := 1) sc_excess.nd rfl (by first | exact Or.inl rfl | exact Or.inr rfl) (pe_op op_rep (pe_lst (pa_cons pe_int pa_nil)) (pe_fldA K rfl (pv 0) rfl))) (pss_cons (ps_for PassesOwn.never rfl (pi_enumT (by rfl) A.z_enumerate (pa_cons (pe_ix (ix_A K rfl) (pe_fldA K rfl (pv 0) rfl) pe_int (fun _ _ => rfl)) pa_nil)) (pg_tupA K rfl rfl (pgs_cons (pg_name (i := 2) sc_excess.nd rfl (by first | exact Or.inl rfl | exact Or.inr rfl)) (pgs_cons (pg_name (i := 3) sc_excess.nd rfl (by first | exact Or.inl rfl | exact Or.inr rfl)) pgs_nil))) (pss_cons (ps_asg (pe_op op_sub (pe_ix (ix_A K rfl) (pv 1) (pe_ix (ix_A K rfl) (pv 3) pe_int (fun _ _ => rfl)) (fun _ _ => rfl)) (pe_ix (ix_A K rfl) (pe_fldA K rfl (pv 0) rfl) (pv 2) (fun _ _ => rfl))) (pg_sub (pv 1) (pe_ix (ix_A K rfl) (pv 3) pe_int (fun _ _ => rfl)) set_list)) (pss_one (ps_asg (pe_op op_add (pe_ix (ix_A K rfl) (pv 1) (pe_ix (ix_A K rfl) (pv 3) pe_int (fun _ _ => rfl)) (fun _ _ => rfl)) (pe_ix (ix_A K rfl) (pe_fldA K rfl (pv 0) rfl) (pv 2) (fun _ _ => rfl))) (pg_sub (pv 1) (pe_ix (ix_A K rfl) (pv 3) pe_int (fun _ _ => rfl)) set_list))))) (pss_one (ps_ret (pv 1))))), ?_⟩
    have n4 := ok.n4
    have r9 := ok.r9
    walk_at "go"
    refine w_newL (sz rfl) fun l0 H1 n1 s1 e1 => ?_
    have a1 := a.same s1
    walk_at "go"
    refine w_fld a1.o A.cl A.n_many lk_many ?_
    refine w_rep1 e1 (by omega) fun l H2 n2 s2 e2 => ?_
    have a2 := a1.same s2
    have s02 : Same H H2 := s1.trans s2
    have nl : H l = none := s1.free n2
    walk_at "go"
    refine w_fld a2.o A.cl A.n_net lk_net ?_
    walk_at "go"
    refine w_ixT a2.net.a (atI_nat (j := 2) rfl) ?_
    walk_at "go"
    refine ⟨N.t, _, rfl, SqT.of a2.net.t, ?_⟩
    have lp : (N.ps.map V.ref).length = N.rs.length := by rw [List.length_map, a.net.pl]
    refine fo walk_enumT (fun i σ H' => ∃ y z, σ = [some (.ref S.p), some (.ref l), y, z] ∧ Same H H' ∧ H' l = some (.lst ((TL.exTo N.n N.rs f i).map V.int))) ⟨none, none, rfl, s02, ?_⟩ (fun i σ H' _ ⟨_, _, _, s', _⟩ => s'.tup a.net.t) ?_ ?_
    · rw [e2]
      show _ = some (HO.lst ((List.replicate N.n (0 : Int)).map V.int))
      rw [List.map_replicate]
    · rintro i x σ H3 H4 hi ⟨y, z, rfl, s3, e3⟩ ⟨T, u, v, rfl, nT, rfl, hu, hv⟩
      rw [lp] at hi
      cases hu
      have s4 : Same H3 (upd H3 T (.tup [.int (i : Nat), v])) := same_new nT
      have a4 := a.same (s3.trans s4)
      obtain ⟨ev, er⟩ := rat_at a4.net hi hv
      subst ev
      have lx := TL.exTo_len N.n N.rs f i
      have ha := ok.ok.a _ (TL.rat_mem hi)
      have hb := ok.ok.b _ (TL.rat_mem hi)
      refine w_gT upd_same rfl ?_
      walk_at "go"
      refine w_ixT er (atI_nat (j := 0) rfl) (w_ixL (s4 _ _ e3) (at_int (by rw [lx]; exact ha)) ?_)
      walk_at "go"
      refine w_fld a4.o A.cl A.n_flow lk_flow ?_
      walk_at "go"
      refine w_ixL a4.fl (at_int (by rw [lf]; exact hi)) ?_
      walk_at "go"
      refine w_ixT er (atI_nat (j := 0) rfl) (w_setL (s4 _ _ e3) (by rw [List.length_map, lx]; exact ha) fun H5 m5 e5 => ?_)
      rw [set_ints] at e5
      have s5 : Same H H5 := same_sm (s3.trans s4) m5 nl
      have t5 := Tp.sm m5 (s4 _ _ e3)
      have a5 := a.same s5
      walk_at "go"
      refine w_ixT (t5 _ _ er) (atI_nat (j := 1) rfl) (w_ixL e5 (at_int (by rw [List.length_set, lx]; exact hb)) ?_)
      walk_at "go"
      refine w_fld a5.o A.cl A.n_flow lk_flow ?_
      walk_at "go"
      refine w_ixL a5.fl (at_int (by rw [lf]; exact hi)) ?_
      walk_at "go"
      refine w_ixT (t5 _ _ er) (atI_nat (j := 1) rfl) (w_setL e5 (by rw [List.length_map, List.length_set, lx]; exact hb) fun H6 m6 e6 => ?_)
      rw [set_ints] at e6
      exact ⟨_, _, rfl, same_sm s5 m6 nl, e6⟩
    · rintro σ H3 ⟨y, z, rfl, s3, e3⟩
      rw [lp] at e3
      walk_at "go"
      exact k l H3 s3 nl e3

/-! ### steps -/
def stV (e : Stp) : List V := [.int e.fr, .int e.to, .int e.w, .int e.ix, .int e.sg]
structure StepsAt (H : Hp) (ps : List Addr) (es : List Stp) : Prop where
  l : ps.length = es.length
  r : ∀ i, i < es.length → H (ps.getD i 0) = some (.tup (stV (es.getD i TL.dS)))
theorem StepsAt.tp {H H' : Hp} {ps : List Addr} {es : List Stp} (a : StepsAt H ps es) (t : Tp H H') : StepsAt H' ps es := ⟨a.l, fun i hi => t _ _ (a.r i hi)⟩
theorem StepsAt.nil {H : Hp} : StepsAt H [] [] := ⟨rfl, fun i hi => absurd hi (Nat.not_lt_zero i)⟩
theorem StepsAt.snoc {H : Hp} {ps : List Addr} {es : List Stp} {p : Addr} {e : Stp} (a : StepsAt H ps es) (h : H p = some (.tup (stV e))) : StepsAt H (ps ++ [p]) (es ++ [e]) := by
  refine ⟨by rw [List.length_append, List.length_append, a.l]; rfl, fun i hi => ?_⟩
  rw [List.length_append] at hi
  have l := a.l
  by_cases c : i < es.length
  · rw [List.getD_eq_getElem?_getD, List.getD_eq_getElem?_getD, List.getElem?_append_left (by omega), List.getElem?_append_left c, ← List.getD_eq_getElem?_getD, ← List.getD_eq_getElem?_getD]
    exact a.r i c
  · have hi : i < es.length + 1 := hi
    have e1 : i = es.length := by omega
    subst e1
    rw [List.getD_eq_getElem?_getD, List.getD_eq_getElem?_getD, List.getElem?_append_right (by omega), List.getElem?_append_right (Nat.le_refl _), ← l, Nat.sub_self]
    exact h
theorem refs_snoc {ps : List Addr} {p : Addr} : ps.map V.ref ++ [V.ref p] = (ps ++ [p]).map V.ref := by rw [List.map_append]; rfl
def spSteps (C : Addr) : Sp := fun vs H Q _ => ∃ (N : Net) (S : Sr) (h f : List Int), vs = [.ref S.p] ∧ SrAt C H N S h f ∧ NOk N ∧ h.length = N.n ∧ f.length = N.rs.length ∧
  ∀ l ps H', Same H H' → H l = none → H' l = some (.lst (ps.map V.ref)) → StepsAt H' ps (TL.stepsOf N.rs h f) → Q (.ref l) H'
theorem ok_steps (A : All K mg) : FnOk P w K mg base CX0 3 A.a_steps A.d_steps ["self"] (spSteps A.C) := by
  refine A.F_steps.ok sc_steps (fun vs H Q E h => ?_) (fun cdv A' outer s H vs Q E hr h => ?_)
  · obtain ⟨N, S, h, f, rfl, _⟩ := h
    rfl
  · obtain ⟨N, S, h, f, rfl, a, ok, lh, lf, k⟩ := h
    refine ⟨_, (pss_cons (ps_set (i := 1) sc_steps.nd rfl (by first | exact Or.inl rfl | exact Or.inr rfl) (pe_lst pa_nil)) (pss_cons (ps_set (i := 2) sc_steps.nd rfl (by first | exact Or.inl rfl | exact Or.inr rfl) (pe_call (ok_misses A) hr (by rfl) A.g_misses A.F_misses.kp A.b_misses .nil pass0 (pa_cons (pe_fldA K rfl (pv 0) rfl) (pa_cons (pe_fldA K rfl (pv 0) rfl) pa_nil)))) (pss_cons (ps_for PassesOwn.never rfl (pi_enumT (by rfl) A.z_enumerate (pa_cons (pe_ix (ix_A K rfl) (pe_fldA K rfl (pv 0) rfl) pe_int (fun _ _ => rfl)) pa_nil)) (pg_tupA K rfl rfl (pgs_cons (pg_name (i := 3) sc_steps.nd rfl (by first | exact Or.inl rfl | exact Or.inr rfl)) (pgs_cons (pg_name (i := 4) sc_steps.nd rfl (by first | exact Or.inl rfl | exact Or.inr rfl)) pgs_nil))) (pss_cons (ps_if (pt_cmpR op_lt (pe_ix (ix_A K rfl) (pe_fldA K rfl (pv 0) rfl) (pv 3) (fun _ _ => rfl)) (pe_ix (ix_A K rfl) (pe_fldA K rfl (pv 0) rfl) (pv 3) (fun _ _ => rfl)) (nomark _)) (pss_one (ps_expr (pe_bm PySem.F.plainAttrs_list PySem.F.slot_list_append PySem.F.type_list_append mt_append (pv 1) (pa_cons (pe_tup (pa_cons (pe_ix (ix_A K rfl) (pv 4) pe_int (fun _ _ => rfl)) (pa_cons (pe_ix (ix_A K rfl) (pv 4) pe_int (fun _ _ => rfl)) (pa_cons (pe_un un_neg (pe_ix (ix_A K rfl) (pv 2) (pv 3) (fun _ _ => rfl))) (pa_cons (pv 3) (pa_cons pe_int pa_nil)))))) pa_nil)))) pss_nil) (pss_one (ps_if (pt_cmpR op_gt (pe_ix (ix_A K rfl) (pe_fldA K rfl (pv 0) rfl) (pv 3) (fun _ _ => rfl)) (pe_un un_neg (pe_ix (ix_A K rfl) (pe_fldA K rfl (pv 0) rfl) (pv 3) (fun _ _ => rfl))) (nomark _)) (pss_one (ps_expr (pe_bm PySem.F.plainAttrs_list PySem.F.slot_list_append PySem.F.type_list_append mt_append (pv 1) (pa_cons (pe_tup (pa_cons (pe_ix (ix_A K rfl) (pv 4) pe_int (fun _ _ => rfl)) (pa_cons (pe_ix (ix_A K rfl) (pv 4) pe_int (fun _ _ => rfl)) (pa_cons (pe_ix (ix_A K rfl) (pv 2) (pv 3) (fun _ _ => rfl)) (pa_cons (pv 3) (pa_cons (pe_un un_neg pe_int) pa_nil)))))) pa_nil)))) pss_nil)))) (pss_one (ps_ret (pv 1)))))), ?_⟩
    have n4 := ok.n4
    have r9 := ok.r9
    walk_at "go"
    refine w_newL (sz rfl) fun l H1 nl s1 e1 => ?_
    have a1 := a.same s1
    walk_at "go"
    refine w_fld a1.o A.cl A.n_net lk_net ?_
    walk_at "go"
    refine w_fld a1.o A.cl A.n_heights lk_heights ?_
    walk_at "go"
    refine ⟨N, S.hl, h, rfl, a1.net, ok, .inl (SqL.of a1.hl), lh, fun tp H2 s2 ntp etp => ?_⟩
    have s02 : Same H H2 := s1.trans s2
    have a2 := a.same s02
    walk_at "go"
    refine w_fld a2.o A.cl A.n_net lk_net ?_
    walk_at "go"
    refine w_ixT a2.net.a (atI_nat (j := 2) rfl) ?_
    walk_at "go"
    refine ⟨N.t, _, rfl, SqT.of a2.net.t, ?_⟩
    have lp : (N.ps.map V.ref).length = N.rs.length := by rw [List.length_map, a.net.pl]
    have lm : (missesL N.rs h).length = N.rs.length := by simp [missesL]
    refine fo walk_enumT (fun i σ H' => ∃ y z ps, σ = [some (.ref S.p), some (.ref l), some (.ref tp), y, z] ∧ Same H H' ∧ H' tp = some (.tup ((missesL N.rs h).map V.int)) ∧ H' l = some (.lst (ps.map V.ref)) ∧ StepsAt H' ps (TL.upto (fun i acc => acc ++ TL.stepsAt N.rs h f i) [] i))
      ⟨none, none, [], rfl, s02, etp, s2 _ _ e1, StepsAt.nil⟩ (fun i σ H' _ ⟨_, _, _, _, s', _⟩ => s'.tup a.net.t) ?_ ?_
    · rintro i x σ H3 H4 hi ⟨y, z, ps, rfl, s3, etp3, e3, sa⟩ ⟨T, u, v, rfl, nT, rfl, hu, hv⟩
      rw [lp] at hi
      cases hu
      have s4 : Same H3 (upd H3 T (.tup [.int (i : Nat), v])) := same_new nT
      have s04 := s3.trans s4
      have a4 := a.same s04
      obtain ⟨ev, er⟩ := rat_at a4.net hi hv
      subst ev
      have e4 := s4 _ _ e3
      have sa4 := sa.tp (Tp.of s4)
      have etp4 := s4 _ _ etp3
      have lps : ps.length ≤ 18 := by
        have := TL.steps_len N.rs h f i
        rw [sa.l]
        omega
      have hw : gi (onesL N) i = 1 := ones_at hi
      have em : gi (missesL N.rs h) i = miss (rat N.rs i) h := missesL_at hi
      have up : TL.upto (fun i acc => acc ++ TL.stepsAt N.rs h f i) [] (i + 1) = TL.upto (fun i acc => acc ++ TL.stepsAt N.rs h f i) [] i ++ TL.stepsAt N.rs h f i := rfl
      generalize TL.upto (fun i acc => acc ++ TL.stepsAt N.rs h f i) [] i = es at sa sa4 up
      refine w_gT upd_same rfl ?_
      generalize upd H3 T (.tup [.int (i : Nat), .ref (N.ps.getD i 0)]) = H4 at *
      walk_at "go"
      refine w_fld a4.o A.cl A.n_flow lk_flow ?_
      walk_at "go"
      refine w_ixL a4.fl (at_int (by rw [lf]; exact hi)) ?_
      walk_at "go"
      refine w_fld a4.o A.cl A.n_weights lk_weights ?_
      walk_at "go"
      refine w_ixT a4.w (at_int (by simpa [onesL] using hi)) ?_
      walk_at "go"
      rw [hw]
      refine w_ifd (fun c1 => ?_) (fun c1 => ?_)
      · walk_at "go"
        refine ⟨tyL e4, ?_⟩
        walk_at "go"
        refine w_ixT er (atI_nat (j := 0) rfl) ?_
        walk_at "go"
        refine w_ixT er (atI_nat (j := 1) rfl) ?_
        walk_at "go"
        refine w_ixT etp4 (at_int (by rw [lm]; exact hi)) ?_
        walk_at "go"
        refine w_newT (sz rfl) fun p H5 np s5 e5 => ?_
        walk_at "go"
        refine w_app (s5 _ _ e4) (by rw [List.length_map]; omega) fun H6 m6 e6 => ?_
        have t6 := Tp.sm m6 (s5 _ _ e4)
        have s06 : Same H H6 := same_sm (s04.trans s5) m6 nl
        have a6 := a.same s06
        have er6 := t6 _ _ (s5 _ _ er)
        have etp6 := t6 _ _ (s5 _ _ etp4)
        have sa6 := (sa4.tp ((Tp.of s5).trans t6)).snoc (e := ⟨(rat N.rs i).a, (rat N.rs i).b, -(miss (rat N.rs i) h), i, 1⟩) (t6 _ _ (by rw [e5, em]; rfl))
        rw [refs_snoc] at e6
        walk_at "go"
        refine w_fld a6.o A.cl A.n_flow lk_flow ?_
        walk_at "go"
        refine w_ixL a6.fl (at_int (by rw [lf]; exact hi)) ?_
        walk_at "go"
        refine w_fld a6.o A.cl A.n_weights lk_weights ?_
        walk_at "go"
        refine w_ixT a6.w (at_int (by simpa [onesL] using hi)) ?_
        walk_at "go"
        rw [hw]
        refine w_ifd (fun c2 => ?_) (fun c2 => ?_)
        · walk_at "go"
          refine ⟨tyL e6, ?_⟩
          walk_at "go"
          refine w_ixT er6 (atI_nat (j := 1) rfl) ?_
          walk_at "go"
          refine w_ixT er6 (atI_nat (j := 0) rfl) ?_
          walk_at "go"
          refine w_ixT etp6 (at_int (by rw [lm]; exact hi)) ?_
          walk_at "go"
          refine w_newT (sz rfl) fun p7 H7 np7 s7 e7 => ?_
          walk_at "go"
          refine w_app (s7 _ _ e6) (by rw [List.length_map, List.length_append]; show ps.length + 1 < 100000; omega) fun H8 m8 e8 => ?_
          have t8 := Tp.sm m8 (s7 _ _ e6)
          rw [refs_snoc] at e8
          walk_at "go"
          refine ⟨_, _, _, rfl, same_sm (s06.trans s7) m8 nl, t8 _ _ (s7 _ _ etp6), e8, ?_⟩
          have sa8 := (sa6.tp ((Tp.of s7).trans t8)).snoc (e := ⟨(rat N.rs i).b, (rat N.rs i).a, miss (rat N.rs i) h, i, -1⟩) (t8 _ _ (by rw [e7, em]; rfl))
          rw [up]
          unfold TL.stepsAt
          rw [if_pos c1, if_pos c2, ← List.append_assoc]
          exact sa8
        · walk_at "go"
          refine ⟨_, _, _, rfl, s06, etp6, e6, ?_⟩
          rw [up]
          unfold TL.stepsAt
          rw [if_pos c1, if_neg c2, List.append_nil]
          exact sa6
      · walk_at "go"
        refine w_fld a4.o A.cl A.n_flow lk_flow ?_
        walk_at "go"
        refine w_ixL a4.fl (at_int (by rw [lf]; exact hi)) ?_
        walk_at "go"
        refine w_fld a4.o A.cl A.n_weights lk_weights ?_
        walk_at "go"
        refine w_ixT a4.w (at_int (by simpa [onesL] using hi)) ?_
        walk_at "go"
        rw [hw]
        refine w_ifd (fun c2 => ?_) (fun c2 => ?_)
        · walk_at "go"
          refine ⟨tyL e4, ?_⟩
          walk_at "go"
          refine w_ixT er (atI_nat (j := 1) rfl) ?_
          walk_at "go"
          refine w_ixT er (atI_nat (j := 0) rfl) ?_
          walk_at "go"
          refine w_ixT etp4 (at_int (by rw [lm]; exact hi)) ?_
          walk_at "go"
          refine w_newT (sz rfl) fun p7 H7 np7 s7 e7 => ?_
          walk_at "go"
          refine w_app (s7 _ _ e4) (by rw [List.length_map]; omega) fun H8 m8 e8 => ?_
          have t8 := Tp.sm m8 (s7 _ _ e4)
          rw [refs_snoc] at e8
          walk_at "go"
          refine ⟨_, _, _, rfl, same_sm (s04.trans s7) m8 nl, t8 _ _ (s7 _ _ etp4), e8, ?_⟩
          have sa8 := (sa4.tp ((Tp.of s7).trans t8)).snoc (e := ⟨(rat N.rs i).b, (rat N.rs i).a, miss (rat N.rs i) h, i, -1⟩) (t8 _ _ (by rw [e7, em]; rfl))
          rw [up]
          unfold TL.stepsAt
          rw [if_neg c1, if_pos c2, List.nil_append]
          exact sa8
        · walk_at "go"
          refine ⟨_, _, _, rfl, s04, etp4, e4, ?_⟩
          rw [up]
          unfold TL.stepsAt
          rw [if_neg c1, if_neg c2, List.append_nil, List.append_nil]
          exact sa4
    · rintro σ H3 ⟨y, z, ps, rfl, s3, etp3, e3, sa⟩
      rw [lp] at sa
      walk_at "go"
      exact k l ps H3 s3 nl e3 sa
end
end TW

namespace TW
open PySem L2
/-- one step of a reading -/
local macro_rules | `(tactic| walk_at "st") => `(tactic| first
  | with_reducible refine w_seq ?_ | with_reducible refine w_next ?_ | with_reducible refine w_nx ?_ | with_reducible refine w_rt ?_ | with_reducible refine w_asg ?_ | with_reducible refine w_name ?_
  | with_reducible refine w_op ?_ | with_reducible refine w_un ?_ | with_reducible refine w_var rfl ?_ | with_reducible refine w_c ?_ | with_reducible refine w_ret ?_ | with_reducible refine w_drop ?_
  | with_reducible refine w_if ?_ | with_reducible refine w_test ?_ | with_reducible refine w_tB ?_ | with_reducible refine w_k ?_ | with_reducible refine w_and ?_ | with_reducible refine w_or ?_ | with_reducible refine w_yes ?_
  | with_reducible refine w_nil ?_ | with_reducible refine w_cons ?_ | with_reducible refine w_cb ?_ | with_reducible refine w_call ?_ | with_reducible refine w_I0 ?_ | with_reducible refine w_neg ?_
  | with_reducible refine w_eqI ?_ | with_reducible refine w_neI ?_ | with_reducible refine w_abs ?_ | with_reducible refine w_min2 ?_ | with_reducible refine w_intI ?_ | with_reducible refine w_intB ?_
  | with_reducible refine w_isN0 ?_ | with_reducible refine w_isN1 ?_ | with_reducible refine w_isN2 ?_ | with_reducible refine w_noN0 ?_ | with_reducible refine w_noN1 ?_ | with_reducible refine w_noN2 ?_
  | with_reducible refine w_sub ?_ | with_reducible refine w_for ?_ | with_reducible refine w_lc ?_ | with_reducible refine w_iT ?_ | with_reducible refine w_iL ?_ | with_reducible refine w_iE ?_ | with_reducible refine w_iEl ?_
  | with_reducible refine w_iZ ?_ | with_reducible refine w_iR1 ?_ | with_reducible refine w_iR2 ?_ | with_reducible refine w_gc ?_ | with_reducible refine w_gn ?_ | with_reducible refine w_bm ?_ | with_reducible refine w_sfld ?_ | with_reducible refine w_tfld ?_ | with_reducible refine w_meth ?_ | with_reducible refine w_make ?_ | with_reducible refine w_tup ?_ | with_reducible refine w_lst ?_)
local macro_rules | `(tactic| walk_at "go") => `(tactic| repeat walk_at "st")
local macro_rules | `(tactic| walk_at "nx") => `(tactic| repeat (first | with_reducible refine w_next ?_ | with_reducible refine w_nx ?_ | with_reducible refine w_name ?_ | with_reducible refine w_gc ?_ | with_reducible refine w_gn ?_))

open TL (Rd rat miss gi absI Stp BF go)
section
variable {P : Program} {w : World} {K : PySem.W.Frag} {mg : Str → Option Value} {base : Heap}
/-! ### shortest -/
def oV : Option Int → V
  | none => .non
  | some d => .int d
def LV (H : Hp) (v : V) : Option Stp → Prop
  | none => v = .non
  | some e => ∃ p, v = .ref p ∧ H p = some (.tup (stV e))
structure LastAt (H : Hp) (vs : List V) (l : List (Option Stp)) : Prop where
  len : vs.length = l.length
  r : ∀ i, i < l.length → LV H (vs.getD i .non) (go l i)
theorem LV.tp {H H' : Hp} {v : V} {o : Option Stp} (a : LV H v o) (t : Tp H H') : LV H' v o := by
  cases o with
  | none => exact a
  | some e =>
    obtain ⟨p, h1, h2⟩ := a
    exact ⟨p, h1, t _ _ h2⟩
theorem LastAt.tp {H H' : Hp} {vs : List V} {l : List (Option Stp)} (a : LastAt H vs l) (t : Tp H H') : LastAt H' vs l := ⟨a.len, fun i hi => (a.r i hi).tp t⟩
theorem LastAt.set {H : Hp} {vs : List V} {l : List (Option Stp)} {j : Nat} {p : Addr} {e : Stp} (a : LastAt H vs l) (hj : j < l.length) (h : H p = some (.tup (stV e))) : LastAt H (vs.set j (.ref p)) (l.set j (some e)) := by
  refine ⟨by rw [List.length_set, List.length_set, a.len], fun i hi => ?_⟩
  rw [List.length_set] at hi
  have al := a.len
  rw [TL.go_set hj]
  by_cases c : i = j
  · subst c
    rw [if_pos rfl, List.getD_eq_getElem?_getD, List.getElem?_set_self (by omega)]
    exact ⟨p, rfl, h⟩
  · rw [if_neg c, List.getD_eq_getElem?_getD, List.getElem?_set_ne (Ne.symm c), ← List.getD_eq_getElem?_getD]
    exact a.r i hi
theorem at_opt {c : List (Option Int)} {j : Nat} (h : j < c.length) : atI (c.map oV) (j : Int) = some (oV (go c j)) := by
  refine atI_nat ?_
  rw [List.getElem?_map, List.getElem?_eq_getElem h]
  show some (oV c[j]) = _
  unfold go
  rw [List.getD_eq_getElem?_getD, List.getElem?_eq_getElem h]
  rfl
theorem at_lv {vs : List V} {j : Nat} (h : j < vs.length) : atI vs (j : Int) = some (vs.getD j .non) := by
  refine atI_nat ?_
  rw [List.getD_eq_getElem?_getD, List.getElem?_eq_getElem h]
  rfl
theorem set_opt {c : List (Option Int)} {j : Nat} {x : Int} : (c.map oV).set j (.int x) = (c.set j (some x)).map oV := by rw [List.map_set]; rfl
theorem t_less {σ : L2.St} {H : Hp} {cl p : Addr} {c : List (Option Int)} {e : Stp} {t : Int} {q : Bool → Hp → Prop} (h2 : σ[2]? = some (some (.ref cl))) (h6 : σ[6]? = some (some (.ref p))) (h7 : σ[7]? = some (some (.int t)))
    (ec : H cl = some (.lst (c.map oV))) (er : H p = some (.tup (stV e))) (ht : e.to < c.length) (k : q (TL.lower t (go c e.to)) H) :
    tOr (tTest (tOp rIsN (tOp (rIxA K) (tVar 2) (tOp (rIxA K) (tVar 6) (tC (V.int 1)))) (tC .non))) (tTest (tOp (rI0 fun i j => .bl (decide (i < j))) (tVar 7) (tOp (rIxA K) (tVar 2) (tOp (rIxA K) (tVar 6) (tC (V.int 1)))))) σ H q := by
  have ha := at_opt ht
  walk_at "st"
  walk_at "st"
  walk_at "st"
  refine w_op (w_var h2 (w_op (w_var h6 (w_c (w_ixT er (atI_nat (j := 1) rfl) (w_ixL ec ha (w_c ?_)))))))
  cases hd : go c e.to with
  | none =>
    rw [hd] at k
    refine w_isN0 (w_k ?_)
    rw [if_pos rfl]
    exact k
  | some d =>
    rw [hd] at k ha
    refine w_isN1 (w_k ?_)
    rw [if_neg Bool.false_ne_true]
    exact w_test (w_op (w_var h7 (w_op (w_var h2 (w_op (w_var h6 (w_c (w_ixT er (atI_nat (j := 1) rfl) (w_ixL ec ha (w_I0 (w_k k)))))))))))
theorem getD_at {es : List Stp} {i : Nat} (h : i < es.length) : es[i]? = some (es.getD i TL.dS) := by
  rw [List.getD_eq_getElem?_getD, List.getElem?_eq_getElem h]
  rfl
theorem ref_at {H : Hp} {ps : List Addr} {es : List Stp} {i : Nat} {v : V} (a : StepsAt H ps es) (hi : i < es.length) (e : (ps.map V.ref)[i]? = some v) : v = .ref (ps.getD i 0) ∧ H (ps.getD i 0) = some (.tup (stV (es.getD i TL.dS))) := by
  refine ⟨?_, a.r i hi⟩
  have hl : i < ps.length := by rw [a.l]; exact hi
  rw [List.getElem?_map, List.getElem?_eq_getElem hl] at e
  rw [List.getD_eq_getElem?_getD, List.getElem?_eq_getElem hl]
  exact (Option.some.inj e).symm
/-- where the search's lists stand -/
structure BfAt (H0 H : Hp) (cl ll sl : Addr) (ps : List Addr) (es : List Stp) (lv : List V) (b : BF) : Prop where
  s : Same H0 H
  c : H cl = some (.lst (b.c.map oV))
  l : H ll = some (.lst lv)
  la : LastAt H lv b.l
  e : H sl = some (.lst (ps.map V.ref))
  ea : StepsAt H ps es
def spShortest (C : Addr) : Sp := fun vs H Q _ => ∃ (N : Net) (S : Sr) (h f : List Int) (st : Nat), vs = [.ref S.p, .int (st : Int)] ∧ SrAt C H N S h f ∧ NOk N ∧ TL.SI N.n N.rs (h, f) ∧ st < N.n ∧
  ∀ p cl ll lv H', Same H H' → H cl = none → H ll = none → H' p = some (.tup [.ref cl, .ref ll]) → H' cl = some (.lst ((TL.shortest N.n st N.rs (h, f)).c.map oV)) → H' ll = some (.lst lv) → LastAt H' lv (TL.shortest N.n st N.rs (h, f)).l → Q (.ref p) H'
theorem ok_shortest (A : All K mg) : FnOk P w K mg base CX0 4 A.a_shortest A.d_shortest ["self", "start"] (spShortest A.C) := by
  refine A.F_shortest.ok sc_shortest (fun vs H Q E h => ?_) (fun cdv A' outer s H vs Q E hr h => ?_)
  · obtain ⟨N, S, h, f, st, rfl, _⟩ := h
    rfl
  · obtain ⟨N, S, h, f, st, rfl, a, ok, si, hst, k⟩ := h
    refine ⟨_, (pss_cons (ps_set (i := 2) sc_shortest.nd rfl (by first | exact Or.inl rfl | exact Or.inr rfl) (pe_op op_rep (pe_lst (pa_cons pe_non pa_nil)) (pe_fldA K rfl (pv 0) rfl))) (pss_cons (ps_set (i := 3) sc_shortest.nd rfl (by first | exact Or.inl rfl | exact Or.inr rfl) (pe_op op_rep (pe_lst (pa_cons pe_non pa_nil)) (pe_fldA K rfl (pv 0) rfl))) (pss_cons (ps_asg pe_int (pg_sub (pv 2) (pv 1) set_list)) (pss_cons (ps_set (i := 4) sc_shortest.nd rfl (by first | exact Or.inl rfl | exact Or.inr rfl) (pe_meth0 (pv 0) A.cl A.m_steps (ok_steps A) hr A.b_steps .nil pass0)) (pss_cons (ps_set (i := 5) sc_shortest.nd rfl (by first | exact Or.inl rfl | exact Or.inr rfl) pe_bl) (pss_cons (ps_while PassesOwn.never (pt_val (pv 5)) (pss_cons (ps_set (i := 5) sc_shortest.nd rfl (by first | exact Or.inl rfl | exact Or.inr rfl) pe_bl) (pss_one (ps_for PassesOwn.never rfl (pi_list (pv 4)) (pg_name (i := 6) sc_shortest.nd rfl (by first | exact Or.inl rfl | exact Or.inr rfl)) (pss_one (ps_if (pt_cmpR op_notN1 (pe_ix (ix_A K rfl) (pv 2) (pe_ix (ix_A K rfl) (pv 6) pe_int (fun _ _ => rfl)) (fun _ _ => rfl)) pe_non (nomark _)) (pss_cons (ps_set (i := 7) sc_shortest.nd rfl (by first | exact Or.inl rfl | exact Or.inr rfl) (pe_op op_add (pe_ix (ix_A K rfl) (pv 2) (pe_ix (ix_A K rfl) (pv 6) pe_int (fun _ _ => rfl)) (fun _ _ => rfl)) (pe_ix (ix_A K rfl) (pv 6) pe_int (fun _ _ => rfl)))) (pss_one (ps_if (PW.pt (pw_or (pt_cmpR op_isN1 (pe_ix (ix_A K rfl) (pv 2) (pe_ix (ix_A K rfl) (pv 6) pe_int (fun _ _ => rfl)) (fun _ _ => rfl)) pe_non (nomark _)) (pw_or1 (pt_cmpR op_lt (pv 7) (pe_ix (ix_A K rfl) (pv 2) (pe_ix (ix_A K rfl) (pv 6) pe_int (fun _ _ => rfl)) (fun _ _ => rfl)) (nomark _))))) (pss_cons (ps_asg (pv 7) (pg_sub (pv 2) (pe_ix (ix_A K rfl) (pv 6) pe_int (fun _ _ => rfl)) set_list)) (pss_cons (ps_asg (pv 6) (pg_sub (pv 3) (pe_ix (ix_A K rfl) (pv 6) pe_int (fun _ _ => rfl)) set_list)) (pss_one (ps_set (i := 5) sc_shortest.nd rfl (by first | exact Or.inl rfl | exact Or.inr rfl) pe_bl)))) pss_nil))) pss_nil)))))) (pss_one (ps_ret (pe_tup (pa_cons (pv 2) (pa_cons (pv 3) pa_nil))))))))))), ?_⟩
    have n4 := ok.n4
    have r9 := ok.r9
    -- costs, last
    walk_at "go"
    refine w_newL (sz rfl) fun l0 H1 n1 s1 e1 => ?_
    walk_at "go"
    refine w_fld (a.same s1).o A.cl A.n_many lk_many ?_
    refine w_rep1 e1 (by omega) fun cl H2 n2 s2 e2 => ?_
    have s02 : Same H H2 := s1.trans s2
    walk_at "go"
    refine w_newL (sz rfl) fun l3 H3 n3 s3 e3 => ?_
    have s03 := s02.trans s3
    walk_at "go"
    refine w_fld (a.same s03).o A.cl A.n_many lk_many ?_
    refine w_rep1 e3 (by omega) fun ll H4 n4' s4 e4 => ?_
    have s04 := s03.trans s4
    have ncl : H cl = none := s1.free n2
    have nll : H ll = none := s03.free n4'
    have e2' := s4 _ _ (s3 _ _ e2)
    have nlc : ll ≠ cl := fun z => by
      rw [z, s3 _ _ e2] at n4'
      cases n4'
    -- costs[start] = 0
    walk_at "go"
    refine w_setL e2' (by rw [List.length_replicate]; exact hst) fun H5 m5 e5 => ?_
    have s05 : Same H H5 := same_sm s04 m5 ncl
    have e45 : H5 ll = some (.lst (List.replicate N.n .non)) := m5 _ _ (fun hm => nlc (List.mem_singleton.mp hm)) e4
    have a5 := a.same s05
    -- steps
    walk_at "go"
    refine w_me a5.o (lk_none (by decide +kernel) (by decide +kernel) (by decide +kernel) (by decide +kernel) (by decide +kernel)) ?_
    walk_at "go"
    refine ⟨N, S, h, f, rfl, a5, ok, si.lh, si.fb.1, fun sl ps H6 s6 nsl e6 sa => ?_⟩
    have s06 := s05.trans s6
    have nls : sl ≠ cl := fun z => by
      rw [z, e5] at nsl
      cases nsl
    have nll2 : sl ≠ ll := fun z => by
      rw [z, e45] at nsl
      cases nsl
    obtain ⟨kk, lp, B, Cl⟩ := TL.shortest_ok ok.ok si hst
    generalize TL.shortest N.n st N.rs (h, f) = r at *
    have F := TL.steps_feas (st := st) ok.ok si.cs hst
    generalize hes : TL.stepsOf N.rs h f = es at *
    walk_at "go"
    refine w_while lp (TL.BI N.n st es (fun _ => 0)) (fun b σ H' => ∃ lv x6 x7, σ = [some (.ref S.p), some (.int (st : Int)), some (.ref cl), some (.ref ll), some (.ref sl), some (.bl b.ch), x6, x7] ∧ BfAt H H' cl ll sl ps es lv b) (TL.bf0_BI F)
      ⟨List.replicate N.n .non, none, none, rfl, s06, ?_, s6 _ _ e45, ?_, e6, sa⟩ ?_
    · rw [s6 _ _ e5]
      show _ = some (HO.lst (((List.replicate N.n none).set st (some 0)).map oV))
      rw [← set_opt, List.map_replicate]
      rfl
    · refine ⟨by simp [TL.bf0], fun i hi => ?_⟩
      show LV H6 _ (go (List.replicate N.n none) i)
      rw [TL.go_rep]
      show (List.replicate N.n V.non).getD i .non = .non
      by_cases c : i < N.n <;> simp [List.getD_eq_getElem?_getD, c]
    · rintro b σ H7 Yes No B7 ⟨lv, x6, x7, rfl, a7⟩ hY hN
      walk_at "go"
      cases hc : b.ch with
      | false =>
        rw [if_neg Bool.false_ne_true]
        refine hN hc _ fun er => ?_
        subst er
        walk_at "go"
        refine w_newT (sz rfl) fun p H8 np s8 e8 => ?_
        walk_at "go"
        exact k p cl ll lv H8 (a7.s.trans s8) ncl nll e8 (s8 _ _ a7.c) (s8 _ _ a7.l) (a7.la.tp (Tp.of s8))
      | true =>
        rw [if_pos rfl]
        refine hY hc _ ?_
        walk_at "go"
        refine ⟨sl, rfl, ⟨_, SqL.of a7.e⟩, ?_⟩
        have lps : (ps.map V.ref).length = es.length := by rw [List.length_map, sa.l]
        refine fo walk_list (fun i σ H' => TL.BI N.n st es (fun _ => 0) (TL.upto (fun i s => TL.relax s (es.getD i TL.dS)) ⟨b.c, b.l, false⟩ i) ∧ ∃ lv x6 x7, σ = [some (.ref S.p), some (.int (st : Int)), some (.ref cl), some (.ref ll), some (.ref sl), some (.bl (TL.upto (fun i s => TL.relax s (es.getD i TL.dS)) ⟨b.c, b.l, false⟩ i).ch), x6, x7] ∧
          BfAt H H' cl ll sl ps es lv (TL.upto (fun i s => TL.relax s (es.getD i TL.dS)) ⟨b.c, b.l, false⟩ i)) ⟨⟨B7.lc, B7.ll, B7.c0, B7.l0, B7.ge, B7.tr⟩, lv, x6, x7, rfl, a7.s, a7.c, a7.l, a7.la, a7.e, a7.ea⟩ (fun i σ H' _ ⟨_, _, _, _, _, a'⟩ => SqL.of a'.e) ?_ ?_
        · rintro i x σ H8 H9 hi ⟨B8, lv8, y6, y7, rfl, a8⟩ ⟨rfl, hx⟩
          rw [lps] at hi
          obtain ⟨ex, er⟩ := ref_at a8.ea hi hx
          subst ex
          have hmem : es.getD i TL.dS ∈ es := List.mem_of_getElem? (getD_at hi)
          have B9 : TL.BI N.n st es (fun _ => 0) (TL.relax (TL.upto (fun i s => TL.relax s (es.getD i TL.dS)) ⟨b.c, b.l, false⟩ i) (es.getD i TL.dS)) := B8.relax F hmem
          have up : TL.upto (fun i s => TL.relax s (es.getD i TL.dS)) ⟨b.c, b.l, false⟩ (i + 1) = TL.relax (TL.upto (fun i s => TL.relax s (es.getD i TL.dS)) ⟨b.c, b.l, false⟩ i) (es.getD i TL.dS) := rfl
          rw [up]
          generalize TL.upto (fun i s => TL.relax s (es.getD i TL.dS)) ⟨b.c, b.l, false⟩ i = u at *
          have hfr := F.fr _ hmem
          have hto := F.to _ hmem
          generalize es.getD i TL.dS = e at *
          have hcf := at_opt (c := u.c) (j := e.fr) (by rw [B8.lc]; exact hfr)
          walk_at "go"
          refine w_ixT er (atI_nat (j := 0) rfl) (w_ixL a8.c hcf ?_)
          walk_at "go"
          cases hd : go u.c e.fr with
          | none =>
            have rr : TL.relax u e = u := by unfold TL.relax; rw [hd]
            rw [rr]
            refine w_noN0 ?_
            walk_at "go"
            rw [if_neg Bool.false_ne_true]
            walk_at "go"
            exact ⟨B8, _, _, _, rfl, a8⟩
          | some d =>
            rw [hd] at hcf
            replace hcf : atI (u.c.map oV) (e.fr : Int) = some (V.int d) := hcf
            refine w_noN1 ?_
            walk_at "go"
            rw [if_pos rfl]
            walk_at "go"
            refine w_ixT er (atI_nat (j := 0) rfl) (w_ixL a8.c hcf ?_)
            walk_at "go"
            refine w_ixT er (atI_nat (j := 2) rfl) ?_
            walk_at "st"
            walk_at "st"
            walk_at "st"
            walk_at "st"
            refine t_less rfl rfl rfl a8.c er (by rw [B8.lc]; exact hto) ?_
            cases hl : TL.lower (d + e.w) (go u.c e.to) with
            | false =>
              have rr : TL.relax u e = u := by unfold TL.relax; rw [hd]; simp only [hl]; rfl
              rw [rr]
              rw [if_neg Bool.false_ne_true]
              walk_at "go"
              exact ⟨B8, _, _, _, rfl, a8⟩
            | true =>
              have rr : TL.relax u e = ⟨u.c.set e.to (some (d + e.w)), u.l.set e.to (some e), true⟩ := by unfold TL.relax; rw [hd]; simp only [hl, if_true]
              rw [rr] at B9 ⊢
              rw [if_pos rfl]
              walk_at "go"
              refine w_ixT er (atI_nat (j := 1) rfl) (w_setL a8.c (by rw [List.length_map, B8.lc]; exact hto) fun H10 m10 e10 => ?_)
              rw [set_opt] at e10
              have t10 := Tp.sm m10 a8.c
              have o10 : ∀ {q : Addr} {o : HO}, H9 q = some o → q ≠ cl → H10 q = some o := fun e n => m10 _ _ (fun hm => n (List.mem_singleton.mp hm)) e
              walk_at "go"
              refine w_ixT (t10 _ _ er) (atI_nat (j := 1) rfl) (w_setL (o10 a8.l nlc) (by rw [a8.la.len, B8.ll]; exact hto) fun H11 m11 e11 => ?_)
              have t11 := Tp.sm m11 (o10 a8.l nlc)
              have o11 : ∀ {q : Addr} {o : HO}, H10 q = some o → q ≠ ll → H11 q = some o := fun e n => m11 _ _ (fun hm => n (List.mem_singleton.mp hm)) e
              walk_at "go"
              exact ⟨B9, _, _, _, rfl, same_sm (same_sm a8.s m10 ncl) m11 nll, o11 e10 (Ne.symm nlc), e11, ((a8.la.tp t10).tp t11).set (by rw [B8.ll]; exact hto) (t11 _ _ (t10 _ _ er)), o11 (o10 a8.e nls) nll2, (a8.ea.tp t10).tp t11⟩
        · rintro σ H8 ⟨B8, lv8, y6, y7, rfl, a8⟩
          rw [lps] at B8 a8
          walk_at "go"
          exact ⟨B8, lv8, y6, y7, by rw [lps]; rfl, a8⟩
end
end TW

namespace TW
open PySem L2
/-- one step of a reading -/
local macro_rules | `(tactic| walk_at "st") => `(tactic| first
  | with_reducible refine w_seq ?_ | with_reducible refine w_next ?_ | with_reducible refine w_nx ?_ | with_reducible refine w_rt ?_ | with_reducible refine w_asg ?_ | with_reducible refine w_name ?_
  | with_reducible refine w_op ?_ | with_reducible refine w_un ?_ | with_reducible refine w_var rfl ?_ | with_reducible refine w_c ?_ | with_reducible refine w_ret ?_ | with_reducible refine w_drop ?_
  | with_reducible refine w_if ?_ | with_reducible refine w_test ?_ | with_reducible refine w_tB ?_ | with_reducible refine w_k ?_ | with_reducible refine w_and ?_ | with_reducible refine w_or ?_ | with_reducible refine w_yes ?_
  | with_reducible refine w_nil ?_ | with_reducible refine w_cons ?_ | with_reducible refine w_cb ?_ | with_reducible refine w_call ?_ | with_reducible refine w_I0 ?_ | with_reducible refine w_neg ?_
  | with_reducible refine w_eqI ?_ | with_reducible refine w_neI ?_ | with_reducible refine w_abs ?_ | with_reducible refine w_min2 ?_ | with_reducible refine w_intI ?_ | with_reducible refine w_intB ?_
  | with_reducible refine w_isN0 ?_ | with_reducible refine w_isN1 ?_ | with_reducible refine w_isN2 ?_ | with_reducible refine w_noN0 ?_ | with_reducible refine w_noN1 ?_ | with_reducible refine w_noN2 ?_
  | with_reducible refine w_sub ?_ | with_reducible refine w_for ?_ | with_reducible refine w_lc ?_ | with_reducible refine w_iT ?_ | with_reducible refine w_iL ?_ | with_reducible refine w_iE ?_ | with_reducible refine w_iEl ?_
  | with_reducible refine w_iZ ?_ | with_reducible refine w_iR1 ?_ | with_reducible refine w_iR2 ?_ | with_reducible refine w_gc ?_ | with_reducible refine w_gn ?_ | with_reducible refine w_bm ?_ | with_reducible refine w_sfld ?_ | with_reducible refine w_tfld ?_ | with_reducible refine w_meth ?_ | with_reducible refine w_make ?_ | with_reducible refine w_tup ?_ | with_reducible refine w_lst ?_)
local macro_rules | `(tactic| walk_at "go") => `(tactic| repeat walk_at "st")
local macro_rules | `(tactic| walk_at "nx") => `(tactic| repeat (first | with_reducible refine w_next ?_ | with_reducible refine w_nx ?_ | with_reducible refine w_name ?_ | with_reducible refine w_gc ?_ | with_reducible refine w_gn ?_))

open TL (Rd rat miss gi absI Stp BF go PW)
section
variable {P : Program} {w : World} {K : PySem.W.Frag} {mg : Str → Option Value} {base : Heap}
/-! ### push -/
structure EndsAt (H : Hp) (ps : List Addr) (l : List (Int × Nat)) : Prop where
  len : ps.length = l.length
  r : ∀ i, i < l.length → H (ps.getD i 0) = some (.tup [.int (l.getD i (0, 0)).1, .int (((l.getD i (0, 0)).2 : Nat) : Int)])
theorem EndsAt.tp {H H' : Hp} {ps : List Addr} {l : List (Int × Nat)} (a : EndsAt H ps l) (t : Tp H H') : EndsAt H' ps l := ⟨a.len, fun i hi => t _ _ (a.r i hi)⟩
theorem EndsAt.nil {H : Hp} : EndsAt H [] [] := ⟨rfl, fun i hi => absurd hi (Nat.not_lt_zero i)⟩
theorem EndsAt.snoc {H : Hp} {ps : List Addr} {l : List (Int × Nat)} {p : Addr} {d : Int} {j : Nat} (a : EndsAt H ps l) (h : H p = some (.tup [.int d, .int (j : Int)])) : EndsAt H (ps ++ [p]) (l ++ [(d, j)]) := by
  refine ⟨by rw [List.length_append, List.length_append, a.len]; rfl, fun i hi => ?_⟩
  rw [List.length_append] at hi
  have len := a.len
  by_cases c : i < l.length
  · rw [List.getD_eq_getElem?_getD, List.getD_eq_getElem?_getD, List.getElem?_append_left (by omega), List.getElem?_append_left c, ← List.getD_eq_getElem?_getD, ← List.getD_eq_getElem?_getD]
    exact a.r i c
  · have hi : i < l.length + 1 := hi
    have e1 : i = l.length := by omega
    subst e1
    rw [List.getD_eq_getElem?_getD, List.getD_eq_getElem?_getD, List.getElem?_append_right (by omega), List.getElem?_append_right (Nat.le_refl _), ← len, Nat.sub_self]
    exact h
/-- min of the ends -/
theorem min_ends {H : Hp} {L : Addr} {ps : List Addr} {l : List (Int × Nat)} {Q : VK} (e : H L = some (.lst (ps.map V.ref))) (a : EndsAt H ps l) (ne : l ≠ [])
    (k : ∀ p, H p = some (.tup [.int (TL.minE l).1, .int (((TL.minE l).2 : Nat) : Int)]) → Q (.ref p) H) : rMinT K [.ref L] H Q := by
  have gd : ∀ i, i < l.length → (l.map fun p => (p.1, (p.2 : Int))).getD i (0, 0) = ((l.getD i (0, 0)).1, ((l.getD i (0, 0)).2 : Int)) := fun i hi => by
    simp [List.getD_eq_getElem?_getD, hi]
  refine ⟨L, ps, l.map fun p => (p.1, (p.2 : Int)), rfl, SqL.of e, by rw [List.length_map, a.len], by rw [List.length_map]; exact List.length_pos_iff.mpr ne, fun i hi => ?_, fun i hi hm => ?_⟩
  · rw [List.length_map] at hi
    rw [gd i hi]
    exact a.r i hi
  · rw [List.length_map] at hi
    have hmem : l.getD i (0, 0) ∈ l := by
      rw [List.getD_eq_getElem?_getD, List.getElem?_eq_getElem hi]
      exact List.getElem_mem hi
    have em : l.getD i (0, 0) = TL.minE l := TL.minE_uniq hmem fun q hq => by
      obtain ⟨j, hj⟩ := List.getElem?_of_mem hq
      have hjl : j < l.length := (List.getElem?_eq_some_iff.mp hj).1
      have eq : l.getD j (0, 0) = q := by rw [List.getD_eq_getElem?_getD, hj]; rfl
      have := hm j (by rw [List.length_map]; exact hjl)
      rw [gd i hi, gd j hjl, eq] at this
      unfold ltP at this
      have := of_decide_eq_false this
      unfold TL.lexle
      simp only at this
      omega
    refine k _ ?_
    rw [← em]
    exact a.r i hi
theorem zadd (i : Nat) : (0 : Int) + (i : Int) = (i : Int) := Int.zero_add _
def spPush (C : Addr) : Sp := fun vs H Q _ => ∃ (N : Net) (S : Sr) (h f : List Int) (st : Nat) (xl : Addr), vs = [.ref S.p, .int (st : Int), .ref xl] ∧ SrAt C H N S h f ∧ NOk N ∧ TL.SI N.n N.rs (h, f) ∧ st < N.n ∧ 0 < gi (TL.excess N.n N.rs f) st ∧
  H xl = some (.lst ((TL.excess N.n N.rs f).map V.int)) ∧ xl ≠ S.hl ∧ xl ≠ S.fl ∧
  ∀ H', Sm [S.hl, S.fl] H H' → SrAt C H' N S (TL.push N.n st N.rs (TL.excess N.n N.rs f) (h, f)).1 (TL.push N.n st N.rs (TL.excess N.n N.rs f) (h, f)).2 → Q .non H'
theorem ok_push (A : All K mg) : FnOk P w K mg base CX0 5 A.a_push A.d_push ["self", "start", "excess"] (spPush A.C) := by
  refine A.F_push.ok sc_push (fun vs H Q E h => ?_) (fun cdv A' outer s H vs Q E hr h => ?_)
  · obtain ⟨N, S, h, f, st, xl, rfl, _⟩ := h
    rfl
  · obtain ⟨N, S, h, f, st, xl, rfl, a, ok, si, hst, hpos, exl, nxh, nxf, k⟩ := h
    refine ⟨_, (pss_cons (ps_asg (pe_meth (pv 0) A.cl A.m_shortest (ok_shortest A) hr A.b_shortest .nil pass0 (pa_cons (pv 1) pa_nil)) (pg_tupA K rfl rfl (pgs_cons (pg_name (i := 3) sc_push.nd rfl (by first | exact Or.inl rfl | exact Or.inr rfl)) (pgs_cons (pg_name (i := 4) sc_push.nd rfl (by first | exact Or.inl rfl | exact Or.inr rfl)) pgs_nil)))) (pss_cons (ps_setLc (i := 5) (hc := rfl) (hN := sc_push.nd) (hy := rfl) (hyl := rfl) (hsw := sw_true rfl rfl rfl (by decide +kernel)) (own := [("mark", 7)]) (g := (gName 7)) (tt := _) (pi_range1 rfl A.z_range (pa_cons (pe_fldA K rfl (pv 0) rfl) pa_nil)) (blkOk_by (own := [("mark", 7)]) (N := ["self", "start", "excess", "costs", "last", "ends", "most", "mark", "other", "path", "many", "step"]) (sc := defScope s_push) (by decide +kernel)) (fun _ _ _ _ _ => (pg_name (i := 7) sc_push.nd rfl (by first | exact Or.inl rfl | exact Or.inr rfl))) (fun _ _ _ _ _ => pts_one (PW.pt (pw_and (pt_cmpR op_lt (pe_ix (ix_A K rfl) (pv 2) (pv 7) (fun _ _ => rfl)) pe_int (nomark _)) (pw_and1 (pt_cmpR op_notN1 (pe_ix (ix_A K rfl) (pv 3) (pv 7) (fun _ _ => rfl)) pe_non (nomark _)))))) (fun _ _ _ _ _ => (pe_tup (pa_cons (pe_ix (ix_A K rfl) (pv 3) (pv 7) (fun _ _ => rfl)) (pa_cons (pv 7) pa_nil))))) (pss_cons (ps_asg (pe_callB (cr_minT rfl hr.units2) (by rfl) A.z_min (by decide +kernel) (pa_cons (pv 5) pa_nil)) (pg_tupA K rfl rfl (pgs_cons (pg_name (i := 6) sc_push.nd rfl (by first | exact Or.inl rfl | exact Or.inr rfl)) (pgs_cons (pg_name (i := 7) sc_push.nd rfl (by first | exact Or.inl rfl | exact Or.inr rfl)) pgs_nil)))) (pss_cons (ps_for PassesOwn.never rfl (pi_range1 rfl A.z_range (pa_cons (pe_fldA K rfl (pv 0) rfl) pa_nil)) (pg_name (i := 8) sc_push.nd rfl (by first | exact Or.inl rfl | exact Or.inr rfl)) (pss_one (ps_if (PW.pt (pw_or (pt_cmpR op_isN1 (pe_ix (ix_A K rfl) (pv 3) (pv 8) (fun _ _ => rfl)) pe_non (nomark _)) (pw_or1 (pt_cmpR op_gt (pe_ix (ix_A K rfl) (pv 3) (pv 8) (fun _ _ => rfl)) (pv 6) (nomark _))))) (pss_one (ps_asg (pe_op op_sub (pe_ix (ix_A K rfl) (pe_fldA K rfl (pv 0) rfl) (pv 8) (fun _ _ => rfl)) (pv 6)) (pg_sub (pe_fldA K rfl (pv 0) rfl) (pv 8) set_list))) (pss_one (ps_asg (pe_op op_sub (pe_ix (ix_A K rfl) (pe_fldA K rfl (pv 0) rfl) (pv 8) (fun _ _ => rfl)) (pe_ix (ix_A K rfl) (pv 3) (pv 8) (fun _ _ => rfl))) (pg_sub (pe_fldA K rfl (pv 0) rfl) (pv 8) set_list)))))) (pss_cons (ps_set (i := 9) sc_push.nd rfl (by first | exact Or.inl rfl | exact Or.inr rfl) (pe_lst pa_nil)) (pss_cons (ps_set (i := 10) sc_push.nd rfl (by first | exact Or.inl rfl | exact Or.inr rfl) (pe_callB (call_min2A rfl) (by rfl) A.z_min (by decide +kernel) (pa_cons (pe_ix (ix_A K rfl) (pv 2) (pv 1) (fun _ _ => rfl)) (pa_cons (pe_un un_neg (pe_ix (ix_A K rfl) (pv 2) (pv 7) (fun _ _ => rfl))) pa_nil)))) (pss_cons (ps_while PassesOwn.never (pt_cmpR op_ne (pv 7) (pv 1) (nomark _)) (pss_cons (ps_set (i := 11) sc_push.nd rfl (by first | exact Or.inl rfl | exact Or.inr rfl) (pe_ix (ix_A K rfl) (pv 4) (pv 7) (fun _ _ => rfl))) (pss_cons (ps_expr (pe_bm PySem.F.plainAttrs_list PySem.F.slot_list_append PySem.F.type_list_append mt_append (pv 9) (pa_cons (pv 11) pa_nil))) (pss_cons (ps_set (i := 10) sc_push.nd rfl (by first | exact Or.inl rfl | exact Or.inr rfl) (pe_callB (call_min2A rfl) (by rfl) A.z_min (by decide +kernel) (pa_cons (pv 10) (pa_cons (pe_op op_sub (pe_ix (ix_A K rfl) (pe_fldA K rfl (pv 0) rfl) (pe_ix (ix_A K rfl) (pv 11) pe_int (fun _ _ => rfl)) (fun _ _ => rfl)) (pe_op op_mul (pe_ix (ix_A K rfl) (pv 11) pe_int (fun _ _ => rfl)) (pe_ix (ix_A K rfl) (pe_fldA K rfl (pv 0) rfl) (pe_ix (ix_A K rfl) (pv 11) pe_int (fun _ _ => rfl)) (fun _ _ => rfl)))) pa_nil)))) (pss_one (ps_set (i := 7) sc_push.nd rfl (by first | exact Or.inl rfl | exact Or.inr rfl) (pe_ix (ix_A K rfl) (pv 11) pe_int (fun _ _ => rfl)))))))) (pss_one (ps_for PassesOwn.never rfl (pi_list (pv 9)) (pg_name (i := 11) sc_push.nd rfl (by first | exact Or.inl rfl | exact Or.inr rfl)) (pss_one (ps_asg (pe_op op_add (pe_ix (ix_A K rfl) (pe_fldA K rfl (pv 0) rfl) (pe_ix (ix_A K rfl) (pv 11) pe_int (fun _ _ => rfl)) (fun _ _ => rfl)) (pe_op op_mul (pe_ix (ix_A K rfl) (pv 11) pe_int (fun _ _ => rfl)) (pv 10))) (pg_sub (pe_fldA K rfl (pv 0) rfl) (pe_ix (ix_A K rfl) (pv 11) pe_int (fun _ _ => rfl)) set_list)))))))))))), ?_⟩
    have n4 := ok.n4
    have r9 := ok.r9
    walk_at "go"
    refine w_me a.o (lk_none (by decide +kernel) (by decide +kernel) (by decide +kernel) (by decide +kernel) (by decide +kernel)) ?_
    walk_at "go"
    refine ⟨N, S, h, f, st, rfl, a, ok, si, hst, fun tp cl ll lv H1 s1 ncl nll e1 ec la0 la => ?_⟩
    have lex := TL.excess_len (n := N.n) (rs := N.rs) f
    have ends_ne := TL.ends_ne ok.ok si hst hpos
    have end_ok := TL.end_ok ok.ok si hst hpos
    obtain ⟨J, J0, J1, J2, ⟨kk, Jl⟩, _⟩ := TL.path_ok ok.ok si hst hpos
    obtain ⟨_, _, B, _⟩ := TL.shortest_ok ok.ok si hst
    have hpush : TL.push N.n st N.rs (TL.excess N.n N.rs f) (h, f) = (TL.newHTo (TL.shortest N.n st N.rs (h, f)).c (TL.minE (TL.endsTo (TL.excess N.n N.rs f) (TL.shortest N.n st N.rs (h, f)).c N.n)).1 h N.n, TL.newF f (TL.pathOf N.n st N.rs (h, f) (TL.excess N.n N.rs f)).path (TL.pathOf N.n st N.rs (h, f) (TL.excess N.n N.rs f)).many) := rfl
    rw [hpush] at k
    clear hpush
    generalize TL.pathOf N.n st N.rs (h, f) (TL.excess N.n N.rs f) = pr at *
    generalize TL.shortest N.n st N.rs (h, f) = b at *
    generalize hex : TL.excess N.n N.rs f = ex at *
    refine w_gT e1 rfl ?_
    walk_at "go"
    -- ends
    have a1 := a.same s1
    refine w_fld a1.o A.cl A.n_many lk_many ?_
    walk_at "go"
    refine ⟨(N.n : Int), rfl, by omega, by omega, fun L nL => ?_⟩
    rw [Int.toNat_natCast]
    have lbc := B.lc
    refine lc walk_r0 (by omega) nL (fun i acc H' => ∃ ps, acc = ps.map V.ref ∧ EndsAt H' ps (TL.endsTo ex b.c i)) (fun _ _ _ => ⟨[], rfl, EndsAt.nil⟩) (fun _ _ _ _ _ => trivial) ?_ ?_
    · rintro i acc x H2 H3 F No hi s2 eL ⟨ps, rfl, ea⟩ ⟨rfl, rfl⟩ hF hNo
      have up : TL.endsTo ex b.c (i + 1) = TL.endsTo ex b.c i ++ TL.endsAt ex b.c i := rfl
      have ec2 := s2 _ _ ec
      have hc := at_opt (c := b.c) (j := i) (by omega)
      walk_at "go"
      refine ⟨rfl, ?_⟩
      walk_at "go"
      refine w_ixL (s2 _ _ (s1 _ _ exl)) (at_int (by omega)) ?_
      walk_at "go"
      refine w_ifd (fun c1 => ?_) (fun c1 => ?_)
      · walk_at "go"
        refine w_ixL ec2 hc ?_
        walk_at "go"
        cases hd : go b.c i with
        | none =>
          refine w_noN0 ?_
          walk_at "go"
          rw [if_neg Bool.false_ne_true]
          refine hNo _ (Same.refl _) ⟨ps, rfl, ?_⟩
          rw [up]
          unfold TL.endsAt
          rw [if_pos c1, hd, List.append_nil]
          exact ea
        | some d =>
          rw [hd] at hc
          refine w_noN1 ?_
          walk_at "go"
          rw [if_pos rfl]
          walk_at "go"
          refine w_ixL ec2 hc ?_
          walk_at "go"
          refine w_newT (sz rfl) fun p H3 np s3 e3 => ?_
          refine hF _ _ s3 fun H5 m5 t5 s5 e5 => ⟨ps ++ [p], refs_snoc, ?_⟩
          rw [up]
          unfold TL.endsAt
          rw [if_pos c1, hd]
          exact (ea.tp ((Tp.of s3).trans t5)).snoc (t5 _ _ e3)
      · rw [if_neg Bool.false_ne_true]
        refine hNo _ (Same.refl _) ⟨ps, rfl, ?_⟩
        rw [up]
        unfold TL.endsAt
        rw [if_neg c1, List.append_nil]
        exact ea
    rintro acc H2 s2 eL _ ⟨ps, rfl, ea⟩
    -- most, mark = min(ends)
    walk_at "go"
    refine min_ends eL ea ends_ne fun mp emp => ?_
    obtain ⟨hm1, hm2, hm3⟩ := end_ok
    generalize TL.minE (TL.endsTo ex b.c N.n) = me at *
    refine w_gT emp rfl ?_
    walk_at "go"
    have s02 := s1.trans s2
    have a2 := a.same s02
    have ec2 := s2 _ _ ec
    have ex2 := s02 _ _ exl
    have nch : cl ≠ S.hl := fun z => by rw [z, a.hl] at ncl; cases ncl
    have ncf : cl ≠ S.fl := fun z => by rw [z, a.fl] at ncl; cases ncl
    have nlh : ll ≠ S.hl := fun z => by rw [z, a.hl] at nll; cases nll
    have nlf : ll ≠ S.fl := fun z => by rw [z, a.fl] at nll; cases nll
    have hlh : h.length = N.n := si.lh
    -- the new heights
    refine w_fld a2.o A.cl A.n_many lk_many ?_
    walk_at "go"
    refine ⟨(N.n : Int), rfl, by omega, by omega, ?_⟩
    rw [Int.toNat_natCast]
    refine fo walk_r0 (fun i σ H' => ∃ x8, σ = [some (.ref S.p), some (.int (st : Int)), some (.ref xl), some (.ref cl), some (.ref ll), some (.ref L), some (.int me.1), some (.int (me.2 : Int)), x8, none, none, none] ∧ Sm [S.hl] H2 H' ∧ SrAt A.C H' N S (TL.newHTo b.c me.1 h i) f)
      ⟨none, rfl, fun _ _ _ e => e, a2⟩ (fun _ _ _ _ _ => trivial) ?_ ?_
    · rintro i x σ H3 H4 hi ⟨x8, rfl, m3, a3⟩ ⟨rfl, rfl⟩
      have hl3 : (TL.newHTo b.c me.1 h i).length = N.n := by rw [(TL.newH_ok b.c me.1 h i (by omega)).1, hlh]
      have up : TL.newHTo b.c me.1 h (i + 1) = (TL.newHTo b.c me.1 h i).set i (gi (TL.newHTo b.c me.1 h i) i - TL.cap b.c me.1 i) := rfl
      have ec3 := sm_at m3 ec2 (fun hm => nch (List.mem_singleton.mp hm))
      have hc := at_opt (c := b.c) (j := i) (by omega)
      generalize TL.newHTo b.c me.1 h i = hh at *
      walk_at "go"
      refine w_ixL ec3 hc ?_
      walk_at "go"
      have upd : ∀ (v : Int), v = gi hh i - TL.cap b.c me.1 i → ∀ H5, Sm [S.hl] H4 H5 → H5 S.hl = some (.lst ((hh.map V.int).set i (.int v))) → Sm [S.hl] H2 H5 ∧ SrAt A.C H5 N S (TL.newHTo b.c me.1 h (i + 1)) f := fun v hv H5 m5 e5 => by
        rw [set_ints, hv] at e5
        rw [up]
        exact ⟨fun b o n e => m5 b o n (m3 b o n e), a3.setH m5 e5⟩
      cases hd : go b.c i with
      | none =>
        have hcap : TL.cap b.c me.1 i = me.1 := by unfold TL.cap; rw [hd]
        refine w_isN0 ?_
        walk_at "go"
        rw [if_pos rfl, if_pos rfl]
        walk_at "go"
        refine w_fld a3.o A.cl A.n_heights lk_heights ?_
        walk_at "go"
        refine w_ixL a3.hl (at_int (by omega)) ?_
        walk_at "go"
        refine w_fld a3.o A.cl A.n_heights lk_heights ?_
        walk_at "go"
        refine w_setL a3.hl (by rw [List.length_map]; omega) fun H5 m5 e5 => ?_
        walk_at "go"
        exact ⟨_, rfl, upd _ (by rw [hcap]) H5 m5 e5⟩
      | some d =>
        rw [hd] at hc
        replace hc : atI (b.c.map oV) (i : Int) = some (V.int d) := hc
        refine w_isN1 ?_
        walk_at "go"
        rw [if_neg Bool.false_ne_true]
        walk_at "go"
        refine w_ixL ec3 hc ?_
        walk_at "go"
        refine w_ifd (fun c1 => ?_) (fun c1 => ?_)
        · have hcap : TL.cap b.c me.1 i = me.1 := by unfold TL.cap; rw [hd]; simp only [c1, if_true]
          walk_at "go"
          refine w_fld a3.o A.cl A.n_heights lk_heights ?_
          walk_at "go"
          refine w_ixL a3.hl (at_int (by omega)) ?_
          walk_at "go"
          refine w_fld a3.o A.cl A.n_heights lk_heights ?_
          walk_at "go"
          refine w_setL a3.hl (by rw [List.length_map]; omega) fun H5 m5 e5 => ?_
          walk_at "go"
          exact ⟨_, rfl, upd _ (by rw [hcap]) H5 m5 e5⟩
        · have hcap : TL.cap b.c me.1 i = d := by unfold TL.cap; rw [hd]; simp only [c1, if_false]
          walk_at "go"
          refine w_fld a3.o A.cl A.n_heights lk_heights ?_
          walk_at "go"
          refine w_ixL a3.hl (at_int (by omega)) ?_
          walk_at "go"
          refine w_ixL ec3 hc ?_
          walk_at "go"
          refine w_fld a3.o A.cl A.n_heights lk_heights ?_
          walk_at "go"
          refine w_setL a3.hl (by rw [List.length_map]; omega) fun H5 m5 e5 => ?_
          walk_at "go"
          exact ⟨_, rfl, upd _ (by rw [hcap]) H5 m5 e5⟩
    rintro σ H3 ⟨x8, rfl, m3, a3⟩
    have ex3 := sm_at m3 ex2 (fun hm => nxh (List.mem_singleton.mp hm))
    have el3 := sm_at m3 (s2 _ _ la0) (fun hm => nlh (List.mem_singleton.mp hm))
    have t23 := Tp.sm m3 a2.hl
    have la3 := (la.tp (Tp.of s2)).tp t23
    generalize TL.newHTo b.c me.1 h N.n = hn at *
    -- path, many
    walk_at "go"
    refine w_newL (sz rfl) fun pl H4 npl s4 e4 => ?_
    have a4 := a3.same s4
    have ex4 := s4 _ _ ex3
    walk_at "go"
    refine w_ixL ex4 (at_int (by omega)) ?_
    walk_at "go"
    refine w_ixL ex4 (at_int (by omega)) ?_
    walk_at "go"
    refine w_while Jl J (fun p σ H' => ∃ x11 qs, σ = [some (.ref S.p), some (.int (st : Int)), some (.ref xl), some (.ref cl), some (.ref ll), some (.ref L), some (.int me.1), some (.int (p.u : Int)), x8, some (.ref pl), some (.int p.many), x11] ∧ Same H3 H' ∧ H' pl = some (.lst (qs.map V.ref)) ∧ StepsAt H' qs p.path) J0
      ⟨none, [], rfl, s4, e4, StepsAt.nil⟩ ?_
    rintro p σ H5 Yes No jp ⟨x11, qs, rfl, s5, e5, sa5⟩ hY hN
    obtain ⟨j1, j2, j3⟩ := J1 p jp
    walk_at "go"
    have fb : f.length = N.rs.length := si.fb.1
    by_cases hu : p.u = st
    · have e : (!decide (((p.u : Nat) : Int) = ((st : Nat) : Int))) = false := by rw [hu]; simp
      rw [e, if_neg Bool.false_ne_true]
      refine hN (by unfold TL.pcond; simp [hu]) _ fun er => ?_
      subst er
      walk_at "go"
      refine ⟨pl, rfl, ⟨_, SqL.of e5⟩, ?_⟩
      have a5 := a3.same s5
      have lqs : (qs.map V.ref).length = pr.path.length := by rw [List.length_map, sa5.l]
      have six : ∀ e ∈ pr.path, e.ix < f.length ∧ (e.sg = 1 ∨ e.sg = -1) := fun e he => by
        obtain ⟨q1, q2, _⟩ := TL.step_eff (j3 e he) 0
        exact ⟨by rw [fb]; exact q2, q1⟩
      refine fo walk_list (fun i σ H' => ∃ x11, σ = [some (.ref S.p), some (.int (st : Int)), some (.ref xl), some (.ref cl), some (.ref ll), some (.ref L), some (.int me.1), some (.int (pr.u : Int)), x8, some (.ref pl), some (.int pr.many), x11] ∧ Sm [S.fl] H5 H' ∧ SrAt A.C H' N S hn (TL.newF f (pr.path.take i) pr.many))
        ⟨_, rfl, fun _ _ _ e => e, a5⟩ (fun i σ H' _ ⟨_, _, m', _⟩ => SqL.of (sm_at m' e5 fun hm => by
          rw [List.mem_singleton.mp hm, a3.fl] at npl
          cases npl)) ?_ ?_
      · rintro i x σ H6 H7 hi ⟨y11, rfl, m6, a6⟩ ⟨rfl, hx⟩
        rw [lqs] at hi
        obtain ⟨ex', er'⟩ := ref_at sa5 hi hx
        subst ex'
        have t6 := Tp.sm m6 a5.fl
        have er := t6 _ _ er'
        have hmem : pr.path.getD i TL.dS ∈ pr.path := List.mem_of_getElem? (getD_at hi)
        obtain ⟨x1, x2⟩ := six _ hmem
        have up : TL.newF f (pr.path.take (i + 1)) pr.many = TL.addF pr.many (TL.newF f (pr.path.take i) pr.many) (pr.path.getD i TL.dS) := by
          unfold TL.newF
          rw [List.take_add_one, getD_at hi, List.foldl_append]
          rfl
        have lf6 := TL.newF_len (many := pr.many) (pr.path.take i) f
        rw [up]
        generalize TL.newF f (pr.path.take i) pr.many = ff at *
        generalize pr.path.getD i TL.dS = e at *
        have hcm : CMul e.sg pr.many := .inl (by rcases x2 with q | q <;> rw [q] <;> exact ⟨by decide, by decide⟩)
        walk_at "go"
        refine w_fld a6.o A.cl A.n_flow lk_flow ?_
        walk_at "go"
        refine w_ixT er (atI_nat (j := 3) rfl) (w_ixL a6.fl (at_int (by omega)) ?_)
        walk_at "go"
        refine w_ixT er (atI_nat (j := 4) rfl) ?_
        walk_at "go"
        refine w_I hcm ?_
        walk_at "go"
        refine w_fld a6.o A.cl A.n_flow lk_flow ?_
        walk_at "go"
        refine w_ixT er (atI_nat (j := 3) rfl) (w_setL a6.fl (by rw [List.length_map]; omega) fun H8 m8 e8 => ?_)
        rw [set_ints] at e8
        walk_at "go"
        exact ⟨_, rfl, fun b o n e => m8 b o n (m6 b o n e), a6.setF m8 e8⟩
      · rintro σ H6 ⟨y11, rfl, m6, a6⟩
        rw [lqs, take_all] at a6
        walk_at "go"
        refine k H6 (fun b o n e => m6 b o (fun hm => n (List.mem_cons_of_mem _ hm)) (s5 _ _ (m3 b o (fun hm => n (by rw [List.mem_singleton.mp hm]; exact List.mem_cons_self)) (s02 _ _ e)))) a6
    · have e : (!decide (((p.u : Nat) : Int) = ((st : Nat) : Int))) = true := by
        rw [decide_eq_false (by omega)]
        rfl
      have hc : TL.pcond st p = true := decide_eq_true hu
      rw [e, if_pos rfl]
      refine hY hc _ ?_
      obtain ⟨⟨e, g1, g2⟩, jn⟩ := J2 p jp hc
      have hlast := la3.r p.u (by rw [B.ll]; exact j1)
      rw [g1] at hlast
      obtain ⟨q, hq1, hq2⟩ := hlast
      have hix : e.ix < N.rs.length ∧ (e.sg = 1 ∨ e.sg = -1) := by
        obtain ⟨q1, q2, _⟩ := TL.step_eff g2 0
        exact ⟨q2, q1⟩
      have hat := at_lv (vs := lv) (j := p.u) (by rw [la3.len, B.ll]; exact j1)
      rw [hq1] at hat
      have er := s5 _ _ hq2
      have a5 := a3.same s5
      have hcm : CMul e.sg (gi f e.ix) := .inl (by rcases hix.2 with q | q <;> rw [q] <;> exact ⟨by decide, by decide⟩)
      have ps : TL.pstep b.l f p = ⟨e.fr, p.path ++ [e], TL.minI p.many (1 - e.sg * gi f e.ix)⟩ := by unfold TL.pstep; rw [g1]; rfl
      rw [ps] at jn ⊢
      have lq : qs.length ≤ 4 := by rw [sa5.l]; omega
      walk_at "go"
      refine w_ixL (s5 _ _ el3) hat ?_
      walk_at "go"
      refine ⟨tyL e5, ?_⟩
      walk_at "go"
      refine w_app e5 (by rw [List.length_map]; omega) fun H6 m6 e6 => ?_
      rw [refs_snoc] at e6
      have t6 := Tp.sm m6 e5
      have s6 : Same H3 H6 := same_sm s5 m6 npl
      have a6 := a3.same s6
      have er6 := t6 _ _ er
      walk_at "go"
      refine w_fld a6.o A.cl A.n_weights lk_weights ?_
      walk_at "go"
      refine w_ixT er6 (atI_nat (j := 3) rfl) (w_ixT a6.w (at_int (by simpa [onesL] using hix.1)) ?_)
      rw [ones_at hix.1]
      walk_at "go"
      refine w_ixT er6 (atI_nat (j := 4) rfl) ?_
      walk_at "go"
      refine w_fld a6.o A.cl A.n_flow lk_flow ?_
      walk_at "go"
      refine w_ixT er6 (atI_nat (j := 3) rfl) (w_ixL a6.fl (at_int (by omega)) ?_)
      refine w_I hcm ?_
      walk_at "go"
      refine w_ixT er6 (atI_nat (j := 0) rfl) ?_
      walk_at "go"
      exact ⟨jn, _, _, rfl, s6, e6, (sa5.tp t6).snoc er6⟩
end
end TW

namespace TW
open PySem L2
/-- one step of a reading -/
local macro_rules | `(tactic| walk_at "st") => `(tactic| first
  | with_reducible refine w_seq ?_ | with_reducible refine w_next ?_ | with_reducible refine w_nx ?_ | with_reducible refine w_rt ?_ | with_reducible refine w_asg ?_ | with_reducible refine w_name ?_
  | with_reducible refine w_op ?_ | with_reducible refine w_un ?_ | with_reducible refine w_var rfl ?_ | with_reducible refine w_c ?_ | with_reducible refine w_ret ?_ | with_reducible refine w_drop ?_
  | with_reducible refine w_if ?_ | with_reducible refine w_test ?_ | with_reducible refine w_tB ?_ | with_reducible refine w_k ?_ | with_reducible refine w_and ?_ | with_reducible refine w_or ?_ | with_reducible refine w_yes ?_
  | with_reducible refine w_nil ?_ | with_reducible refine w_cons ?_ | with_reducible refine w_cb ?_ | with_reducible refine w_call ?_ | with_reducible refine w_I0 ?_ | with_reducible refine w_neg ?_
  | with_reducible refine w_eqI ?_ | with_reducible refine w_neI ?_ | with_reducible refine w_abs ?_ | with_reducible refine w_min2 ?_ | with_reducible refine w_intI ?_ | with_reducible refine w_intB ?_
  | with_reducible refine w_isN0 ?_ | with_reducible refine w_isN1 ?_ | with_reducible refine w_isN2 ?_ | with_reducible refine w_noN0 ?_ | with_reducible refine w_noN1 ?_ | with_reducible refine w_noN2 ?_
  | with_reducible refine w_sub ?_ | with_reducible refine w_for ?_ | with_reducible refine w_lc ?_ | with_reducible refine w_iT ?_ | with_reducible refine w_iL ?_ | with_reducible refine w_iE ?_ | with_reducible refine w_iEl ?_
  | with_reducible refine w_iZ ?_ | with_reducible refine w_iR1 ?_ | with_reducible refine w_iR2 ?_ | with_reducible refine w_gc ?_ | with_reducible refine w_gn ?_ | with_reducible refine w_bm ?_ | with_reducible refine w_sfld ?_ | with_reducible refine w_tfld ?_ | with_reducible refine w_meth ?_ | with_reducible refine w_make ?_ | with_reducible refine w_tup ?_ | with_reducible refine w_lst ?_)
local macro_rules | `(tactic| walk_at "go") => `(tactic| repeat walk_at "st")
local macro_rules | `(tactic| walk_at "nx") => `(tactic| repeat (first | with_reducible refine w_next ?_ | with_reducible refine w_nx ?_ | with_reducible refine w_name ?_ | with_reducible refine w_gc ?_ | with_reducible refine w_gn ?_))

open TL (Rd rat miss gi absI Stp BF go PW)
section
variable {P : Program} {w : World} {K : PySem.W.Frag} {mg : Str → Option Value} {base : Heap}
/-! ### run -/
theorem max_ints {H : Hp} {l : Addr} {xs : List Int} {Q : VK} (e : H l = some (.lst (xs.map V.int))) (hn : 0 < xs.length) (k : Q (.int (TL.mxI xs)) H) : rMax K [.ref l] H Q :=
  ⟨l, xs, rfl, SqL.of e, hn, fun m hm h => by rw [TL.mxI_uniq hm h]; exact k⟩
theorem ix_ints {H : Hp} {l : Addr} {xs : List Int} {Q : VK} (e : H l = some (.lst (xs.map V.int))) (hn : 0 < xs.length) (k : Q (.int ((TL.argE xs : Nat) : Int)) H) : rIndex K (.ref l) [.int (TL.mxI xs)] H Q := by
  have hm : TL.mxI xs ∈ xs := (TL.mxI_ok (fun z => by rw [z] at hn; cases hn)).1
  have hlt : TL.argE xs < xs.length := List.idxOf_lt_length_of_mem hm
  refine ⟨l, xs.map V.int, .int (TL.mxI xs), TL.argE xs, .int (TL.mxI xs), rfl, rfl, SqL.of e, rfl, by simp [flatV], ?_, ?_, fun m z hm' hz => ?_, k⟩
  · rw [List.getElem?_map, List.getElem?_eq_getElem hlt]
    show some (V.int (xs[TL.argE xs])) = _
    rw [show xs[TL.argE xs] = TL.mxI xs from List.getElem_idxOf hlt]
  · simp [eqV]
  · have hml : m < xs.length := by omega
    rw [List.getElem?_map, List.getElem?_eq_getElem hml] at hz
    cases hz
    have hm2 : m < xs.findIdx (· == TL.mxI xs) := hm'
    have := List.not_of_lt_findIdx hm2
    simpa [eqV] using this
def spRun (C : Addr) : Sp := fun vs H Q _ => ∃ (N : Net) (S : Sr), vs = [.ref S.p] ∧ SrAt C H N S (TL.run0 N.n N.rs).1 (TL.run0 N.n N.rs).2 ∧ NOk N ∧
  ∀ H', Sm [S.hl, S.fl] H H' → SrAt C H' N S (TL.runOf N.n N.rs).1 (TL.runOf N.n N.rs).2 → Q .non H'
theorem Sm.refl {L : List Addr} {H : Hp} : Sm L H H := fun _ _ _ e => e
theorem Sm.trans {L : List Addr} {H H1 H2 : Hp} (a : Sm L H H1) (b : Sm L H1 H2) : Sm L H H2 := fun c o n e => b c o n (a c o n e)
theorem ok_run (A : All K mg) : FnOk P w K mg base CX0 6 A.a_run A.d_run ["self"] (spRun A.C) := by
  refine A.F_run.ok sc_run (fun vs H Q E h => ?_) (fun cdv A' outer s H vs Q E hr h => ?_)
  · obtain ⟨N, S, rfl, _⟩ := h
    rfl
  · obtain ⟨N, S, rfl, a, ok, k⟩ := h
    refine ⟨_, (pss_cons (ps_set (i := 1) sc_run.nd rfl (by first | exact Or.inl rfl | exact Or.inr rfl) (pe_meth0 (pv 0) A.cl A.m_excess (ok_excess A) (hr.mono (by decide)) A.b_excess .nil pass0)) (pss_one (ps_while PassesOwn.never (pt_cmpR op_gt (pe_callB (cr_max rfl) (by rfl) A.z_max (by decide +kernel) (pa_cons (pv 1) pa_nil)) pe_int (nomark _)) (pss_cons (ps_expr (pe_meth (pv 0) A.cl A.m_push (ok_push A) hr A.b_push .nil pass0 (pa_cons (pe_bm PySem.F.plainAttrs_list PySem.F.slot_list_index PySem.F.type_list_index mt_index (pv 1) (pa_cons (pe_callB (cr_max rfl) (by rfl) A.z_max (by decide +kernel) (pa_cons (pv 1) pa_nil)) pa_nil)) (pa_cons (pv 1) pa_nil)))) (pss_one (ps_set (i := 1) sc_run.nd rfl (by first | exact Or.inl rfl | exact Or.inr rfl) (pe_meth0 (pv 0) A.cl A.m_excess (ok_excess A) (hr.mono (by decide)) A.b_excess .nil pass0))))))), ?_⟩
    have n1 := ok.n1
    have n4 := ok.n4
    obtain ⟨⟨kk, lp⟩, _, _⟩ := TL.run_ok ok.ok
    have si0 := TL.run0_ok ok.ok
    generalize TL.runOf N.n N.rs = r at *
    generalize TL.run0 N.n N.rs = r0 at *
    walk_at "go"
    refine w_me a.o (lk_none (by decide +kernel) (by decide +kernel) (by decide +kernel) (by decide +kernel) (by decide +kernel)) ?_
    walk_at "go"
    refine ⟨N, S, _, _, rfl, a, ok, si0.fb.1, fun xl H1 s1 nx e1 => ?_⟩
    have a1 := a.same s1
    walk_at "go"
    refine w_while lp (TL.SI N.n N.rs) (fun t σ H' => ∃ xl, σ = [some (.ref S.p), some (.ref xl)] ∧ Sm [S.hl, S.fl] H H' ∧ SrAt A.C H' N S t.1 t.2 ∧ H' xl = some (.lst ((TL.excess N.n N.rs t.2).map V.int)) ∧ xl ≠ S.hl ∧ xl ≠ S.fl) si0
      ⟨xl, rfl, Sm.of s1 _, a1, e1, fun z => (by rw [z, a.hl] at nx; cases nx), fun z => (by rw [z, a.fl] at nx; cases nx)⟩ ?_
    rintro t σ H2 Yes No si ⟨xl, rfl, m2, a2, e2, nxh, nxf⟩ hY hN
    have lex : 0 < (TL.excess N.n N.rs t.2).length := by rw [TL.excess_len]; omega
    walk_at "go"
    refine max_ints e2 lex ?_
    walk_at "go"
    refine w_ifd (fun c => ?_) (fun c => ?_)
    · have hc : TL.runC N.n N.rs t = true := decide_eq_true c
      refine hY hc _ ?_
      obtain ⟨g1, g2, _⟩ := TL.arg_ok hc
      have sin := (TL.push_ok ok.ok si g1 g2).1
      walk_at "go"
      refine w_me a2.o (lk_none (by decide +kernel) (by decide +kernel) (by decide +kernel) (by decide +kernel) (by decide +kernel)) ?_
      walk_at "go"
      refine ⟨tyL e2, ?_⟩
      walk_at "go"
      refine max_ints e2 lex ?_
      walk_at "go"
      refine ix_ints e2 lex ?_
      walk_at "go"
      refine ⟨N, S, t.1, t.2, _, xl, rfl, a2, ok, si, g1, g2, e2, nxh, nxf, fun H3 m3 a3 => ?_⟩
      walk_at "go"
      refine w_me a3.o (lk_none (by decide +kernel) (by decide +kernel) (by decide +kernel) (by decide +kernel) (by decide +kernel)) ?_
      walk_at "go"
      refine ⟨N, S, _, _, rfl, a3, ok, sin.fb.1, fun xl3 H4 s4 nx4 e4 => ?_⟩
      walk_at "go"
      exact ⟨sin, xl3, rfl, (m2.trans m3).trans (Sm.of s4 _), a3.same s4, e4, fun z => (by rw [z, a3.hl] at nx4; cases nx4), fun z => (by rw [z, a3.fl] at nx4; cases nx4)⟩
    · refine hN (decide_eq_false c) _ fun er => ?_
      subst er
      walk_at "go"
      exact k H2 m2 a2
/-! ### adjusted, best_paper -/
noncomputable def bestH (N : Net) : List Int := (TL.runOf N.n N.rs).1.map fun x => x - gi (TL.runOf N.n N.rs).1 0
noncomputable def bestF (N : Net) : List Int := (TL.runOf N.n N.rs).2
def spAdjusted : Sp := fun vs H Q _ => ∃ (N : Net) (wp : Addr), vs = [.ref N.a, .ref wp] ∧ NetAt H N ∧ NOk N ∧ H wp = some (.tup ((onesL N).map V.int)) ∧
  ∀ p hp fp H', Same H H' → H' p = some (.tup [.ref hp, .ref fp]) → H' hp = some (.tup ((bestH N).map V.int)) → H' fp = some (.tup ((bestF N).map V.int)) → Q (.ref p) H'
theorem ok_adjusted (A : All K mg) : FnOk P w K mg base CX0 7 A.a_adjusted A.d_adjusted ["net", "weights"] spAdjusted := by
  refine A.F_adjusted.ok sc_adjusted (fun vs H Q E h => ?_) (fun cdv A' outer s H vs Q E hr h => ?_)
  · obtain ⟨N, wp, rfl, _⟩ := h
    rfl
  · obtain ⟨N, wp, rfl, hN, ok, hw, k⟩ := h
    refine ⟨_, (pss_cons (ps_set (i := 2) sc_adjusted.nd rfl (by first | exact Or.inl rfl | exact Or.inr rfl) (pe_make A.mkS (ok_init A) (hr.mono (by decide)) (by rfl) A.gS A.b_init .nil pass0 (pa_cons (pv 0) (pa_cons (pv 1) pa_nil)))) (pss_cons (ps_expr (pe_meth0 (pv 2) A.cl A.m_run (ok_run A) hr A.b_run .nil pass0)) (pss_cons (ps_set (i := 3) sc_adjusted.nd rfl (by first | exact Or.inl rfl | exact Or.inr rfl) (pe_callTy (call_tupA K rfl) (by rfl) A.z_tuple (by decide +kernel) (pa_cons (pe_lc (own := [("height", 4)]) (g := (gName 4)) (tt := tYes) rfl sc_adjusted.nd (pi_list (pe_fldA K rfl (pv 2) rfl)) (blkOk_by (own := [("height", 4)]) (N := ["net", "weights", "search", "heights", "height"]) (sc := defScope s_adjusted) (by decide +kernel)) (fun _ _ _ _ _ => (pg_name (i := 4) sc_adjusted.nd rfl (by first | exact Or.inl rfl | exact Or.inr rfl))) (fun _ _ _ _ _ => pts_nil) (fun _ _ _ _ _ => (pe_op op_sub (pv 4) (pe_ix (ix_A K rfl) (pe_fldA K rfl (pv 2) rfl) pe_int (fun _ _ => rfl))))) pa_nil))) (pss_one (ps_ret (pe_tup (pa_cons (pv 3) (pa_cons (pe_callTy (call_tupA K rfl) (by rfl) A.z_tuple (by decide +kernel) (pa_cons (pe_fldA K rfl (pv 2) rfl) pa_nil)) pa_nil)))))))), ?_⟩
    have n1 := ok.n1
    have n4 := ok.n4
    walk_at "go"
    intro x dx nx ndx ne
    have s0 : Same H (upd (upd H dx (.own x)) x (.ins A.C dx [])) := fun b o e => by
      rw [upd_ne (ne_of_none e nx), upd_ne (ne_of_none e ndx)]
      exact e
    refine ⟨N, x, dx, wp, rfl, upd_same, hN.same s0, ok, s0 _ _ hw, fun H1 hl fl m1 nhl nfl a1 => ⟨rfl, ?_⟩⟩
    generalize upd (upd H dx (.own x)) x (.ins A.C dx []) = Hi at *
    have s1 : Same H H1 := fun b o e => m1 b o (fun hm => by
      rw [List.mem_singleton.mp hm, nx] at e
      cases e) (s0 _ _ e)
    have nhl' : H hl = none := s0.free nhl
    have nfl' : H fl = none := s0.free nfl
    walk_at "go"
    refine w_me a1.o (lk_none (by decide +kernel) (by decide +kernel) (by decide +kernel) (by decide +kernel) (by decide +kernel)) ?_
    walk_at "go"
    refine ⟨N, _, rfl, a1, ok, fun H2 m2 a2 => ?_⟩
    have s2 : Same H H2 := fun b o e => m2 b o (fun hm => by
      rcases List.mem_cons.mp hm with z | z
      · rw [show b = hl from z, nhl'] at e; cases e
      · rw [show b = fl from List.mem_singleton.mp z, nfl'] at e; cases e) (s1 _ _ e)
    obtain ⟨_, si, _⟩ := TL.run_ok ok.ok
    have lh : (TL.runOf N.n N.rs).1.length = N.n := si.lh
    walk_at "go"
    refine w_fld a2.o A.cl A.n_heights lk_heights ?_
    refine ⟨hl, rfl, ⟨_, SqL.of a2.hl⟩, fun L nL => ?_⟩
    refine lc walk_list (by rw [List.length_map, lh]; omega) nL (fun i acc _ => acc = (((TL.runOf N.n N.rs).1.take i).map fun x => x - gi (TL.runOf N.n N.rs).1 0).map V.int) (fun _ _ _ => rfl) (fun i acc H' s' _ => s'.lst a2.hl) ?_ ?_
    · rintro i acc v H3 H4 F No hi s3 eL ea ⟨rfl, hv⟩ hF _
      rw [List.length_map] at hi
      rw [List.getElem?_map, List.getElem?_eq_getElem hi] at hv
      cases hv
      have a3 := a2.same s3
      walk_at "go"
      refine ⟨rfl, ?_⟩
      walk_at "go"
      rw [if_pos rfl]
      walk_at "go"
      refine w_fld a3.o A.cl A.n_heights lk_heights ?_
      walk_at "go"
      refine w_ixL a3.hl (at_int (j := 0) (by omega)) ?_
      walk_at "go"
      refine hF _ _ (Same.refl _) fun H5 _ _ _ _ => ?_
      rw [ea, take_map (List.getElem?_eq_getElem hi), List.map_append]
      rfl
    · intro acc H3 s3 eL _ ea
      rw [List.length_map, take_all] at ea
      walk_at "go"
      refine w_tupA eL fun hp H4 nhp s4 ehp => ?_
      rw [ea] at ehp
      have a4 := a2.same (s3.trans s4)
      walk_at "go"
      refine w_fld a4.o A.cl A.n_flow lk_flow ?_
      walk_at "go"
      refine w_tupA a4.fl fun fp H5 nfp s5 efp => ?_
      walk_at "go"
      refine w_newT (sz rfl) fun p H6 np s6 ep => ?_
      walk_at "go"
      exact k p hp fp H6 (((s2.trans s3).trans s4).trans (s5.trans s6)) ep (s6 _ _ (s5 _ _ ehp)) (s6 _ _ efp)
def spBest : Sp := fun vs H Q _ => ∃ N : Net, vs = [.ref N.a] ∧ NetAt H N ∧ NOk N ∧
  ∀ p hp fp H', Same H H' → H' p = some (.tup [.str "best", .ref hp, .ref fp]) → H' hp = some (.tup ((bestH N).map V.int)) → H' fp = some (.tup ((bestF N).map V.int)) → Q (.ref p) H'
theorem ok_best_paper (A : All K mg) : FnOk P w K mg base CX0 8 A.a_best_paper A.d_best_paper ["net"] spBest := by
  refine A.F_best_paper.ok sc_best_paper (fun vs H Q E h => ?_) (fun cdv A' outer s H vs Q E hr h => ?_)
  · obtain ⟨N, rfl, _⟩ := h
    rfl
  · obtain ⟨N, rfl, hN, ok, k⟩ := h
    refine ⟨_, (pss_one (ps_ret (pe_op (op_catA1 K rfl) (pe_tup (pa_cons pe_str pa_nil)) (pe_call (ok_adjusted A) hr (by rfl) A.g_adjusted A.F_adjusted.kp A.b_adjusted .nil pass0 (pa_cons (pv 0) (pa_cons (pe_op (op_repT1 K rfl) (pe_tup (pa_cons pe_int pa_nil)) (pe_callB (call_lenA K rfl) (by rfl) A.z_len (by decide +kernel) (pa_cons (pe_ix (ix_A K rfl) (pv 0) pe_int (fun _ _ => rfl)) pa_nil))) pa_nil)))))), ?_⟩
    have r9 := ok.r9
    walk_at "go"
    refine w_newT (sz rfl) fun bp H1 nb s1 e1 => ?_
    walk_at "go"
    refine w_newT (sz rfl) fun op H2 no s2 e2 => ?_
    have s02 := s1.trans s2
    have hN2 := hN.same s02
    walk_at "go"
    refine w_ixT hN2.a (atI_nat (j := 2) rfl) ?_
    walk_at "go"
    refine w_lenT hN2.t ?_
    have lp : (N.ps.map V.ref).length = N.rs.length := by rw [List.length_map, hN.pl]
    rw [lp]
    refine ⟨op, (N.rs.length : Int), .int 1, rfl, rfl, e2, by omega, by omega, fun wp H3 s3 e3 => ?_⟩
    have s3' : Same H2 H3 := s3
    rw [Int.toNat_natCast] at e3
    walk_at "go"
    refine ⟨N, wp, rfl, hN2.same s3', ok, by rw [e3]; unfold onesL; rw [List.map_replicate], fun ap hp fp H4 s4 ea eh ef => ?_⟩
    have e14 := s4 _ _ (s3' _ _ (s2 _ _ e1))
    refine ⟨bp, ap, _, _, rfl, rfl, SqT.of e14, SqT.of ea, by show 3 ≤ sizeLine; decide, fun z => (by cases z), fun _ z => (by cases z), fun _ _ p np => ?_⟩
    walk_at "go"
    exact k p hp fp _ (s02.trans (s3'.trans (s4.trans (same_new np)))) upd_same ((same_new np) _ _ eh) ((same_new np) _ _ ef)
end
end TW

namespace TW
open PySem L2
/-- one step of a reading -/
local macro_rules | `(tactic| walk_at "st") => `(tactic| first
  | with_reducible refine w_seq ?_ | with_reducible refine w_next ?_ | with_reducible refine w_nx ?_ | with_reducible refine w_rt ?_ | with_reducible refine w_asg ?_ | with_reducible refine w_name ?_
  | with_reducible refine w_op ?_ | with_reducible refine w_un ?_ | with_reducible refine w_var rfl ?_ | with_reducible refine w_c ?_ | with_reducible refine w_ret ?_ | with_reducible refine w_drop ?_
  | with_reducible refine w_if ?_ | with_reducible refine w_test ?_ | with_reducible refine w_tB ?_ | with_reducible refine w_k ?_ | with_reducible refine w_and ?_ | with_reducible refine w_or ?_ | with_reducible refine w_yes ?_
  | with_reducible refine w_nil ?_ | with_reducible refine w_cons ?_ | with_reducible refine w_cb ?_ | with_reducible refine w_call ?_ | with_reducible refine w_I0 ?_ | with_reducible refine w_neg ?_
  | with_reducible refine w_eqI ?_ | with_reducible refine w_neI ?_ | with_reducible refine w_abs ?_ | with_reducible refine w_min2 ?_ | with_reducible refine w_intI ?_ | with_reducible refine w_intB ?_
  | with_reducible refine w_isN0 ?_ | with_reducible refine w_isN1 ?_ | with_reducible refine w_isN2 ?_ | with_reducible refine w_noN0 ?_ | with_reducible refine w_noN1 ?_ | with_reducible refine w_noN2 ?_
  | with_reducible refine w_sub ?_ | with_reducible refine w_for ?_ | with_reducible refine w_lc ?_ | with_reducible refine w_iT ?_ | with_reducible refine w_iL ?_ | with_reducible refine w_iE ?_ | with_reducible refine w_iEl ?_
  | with_reducible refine w_iZ ?_ | with_reducible refine w_iR1 ?_ | with_reducible refine w_iR2 ?_ | with_reducible refine w_gc ?_ | with_reducible refine w_gn ?_ | with_reducible refine w_bm ?_ | with_reducible refine w_sfld ?_ | with_reducible refine w_tfld ?_ | with_reducible refine w_meth ?_ | with_reducible refine w_make ?_ | with_reducible refine w_tup ?_ | with_reducible refine w_lst ?_)
local macro_rules | `(tactic| walk_at "go") => `(tactic| repeat walk_at "st")
local macro_rules | `(tactic| walk_at "nx") => `(tactic| repeat (first | with_reducible refine w_next ?_ | with_reducible refine w_nx ?_ | with_reducible refine w_name ?_ | with_reducible refine w_gc ?_ | with_reducible refine w_gn ?_))

open TL (Rd rat miss gi absI Stp BF go PW Le SS)
section
variable {P : Program} {w : World} {K : PySem.W.Frag} {mg : Str → Option Value} {base : Heap}
/-! ### search -/
theorem w_cut {t u : TS} {D : Ends} {σ : L2.St} {H : Hp} (I : L2.St → Hp → Prop) (h1 : ∀ n : L2.St → Hp → Prop, (∀ σ' H', I σ' H' → n σ' H') → t { D with nx := n } σ H) (h2 : ∀ σ' H', I σ' H' → u D σ' H') : tSeq t u D σ H :=
  h1 (u D) h2
theorem t_and2 {tA tB : TT} {b1 b2 : Bool} {σ : L2.St} {H : Hp} {q : Bool → Hp → Prop} (hA : ∀ q : Bool → Hp → Prop, q b1 H → tA σ H q) (hB : ∀ q : Bool → Hp → Prop, q b2 H → tB σ H q) (k : q (b1 && b2) H) : tAnd tA tB σ H q := by
  refine w_and (hA _ ?_)
  cases b1 with
  | true => rw [if_pos rfl]; exact hB _ k
  | false => rw [if_neg Bool.false_ne_true]; exact k
theorem t_or2 {tA tB : TT} {b1 b2 : Bool} {σ : L2.St} {H : Hp} {q : Bool → Hp → Prop} (hA : ∀ q : Bool → Hp → Prop, q b1 H → tA σ H q) (hB : ∀ q : Bool → Hp → Prop, q b2 H → tB σ H q) (k : q (b1 || b2) H) : tOr tA tB σ H q := by
  refine w_or (hA _ ?_)
  cases b1 with
  | true => rw [if_pos rfl]; exact k
  | false => rw [if_neg Bool.false_ne_true]; exact hB _ k
theorem dI {m n : Nat} : decide ((m : Int) = (n : Int)) = decide (m = n) := decide_eq_decide.mpr Int.ofNat_inj
def leV (e : Le) : List V := [.int (e.u : Int), .int e.ix, .int e.by_]
def EV (H : Hp) (v : V) : Option Le → Prop
  | none => v = .non
  | some e => ∃ p, v = .ref p ∧ H p = some (.tup (leV e))
structure LeAt (H : Hp) (vs : List V) (l : List (Option Le)) : Prop where
  len : vs.length = l.length
  r : ∀ i, i < l.length → EV H (vs.getD i .non) (go l i)
theorem EV.tp {H H' : Hp} {v : V} {o : Option Le} (a : EV H v o) (t : Tp H H') : EV H' v o := by
  cases o with
  | none => exact a
  | some e =>
    obtain ⟨p, h1, h2⟩ := a
    exact ⟨p, h1, t _ _ h2⟩
theorem LeAt.tp {H H' : Hp} {vs : List V} {l : List (Option Le)} (a : LeAt H vs l) (t : Tp H H') : LeAt H' vs l := ⟨a.len, fun i hi => (a.r i hi).tp t⟩
theorem LeAt.set {H : Hp} {vs : List V} {l : List (Option Le)} {j : Nat} {p : Addr} {e : Le} (a : LeAt H vs l) (hj : j < l.length) (h : H p = some (.tup (leV e))) : LeAt H (vs.set j (.ref p)) (l.set j (some e)) := by
  refine ⟨by rw [List.length_set, List.length_set, a.len], fun i hi => ?_⟩
  rw [List.length_set] at hi
  have al := a.len
  rw [TL.go_set hj]
  by_cases c : i = j
  · subst c
    rw [if_pos rfl, List.getD_eq_getElem?_getD, List.getElem?_set_self (by omega)]
    exact ⟨p, rfl, h⟩
  · rw [if_neg c, List.getD_eq_getElem?_getD, List.getElem?_set_ne (Ne.symm c), ← List.getD_eq_getElem?_getD]
    exact a.r i hi
theorem LeAt.rep {H : Hp} {n : Nat} : LeAt H (List.replicate n .non) (List.replicate n none) := by
  refine ⟨by simp, fun i hi => ?_⟩
  show EV H _ (go (List.replicate n none) i)
  rw [TL.go_rep]
  show (List.replicate n V.non).getD i .non = .non
  by_cases c : i < n <;> simp [List.getD_eq_getElem?_getD, c]
/-- last[v] is None -/
theorem t_free {m o : Nat} {σ : L2.St} {H : Hp} {ll : Addr} {lv : List V} {l : List (Option Le)} {v : Nat} {q : Bool → Hp → Prop} (hm : σ[m]? = some (some (.ref ll))) (ho : σ[o]? = some (some (.int (v : Int)))) (e : H ll = some (.lst lv)) (la : LeAt H lv l) (hv : v < l.length)
    (k : q (go l v).isNone H) : tTest (tOp rIsN (tOp (rIxA K) (tVar m) (tVar o)) (tC .non)) σ H q := by
  have ha := at_lv (vs := lv) (j := v) (by rw [la.len]; exact hv)
  have r := la.r v hv
  refine w_test (w_op (w_op (w_var hm (w_var ho (w_ixL e ha (w_c ?_))))))
  cases hd : go l v with
  | none =>
    rw [hd] at r k
    rw [show lv.getD v .non = .non from r]
    exact w_isN0 (w_k k)
  | some e =>
    rw [hd] at r k
    obtain ⟨p, r, _⟩ := r
    rw [r]
    exact w_isN2 (w_k k)
theorem t_taken {m o : Nat} {σ : L2.St} {H : Hp} {ll : Addr} {lv : List V} {l : List (Option Le)} {v : Nat} {q : Bool → Hp → Prop} (hm : σ[m]? = some (some (.ref ll))) (ho : σ[o]? = some (some (.int (v : Int)))) (e : H ll = some (.lst lv)) (la : LeAt H lv l) (hv : v < l.length)
    (k : q (go l v).isSome H) : tTest (tOp rNotN (tOp (rIxA K) (tVar m) (tVar o)) (tC .non)) σ H q := by
  have ha := at_lv (vs := lv) (j := v) (by rw [la.len]; exact hv)
  have r := la.r v hv
  refine w_test (w_op (w_op (w_var hm (w_var ho (w_ixL e ha (w_c ?_))))))
  cases hd : go l v with
  | none =>
    rw [hd] at r k
    rw [show lv.getD v .non = .non from r]
    exact w_noN0 (w_k k)
  | some e =>
    rw [hd] at r k
    obtain ⟨p, r, _⟩ := r
    rw [r]
    exact w_noN2 (w_k k)
def nqV (q : List Nat) : List V := q.map fun j : Nat => V.int (j : Int)
structure SAt (H0 H : Hp) (ll ql : Addr) (lv : List V) (z : SS) : Prop where
  s : Same H0 H
  l : H ll = some (.lst lv)
  la : LeAt H lv z.l
  q : H ql = some (.lst (nqV z.q))
theorem SAt.same {H0 H H1 : Hp} {ll ql : Addr} {lv : List V} {s : SS} (a : SAt H0 H ll ql lv s) (m : Same H H1) : SAt H0 H1 ll ql lv s := ⟨a.s.trans m, m _ _ a.l, a.la.tp (Tp.of m), m _ _ a.q⟩
theorem SAt.put {H0 H H1 H2 H3 : Hp} {ll ql p : Addr} {lv : List V} {s : SS} {v : Nat} {e : Le} (a : SAt H0 H ll ql lv s) (n1 : H0 ll = none) (n2 : H0 ql = none) (ne : ll ≠ ql) (hv : v < s.l.length) (m1 : Same H H1) (ep : H1 p = some (.tup (leV e)))
    (m2 : Sm [ll] H1 H2) (e2 : H2 ll = some (.lst (lv.set v (.ref p)))) (m3 : Sm [ql] H2 H3) (e3 : H3 ql = some (.lst (nqV s.q ++ [.int (v : Int)]))) : SAt H0 H3 ll ql (lv.set v (.ref p)) ⟨s.l.set v (some e), s.q ++ [v]⟩ := by
  have b := a.same m1
  have t2 := Tp.sm m2 b.l
  have q2 := m2 ql _ (fun hm => ne (List.mem_singleton.mp hm).symm) b.q
  have t3 := Tp.sm m3 q2
  refine ⟨same_sm (same_sm b.s m2 n1) m3 n2, m3 _ _ (fun hm => ne (List.mem_singleton.mp hm)) e2, (b.la.tp (Tp.trans t2 t3)).set hv (t3 _ _ (t2 _ _ ep)), ?_⟩
  rw [e3]
  unfold nqV
  rw [List.map_append]
  rfl
theorem tryS_if {A B : Bool} {v : Nat} {e : Le} {s : SS} : TL.tryS (A && B) v e s = if (A && (B && (go s.l v).isNone)) = true then ⟨s.l.set v (some e), s.q ++ [v]⟩ else s := by
  unfold TL.tryS
  cases A <;> cases B <;> cases h : go s.l v <;> simp
theorem eqvAll_nil (ds : List PyData) : PyData.eqvAll ds [] = decide (ds = []) := by
  cases ds <;> simp [PyData.eqvAll]
theorem dp_ints {H : Hp} : ∀ xs : List Int, DpAll K H (xs.map V.int) (xs.map PyData.int)
  | [] => .nil
  | x :: xs => .cons (.int x) (dp_ints xs)
theorem can_ints : ∀ xs : List Int, PyData.canLayAll0 (xs.map PyData.int) = true
  | [] => rfl
  | x :: xs => by
    show (PyData.canLay0 (.int x) && PyData.canLayAll0 (xs.map PyData.int)) = true
    rw [can_ints xs]
    rfl
theorem dep_ints : ∀ xs : List Int, PyData.depthAll (xs.map PyData.int) ≤ 1
  | [] => by simp [PyData.depthAll]
  | x :: xs => by
    have := dep_ints xs
    simp only [List.map_cons, PyData.depthAll, PyData.depth]
    omega
theorem sh_list (xs : List Int) : SeqAt.shaped (.list (xs.map PyData.int)) = true := by
  refine Bool.and_eq_true_iff.mpr ⟨?_, decide_eq_true ?_⟩
  · show PyData.canLayAll0 _ = true
    exact can_ints xs
  · have := dep_ints xs
    simp only [PyData.depth]
    omega
theorem sh_tup (xs : List Int) : SeqAt.shaped (.tuple (xs.map PyData.int)) = true := by
  refine Bool.and_eq_true_iff.mpr ⟨?_, decide_eq_true ?_⟩
  · show PyData.canLayAll0 _ = true
    exact can_ints xs
  · have := dep_ints xs
    simp only [PyData.depth]
    omega
theorem nqV_ints (q : List Nat) : nqV q = (q.map fun j : Nat => (j : Int)).map V.int := by unfold nqV; rw [List.map_map]; rfl
theorem w_neNilL {H : Hp} {a b : Addr} {q : List Nat} {Q : VK} (h1 : H a = some (.lst (nqV q))) (h2 : H b = some (.lst [])) (k : Q (.bl (decide (q ≠ []))) H) : rNeD K (.ref a) (.ref b) H Q := by
  rw [nqV_ints] at h1
  refine ⟨_, _, .lst (SqL.of h1) (dp_ints _), .lst (SqL.of h2) .nil, sh_list _, sh_list [], ?_⟩
  have e : (!PyData.eqv (.list ((q.map fun j : Nat => (j : Int)).map PyData.int)) (.list [])) = decide (q ≠ []) := by
    show (!PyData.eqvAll _ []) = _
    rw [eqvAll_nil]
    cases q <;> simp
  rw [e]
  exact k
def spSearch : Sp := fun vs H Q _ => ∃ (N : Net) (fl : Addr) (f : List Int) (st : Nat), vs = [.ref N.a, .ref fl, .int (st : Int)] ∧ NetAt H N ∧ NOk N ∧ H fl = some (.lst (f.map V.int)) ∧ f.length = N.rs.length ∧ st < N.n ∧
  ∀ l lv H', Same H H' → H l = none → H' l = some (.lst lv) → LeAt H' lv (TL.srch N.n st N.rs f) → (TL.srch N.n st N.rs f).length = N.n → Q (.ref l) H'
theorem ok_search (A : All K mg) : FnOk P w K mg base CX0 1 A.a_search A.d_search ["net", "flow", "start"] spSearch := by
  refine A.F_search.ok sc_search (fun vs H Q E h => ?_) (fun cdv A' outer s H vs Q E hr h => ?_)
  · obtain ⟨N, fl, f, st, rfl, _⟩ := h
    rfl
  · obtain ⟨N, fl, f, st, rfl, hN, ok, efl, lf, hst, k⟩ := h
    refine ⟨_, (pss_cons (ps_set (i := 3) sc_search.nd rfl (by first | exact Or.inl rfl | exact Or.inr rfl) (pe_op op_rep (pe_lst (pa_cons pe_non pa_nil)) (pe_callB (call_lenA K rfl) (by rfl) A.z_len (by decide +kernel) (pa_cons (pe_ix (ix_A K rfl) (pv 0) pe_int (fun _ _ => rfl)) pa_nil)))) (pss_cons (ps_asg (pe_tup (pa_cons (pv 2) (pa_cons (pe_un un_neg pe_int) (pa_cons pe_int pa_nil)))) (pg_sub (pv 3) (pv 2) set_list)) (pss_cons (ps_set (i := 4) sc_search.nd rfl (by first | exact Or.inl rfl | exact Or.inr rfl) (pe_lst (pa_cons (pv 2) pa_nil))) (pss_cons (ps_while PassesOwn.never (pt_cmpR (op_neDA K rfl hr.units) (pv 4) (pe_lst pa_nil) (nomark _)) (pss_cons (ps_set (i := 5) sc_search.nd rfl (by first | exact Or.inl rfl | exact Or.inr rfl) (pe_bm PySem.F.plainAttrs_list PySem.F.slot_list_pop PySem.F.type_list_pop mt_popAt (pv 4) (pa_cons pe_int pa_nil))) (pss_one (ps_for PassesOwn.never rfl (pi_enumT (by rfl) A.z_enumerate (pa_cons (pe_ix (ix_A K rfl) (pv 0) pe_int (fun _ _ => rfl)) pa_nil)) (pg_tupA K rfl rfl (pgs_cons (pg_name (i := 6) sc_search.nd rfl (by first | exact Or.inl rfl | exact Or.inr rfl)) (pgs_cons (pg_name (i := 7) sc_search.nd rfl (by first | exact Or.inl rfl | exact Or.inr rfl)) pgs_nil))) (pss_cons (ps_asg (pv 7) (pg_tupA K rfl rfl (pgs_cons (pg_name (i := 8) sc_search.nd rfl (by first | exact Or.inl rfl | exact Or.inr rfl)) (pgs_cons (pg_name (i := 9) sc_search.nd rfl (by first | exact Or.inl rfl | exact Or.inr rfl)) (pgs_cons (pg_name (i := 10) sc_search.nd rfl (by first | exact Or.inl rfl | exact Or.inr rfl)) pgs_nil))))) (pss_cons (ps_if (PW.pt (pw_and (pt_cmpR op_eq (pv 5) (pv 8) (nomark _)) (pw_and (pt_cmpR op_lt (pe_ix (ix_A K rfl) (pv 1) (pv 6) (fun _ _ => rfl)) pe_int (nomark _)) (pw_and1 (pt_cmpR op_isN1 (pe_ix (ix_A K rfl) (pv 3) (pv 9) (fun _ _ => rfl)) pe_non (nomark _)))))) (pss_cons (ps_asg (pe_tup (pa_cons (pv 5) (pa_cons (pv 6) (pa_cons pe_int pa_nil)))) (pg_sub (pv 3) (pv 9) set_list)) (pss_one (ps_expr (pe_bm PySem.F.plainAttrs_list PySem.F.slot_list_append PySem.F.type_list_append mt_append (pv 4) (pa_cons (pv 9) pa_nil))))) pss_nil) (pss_one (ps_if (PW.pt (pw_and (pt_cmpR op_eq (pv 5) (pv 9) (nomark _)) (pw_and (pt_cmpR op_gt (pe_ix (ix_A K rfl) (pv 1) (pv 6) (fun _ _ => rfl)) (pe_un un_neg pe_int) (nomark _)) (pw_and1 (pt_cmpR op_isN1 (pe_ix (ix_A K rfl) (pv 3) (pv 8) (fun _ _ => rfl)) pe_non (nomark _)))))) (pss_cons (ps_asg (pe_tup (pa_cons (pv 5) (pa_cons (pv 6) (pa_cons (pe_un un_neg pe_int) pa_nil)))) (pg_sub (pv 3) (pv 8) set_list)) (pss_one (ps_expr (pe_bm PySem.F.plainAttrs_list PySem.F.slot_list_append PySem.F.type_list_append mt_append (pv 4) (pa_cons (pv 8) pa_nil))))) pss_nil)))))))) (pss_one (ps_ret (pv 3))))))), ?_⟩
    have n4 := ok.n4
    have r9 := ok.r9
    obtain ⟨kk, r, lp, er, S⟩ := TL.srch_ok ok.ok f hst
    rw [er] at k
    -- last
    walk_at "go"
    refine w_newL (sz rfl) fun l0 H1 n1 s1 e1 => ?_
    walk_at "go"
    refine w_ixT (s1 _ _ hN.a) (atI_nat (j := 1) rfl) ?_
    walk_at "go"
    refine w_lenT (s1 _ _ hN.m) ?_
    rw [List.length_map]
    refine w_rep1 (n := N.n) e1 (by omega) fun ll H2 n2 s2 e2 => ?_
    walk_at "go"
    refine w_newT (sz rfl) fun p H3 n3 s3 e3 => ?_
    have s03 : Same H H3 := (s1.trans s2).trans s3
    have nll : H ll = none := s1.free n2
    have e23 := s3 _ _ e2
    walk_at "go"
    refine w_setL e23 (by rw [List.length_replicate]; exact hst) fun H4 m4 e4 => ?_
    have s04 : Same H H4 := same_sm s03 m4 nll
    have t4 := Tp.sm m4 e23
    have la4 : LeAt H4 ((List.replicate N.n .non).set st (.ref p)) (TL.ss0 N.n st).l := LeAt.rep.set (by rw [List.length_replicate]; exact hst) (t4 _ _ e3)
    walk_at "go"
    refine w_newL (sz rfl) fun ql H5 n5 s5 e5 => ?_
    have nql : H ql = none := s04.free n5
    have nlq : ll ≠ ql := fun z => by rw [← z, e4] at n5; cases n5
    walk_at "go"
    refine w_while lp (TL.QI N.n st N.rs f) (fun s σ H' => ∃ x5 x6 x7 x8 x9 x10 lv, σ = [some (.ref N.a), some (.ref fl), some (.int (st : Int)), some (.ref ll), some (.ref ql), x5, x6, x7, x8, x9, x10] ∧ SAt H H' ll ql lv s) (TL.ss0_ok hst)
      ⟨none, none, none, none, none, none, _, rfl, s04.trans s5, s5 _ _ e4, la4.tp (Tp.of s5), e5⟩ ?_
    rintro s σ H6 Yes No Qi ⟨x5, x6, x7, x8, x9, x10, lv, rfl, a6⟩ hYes hNo
    walk_at "go"
    refine w_newL (sz rfl) fun np H7 n7 s7 e7 => ?_
    have a7 := a6.same s7
    refine w_neNilL a7.q e7 ?_
    walk_at "go"
    refine w_ifd (fun c => ?_) (fun c => ?_)
    · have hc : TL.qcond s = true := decide_eq_true c
      refine hYes hc _ ?_
      have Qn := (TL.passQ_ok ok.ok Qi hc).1
      obtain ⟨sl, sq⟩ := s
      cases sq with
      | nil => exact absurd rfl c
      | cons mark sq =>
        have hmk := Qi.qc.qn mark List.mem_cons_self
        have q1 : TL.QC N.n st N.rs f ⟨sl, sq⟩ := ⟨Qi.qc.ll, fun v hv => Qi.qc.qn v (List.mem_cons_of_mem _ hv), Qi.qc.l0, Qi.qc.tr, by have := Qi.qc.ct; simp only [List.length_cons] at this ⊢; omega⟩
        have scan := TL.scanS_ok ok.ok q1 hmk.1 hmk.2
        have ep : TL.passQ N.rs f ⟨sl, mark :: sq⟩ = TL.scanS N.rs f mark ⟨sl, sq⟩ N.rs.length := rfl
        rw [ep] at Qn ⊢
        walk_at "go"
        refine ⟨tyL a7.q, ?_⟩
        walk_at "go"
        refine ⟨ql, _, 0, 0, .int (mark : Int), rfl, rfl, a7.q, by decide, by decide, by simp [nqV, seqIndex?], by simp [nqV], ?_⟩
        have a8 : SAt H (upd H7 ql (.lst ((nqV (mark :: sq)).eraseIdx 0))) ll ql lv ⟨sl, sq⟩ :=
          ⟨same_sm a7.s sm_upd nql, sm_upd _ _ (fun hm => nlq (List.mem_singleton.mp hm)) a7.l, a7.la.tp (Tp.sm sm_upd a7.q), upd_same⟩
        generalize upd H7 ql (.lst ((nqV (mark :: sq)).eraseIdx 0)) = H8 at *
        walk_at "go"
        refine w_ixT (a8.s _ _ hN.a) (atI_nat (j := 2) rfl) ?_
        walk_at "go"
        refine ⟨N.t, _, rfl, SqT.of (a8.s _ _ hN.t), ?_⟩
        have lpt : (N.ps.map V.ref).length = N.rs.length := by rw [List.length_map, hN.pl]
        refine fo walk_enumT (fun i σ H' => ∃ x6 x7 x8 x9 x10 lv, σ = [some (.ref N.a), some (.ref fl), some (.int (st : Int)), some (.ref ll), some (.ref ql), some (.int (mark : Int)), x6, x7, x8, x9, x10] ∧ SAt H H' ll ql lv (TL.scanS N.rs f mark ⟨sl, sq⟩ i))
          ⟨x6, x7, x8, x9, x10, lv, rfl, a8⟩ (fun i σ H' _ ⟨_, _, _, _, _, _, _, a'⟩ => a'.s.tup hN.t) ?_ ?_
        · rintro i x σ H9 H10 hi ⟨y6, y7, y8, y9, y10, lv9, rfl, a9⟩ ⟨T, u, v, rfl, nT, rfl, hu, hv⟩
          rw [lpt] at hi
          cases hu
          have s10 : Same H9 (upd H9 T (.tup [.int (i : Nat), v])) := same_new nT
          have a10 := a9.same s10
          obtain ⟨ev, erd⟩ := rat_at (hN.same a10.s) hi hv
          subst ev
          have efl10 := a10.s _ _ efl
          have ha := ok.ok.a _ (TL.rat_mem hi)
          have hb := ok.ok.b _ (TL.rat_mem hi)
          have Qc := (scan i (by omega)).1
          have up : TL.scanS N.rs f mark ⟨sl, sq⟩ (i + 1) = TL.readS N.rs f mark i (TL.scanS N.rs f mark ⟨sl, sq⟩ i) := rfl
          rw [up]
          unfold TL.readS
          generalize TL.scanS N.rs f mark ⟨sl, sq⟩ i = s at *
          have ll9 := Qc.ll
          have ct9 := Qc.ct
          refine w_gT upd_same rfl ?_
          generalize upd H9 T (.tup [.int (i : Nat), .ref (N.ps.getD i 0)]) = H11 at *
          walk_at "st"
          walk_at "st"
          walk_at "st"
          walk_at "st"
          walk_at "st"
          refine w_cut (fun σ' H' => σ' = [some (.ref N.a), some (.ref fl), some (.int (st : Int)), some (.ref ll), some (.ref ql), some (.int (mark : Int)), some (.int (i : Int)), some (.ref (N.ps.getD i 0)), some (.int ((rat N.rs i).a : Int)), some (.int ((rat N.rs i).b : Int)), some (.int (rat N.rs i).v)] ∧ H' = H11) ?_ ?_
          · intro nk hnk
            walk_at "go"
            refine w_gT erd rfl ?_
            unfold rdV
            walk_at "go"
            exact hnk _ _ ⟨rfl, rfl⟩
          rintro σ' H' ⟨rfl, rfl⟩
          rw [tryS_if, tryS_if]
          refine w_cut (fun σ' H' => σ' = [some (.ref N.a), some (.ref fl), some (.int (st : Int)), some (.ref ll), some (.ref ql), some (.int (mark : Int)), some (.int (i : Int)), some (.ref (N.ps.getD i 0)), some (.int ((rat N.rs i).a : Int)), some (.int ((rat N.rs i).b : Int)), some (.int (rat N.rs i).v)] ∧ ∃ lv', SAt H H' ll ql lv' (if (decide (mark = (rat N.rs i).a) && (decide (gi f i < 1) && (go s.l (rat N.rs i).b).isNone)) = true then ⟨s.l.set (rat N.rs i).b (some ⟨mark, i, 1⟩), s.q ++ [(rat N.rs i).b]⟩ else s)) ?_ ?_
          · intro nk hnk
            refine w_if (t_and2 (b1 := decide (mark = (rat N.rs i).a)) (b2 := decide (gi f i < 1) && (go s.l (rat N.rs i).b).isNone) (fun q kq => ?_) (fun q kq => t_and2 (b1 := decide (gi f i < 1)) (b2 := (go s.l (rat N.rs i).b).isNone) (fun q kq => ?_) (fun q kq => ?_) kq) ?_)
            · rw [← dI] at kq
              walk_at "go"
              exact kq
            · walk_at "go"
              refine w_ixL efl10 (at_int (by omega)) ?_
              walk_at "go"
              exact kq
            · exact t_free rfl rfl a10.l a10.la (by omega) kq
            · cases hcase : (decide (mark = (rat N.rs i).a) && (decide (gi f i < 1) && (go s.l (rat N.rs i).b).isNone)) with
              | false =>
                rw [if_neg Bool.false_ne_true]
                walk_at "go"
                rw [hcase, if_neg Bool.false_ne_true] at hnk
                exact hnk _ _ ⟨rfl, _, a10⟩
              | true =>
                rw [if_pos rfl]
                rw [hcase, if_pos rfl] at hnk
                walk_at "go"
                refine w_newT (sz rfl) fun p H12 n12 s12 e12 => ?_
                have a12 := a10.same s12
                walk_at "go"
                refine w_setL a12.l (by rw [a12.la.len]; omega) fun H13 m13 e13 => ?_
                have q13 := m13 ql _ (fun hm => nlq (List.mem_singleton.mp hm).symm) a12.q
                walk_at "go"
                refine ⟨tyL q13, ?_⟩
                walk_at "go"
                refine w_app q13 (by simp only [nqV, List.length_map]; omega) fun H14 m14 e14 => ?_
                walk_at "go"
                exact hnk _ _ ⟨rfl, _, a10.put nll nql nlq (by omega) s12 e12 m13 e13 m14 e14⟩
          rintro σ' H12 ⟨rfl, lv12, a12⟩
          obtain ⟨s', hs'⟩ : ∃ s', s' = (if (decide (mark = (rat N.rs i).a) && (decide (gi f i < 1) && (go s.l (rat N.rs i).b).isNone)) = true then ⟨s.l.set (rat N.rs i).b (some ⟨mark, i, 1⟩), s.q ++ [(rat N.rs i).b]⟩ else s) := ⟨_, rfl⟩
          rw [← hs'] at a12 ⊢
          have l12 : s'.l.length = N.n ∧ s'.q.length ≤ N.n + 1 := by
            rw [hs']
            split
            · refine ⟨by rw [List.length_set]; exact ll9, ?_⟩
              rw [List.length_append, List.length_singleton]
              omega
            · exact ⟨ll9, by omega⟩
          clear hs'
          have efl12 := a12.s _ _ efl
          refine w_if (t_and2 (b1 := decide (mark = (rat N.rs i).b)) (b2 := decide (-1 < gi f i) && (go s'.l (rat N.rs i).a).isNone) (fun q kq => ?_) (fun q kq => t_and2 (b1 := decide (-1 < gi f i)) (b2 := (go s'.l (rat N.rs i).a).isNone) (fun q kq => ?_) (fun q kq => ?_) kq) ?_)
          · rw [← dI] at kq
            walk_at "go"
            exact kq
          · walk_at "go"
            refine w_ixL efl12 (at_int (by omega)) ?_
            walk_at "go"
            exact kq
          · exact t_free rfl rfl a12.l a12.la (by omega) kq
          · cases hcase : (decide (mark = (rat N.rs i).b) && (decide (-1 < gi f i) && (go s'.l (rat N.rs i).a).isNone)) with
            | false =>
              rw [if_neg Bool.false_ne_true, if_neg Bool.false_ne_true]
              walk_at "go"
              exact ⟨_, _, _, _, _, _, rfl, a12⟩
            | true =>
              rw [if_pos rfl, if_pos rfl]
              walk_at "go"
              refine w_newT (sz rfl) fun p H13 n13 s13 e13 => ?_
              have a13 := a12.same s13
              walk_at "go"
              refine w_setL a13.l (by rw [a13.la.len]; omega) fun H14 m14 e14 => ?_
              have q14 := m14 ql _ (fun hm => nlq (List.mem_singleton.mp hm).symm) a13.q
              walk_at "go"
              refine ⟨tyL q14, ?_⟩
              walk_at "go"
              refine w_app q14 (by simp only [nqV, List.length_map]; omega) fun H15 m15 e15 => ?_
              walk_at "go"
              exact ⟨_, _, _, _, _, _, rfl, a12.put nll nql nlq (by omega) s13 e13 m14 e14 m15 e15⟩
        · rintro σ H9 ⟨y6, y7, y8, y9, y10, lv9, rfl, a9⟩
          rw [lpt] at a9
          walk_at "go"
          exact ⟨Qn, _, _, _, _, _, _, _, rfl, a9⟩
    · refine hNo (decide_eq_false c) _ fun er => ?_
      subst er
      walk_at "go"
      exact k ll lv H7 a7.s nll a7.l a7.la S.ll
end
end TW

namespace TW
open PySem L2
/-- one step of a reading -/
local macro_rules | `(tactic| walk_at "st") => `(tactic| first
  | with_reducible refine w_seq ?_ | with_reducible refine w_next ?_ | with_reducible refine w_nx ?_ | with_reducible refine w_rt ?_ | with_reducible refine w_asg ?_ | with_reducible refine w_name ?_
  | with_reducible refine w_op ?_ | with_reducible refine w_un ?_ | with_reducible refine w_var rfl ?_ | with_reducible refine w_c ?_ | with_reducible refine w_ret ?_ | with_reducible refine w_drop ?_
  | with_reducible refine w_if ?_ | with_reducible refine w_test ?_ | with_reducible refine w_tB ?_ | with_reducible refine w_k ?_ | with_reducible refine w_and ?_ | with_reducible refine w_or ?_ | with_reducible refine w_yes ?_
  | with_reducible refine w_nil ?_ | with_reducible refine w_cons ?_ | with_reducible refine w_cb ?_ | with_reducible refine w_call ?_ | with_reducible refine w_I0 ?_ | with_reducible refine w_neg ?_
  | with_reducible refine w_eqI ?_ | with_reducible refine w_neI ?_ | with_reducible refine w_abs ?_ | with_reducible refine w_min2 ?_ | with_reducible refine w_intI ?_ | with_reducible refine w_intB ?_
  | with_reducible refine w_isN0 ?_ | with_reducible refine w_isN1 ?_ | with_reducible refine w_isN2 ?_ | with_reducible refine w_noN0 ?_ | with_reducible refine w_noN1 ?_ | with_reducible refine w_noN2 ?_
  | with_reducible refine w_sub ?_ | with_reducible refine w_for ?_ | with_reducible refine w_lc ?_ | with_reducible refine w_iT ?_ | with_reducible refine w_iL ?_ | with_reducible refine w_iE ?_ | with_reducible refine w_iEl ?_
  | with_reducible refine w_iZ ?_ | with_reducible refine w_iR1 ?_ | with_reducible refine w_iR2 ?_ | with_reducible refine w_gc ?_ | with_reducible refine w_gn ?_ | with_reducible refine w_bm ?_ | with_reducible refine w_sfld ?_ | with_reducible refine w_tfld ?_ | with_reducible refine w_meth ?_ | with_reducible refine w_make ?_ | with_reducible refine w_tup ?_ | with_reducible refine w_lst ?_)
local macro_rules | `(tactic| walk_at "go") => `(tactic| repeat walk_at "st")
local macro_rules | `(tactic| walk_at "nx") => `(tactic| repeat (first | with_reducible refine w_next ?_ | with_reducible refine w_nx ?_ | with_reducible refine w_name ?_ | with_reducible refine w_gc ?_ | with_reducible refine w_gn ?_))

open TL (Rd rat miss gi absI Stp BF go PW Le SS AW VW WW)
section
variable {P : Program} {w : World} {K : PySem.W.Frag} {mg : Str → Option Value} {base : Heap}
/-! ### greatest_flow -/
def spGreatestFlow : Sp := fun vs H Q _ => ∃ (N : Net) (st en : Nat), vs = [.ref N.a, .int (st : Int), .int (en : Int)] ∧ NetAt H N ∧ NOk N ∧ st < N.n ∧ en < N.n ∧ st ≠ en ∧
  ∀ l H', Same H H' → H l = none → H' l = some (.lst ((TL.gflow N.n st en N.rs).map V.int)) → Q (.ref l) H'
theorem ok_greatest_flow (A : All K mg) : FnOk P w K mg base CX0 2 A.a_greatest_flow A.d_greatest_flow ["net", "start", "end"] spGreatestFlow := by
  refine A.F_greatest_flow.ok sc_greatest_flow (fun vs H Q E h => ?_) (fun cdv A' outer s H vs Q E hr h => ?_)
  · obtain ⟨N, st, en, rfl, _⟩ := h
    rfl
  · obtain ⟨N, st, en, rfl, hNt, ok, hst, hen, hne, k⟩ := h
    refine ⟨_, (pss_cons (ps_set (i := 3) sc_greatest_flow.nd rfl (by first | exact Or.inl rfl | exact Or.inr rfl) (pe_op op_rep (pe_lst (pa_cons pe_int pa_nil)) (pe_callB (call_lenA K rfl) (by rfl) A.z_len (by decide +kernel) (pa_cons (pe_ix (ix_A K rfl) (pv 0) pe_int (fun _ _ => rfl)) pa_nil)))) (pss_cons (ps_set (i := 4) sc_greatest_flow.nd rfl (by first | exact Or.inl rfl | exact Or.inr rfl) (pe_call (ok_search A) hr (by rfl) A.g_search A.F_search.kp A.b_search .nil pass0 (pa_cons (pv 0) (pa_cons (pv 3) (pa_cons (pv 1) pa_nil))))) (pss_cons (ps_while PassesOwn.never (pt_cmpR op_notN1 (pe_ix (ix_A K rfl) (pv 4) (pv 2) (fun _ _ => rfl)) pe_non (nomark _)) (pss_cons (ps_set (i := 5) sc_greatest_flow.nd rfl (by first | exact Or.inl rfl | exact Or.inr rfl) (pv 2)) (pss_cons (ps_while PassesOwn.never (pt_cmpR op_ne (pv 5) (pv 1) (nomark _)) (pss_cons (ps_asg (pe_ix (ix_A K rfl) (pv 4) (pv 5) (fun _ _ => rfl)) (pg_tupA K rfl rfl (pgs_cons (pg_name (i := 6) sc_greatest_flow.nd rfl (by first | exact Or.inl rfl | exact Or.inr rfl)) (pgs_cons (pg_name (i := 7) sc_greatest_flow.nd rfl (by first | exact Or.inl rfl | exact Or.inr rfl)) (pgs_cons (pg_name (i := 8) sc_greatest_flow.nd rfl (by first | exact Or.inl rfl | exact Or.inr rfl)) pgs_nil))))) (pss_cons (ps_asg (pe_op op_add (pe_ix (ix_A K rfl) (pv 3) (pv 7) (fun _ _ => rfl)) (pv 8)) (pg_sub (pv 3) (pv 7) set_list)) (pss_one (ps_set (i := 5) sc_greatest_flow.nd rfl (by first | exact Or.inl rfl | exact Or.inr rfl) (pv 6)))))) (pss_one (ps_set (i := 4) sc_greatest_flow.nd rfl (by first | exact Or.inl rfl | exact Or.inr rfl) (pe_call (ok_search A) hr (by rfl) A.g_search A.F_search.kp A.b_search .nil pass0 (pa_cons (pv 0) (pa_cons (pv 3) (pa_cons (pv 1) pa_nil))))))))) (pss_one (ps_ret (pv 3)))))), ?_⟩
    have n4 := ok.n4
    have r9 := ok.r9
    obtain ⟨⟨kk, lp⟩, _, _⟩ := TL.gflow_ok ok.ok hst hen hne
    generalize TL.gflow N.n st en N.rs = r at *
    walk_at "go"
    refine w_newL (sz rfl) fun l0 H1 n1 s1 e1 => ?_
    walk_at "go"
    refine w_ixT (s1 _ _ hNt.a) (atI_nat (j := 2) rfl) ?_
    walk_at "go"
    refine w_lenT (s1 _ _ hNt.t) ?_
    rw [List.length_map, hNt.pl]
    refine w_rep1 (n := N.rs.length) e1 (by omega) fun fl H2 n2 s2 e2 => ?_
    have s02 := s1.trans s2
    have nfl : H fl = none := s1.free n2
    have e2' : H2 fl = some (.lst ((List.replicate N.rs.length (0 : Int)).map V.int)) := by rw [e2, List.map_replicate]
    walk_at "go"
    refine ⟨N, fl, _, st, rfl, hNt.same s02, ok, e2', by simp, hst, fun ll lv H3 s3 nll e3 la3 sl3 => ?_⟩
    walk_at "go"
    refine w_while lp (TL.GI N.n st en N.rs) (fun f σ H' => ∃ x5 x6 x7 x8 ll lv, σ = [some (.ref N.a), some (.int (st : Int)), some (.int (en : Int)), some (.ref fl), some (.ref ll), x5, x6, x7, x8] ∧ Same H H' ∧ H' fl = some (.lst (f.map V.int)) ∧ ll ≠ fl ∧ H' ll = some (.lst lv) ∧ LeAt H' lv (TL.srch N.n st N.rs f) ∧ (TL.srch N.n st N.rs f).length = N.n) (TL.zero_gi N.n en ok.ok)
      ⟨none, none, none, none, ll, lv, rfl, s02.trans s3, s3 _ _ e2', fun z => (by rw [z, e2'] at nll; cases nll), e3, la3, sl3⟩ ?_
    rintro f σ H4 Yes No G ⟨x5, x6, x7, x8, ll, lv, rfl, s4, ef4, nlf, el4, la4, sl4⟩ hYes hNo
    refine t_taken rfl rfl el4 la4 (by omega) ?_
    cases hc : TL.gcond N.n st en N.rs f with
    | false =>
      rw [show (go (TL.srch N.n st N.rs f) en).isSome = false from hc, if_neg Bool.false_ne_true]
      refine hNo hc _ fun er => ?_
      subst er
      walk_at "go"
      exact k fl H4 s4 nfl ef4
    | true =>
      rw [show (go (TL.srch N.n st N.rs f) en).isSome = true from hc, if_pos rfl]
      refine hYes hc _ ?_
      obtain ⟨J, J0, J1, J2, ⟨kk2, r2, lp2, er2⟩, G2, _⟩ := TL.aug_ok ok.ok G hst hen hne hc
      rw [er2] at G2 ⊢
      generalize TL.srch N.n st N.rs f = sl at *
      walk_at "go"
      refine w_while lp2 J (fun p σ H' => ∃ x6 x7 x8, σ = [some (.ref N.a), some (.int (st : Int)), some (.int (en : Int)), some (.ref fl), some (.ref ll), some (.int (p.u : Int)), x6, x7, x8] ∧ Same H H' ∧ H' fl = some (.lst (p.g.map V.int)) ∧ H' ll = some (.lst lv) ∧ LeAt H' lv sl) J0
        ⟨x6, x7, x8, rfl, s4, ef4, el4, la4⟩ ?_
      rintro p σ H5 Yes2 No2 jp ⟨y6, y7, y8, rfl, s5, ef5, el5, la5⟩ hY2 hN2
      obtain ⟨j1, j2⟩ := J1 p jp
      walk_at "go"
      by_cases hu : p.u = st
      · have e : (!decide (((p.u : Nat) : Int) = ((st : Nat) : Int))) = false := by rw [hu]; simp
        rw [e, if_neg Bool.false_ne_true]
        refine hN2 (by unfold TL.acond; simp [hu]) _ fun er => ?_
        subst er
        walk_at "go"
        refine ⟨N, fl, _, st, rfl, hNt.same s5, ok, ef5, j2, hst, fun ll2 lv2 H6 s6 nll6 e6 la6 sl6 => ?_⟩
        walk_at "go"
        exact ⟨G2, _, _, _, _, _, _, rfl, s5.trans s6, s6 _ _ ef5, fun z => (by rw [z, ef5] at nll6; cases nll6), e6, la6, sl6⟩
      · have e : (!decide (((p.u : Nat) : Int) = ((st : Nat) : Int))) = true := by
          rw [decide_eq_false (by omega)]
          rfl
        have hcc : TL.acond st p = true := decide_eq_true hu
        rw [e, if_pos rfl]
        refine hY2 hcc _ ?_
        obtain ⟨⟨e, i, g1, g2, g3⟩, jn⟩ := J2 p jp hcc
        have hlast := la5.r p.u (by omega)
        rw [g1] at hlast
        obtain ⟨q, hq1, hq2⟩ := hlast
        have hat := at_lv (vs := lv) (j := p.u) (by rw [la5.len]; omega)
        rw [hq1] at hat
        have ps : TL.astep sl p = ⟨e.u, p.g.set i (gi p.g i + e.by_)⟩ := by unfold TL.astep; rw [g1]; simp [g2]
        rw [ps] at jn ⊢
        unfold leV at hq2
        rw [g2] at hq2
        walk_at "go"
        refine w_ixL el5 hat ?_
        walk_at "go"
        refine w_gT hq2 rfl ?_
        walk_at "go"
        refine w_ixL ef5 (at_int (by omega)) ?_
        walk_at "go"
        refine w_setL ef5 (by rw [List.length_map]; omega) fun H6 m6 e6 => ?_
        rw [set_ints] at e6
        walk_at "go"
        exact ⟨jn, _, _, _, rfl, same_sm s5 m6 nfl, e6, m6 _ _ (fun hm => nlf (List.mem_singleton.mp hm)) el5, la5.tp (Tp.sm m6 ef5)⟩
/-! ### next_reading -/
def spNext : Sp := fun vs H Q _ => ∃ (N : Net) (fl : Addr) (f : List Int) (u : Nat), vs = [.ref N.a, .ref fl, .int (u : Int)] ∧ NetAt H N ∧ NOk N ∧ H fl = some (.lst (f.map V.int)) ∧ f.length = N.rs.length ∧
  ∀ H', Same H H' → Q (.int (TL.nx N.rs f u)) H'
theorem ok_next_reading (A : All K mg) : FnOk P w K mg base CX0 1 A.a_next_reading A.d_next_reading ["net", "flow", "mark"] spNext := by
  refine A.F_next_reading.ok sc_next_reading (fun vs H Q E h => ?_) (fun cdv A' outer s H vs Q E hr h => ?_)
  · obtain ⟨N, fl, f, u, rfl, _⟩ := h
    rfl
  · obtain ⟨N, fl, f, u, rfl, hNt, ok, efl, lf, k⟩ := h
    refine ⟨_, (pss_cons (ps_for PassesOwn.never rfl (pi_enumT (by rfl) A.z_enumerate (pa_cons (pe_ix (ix_A K rfl) (pv 0) pe_int (fun _ _ => rfl)) pa_nil)) (pg_tupA K rfl rfl (pgs_cons (pg_name (i := 3) sc_next_reading.nd rfl (by first | exact Or.inl rfl | exact Or.inr rfl)) (pgs_cons (pg_name (i := 4) sc_next_reading.nd rfl (by first | exact Or.inl rfl | exact Or.inr rfl)) pgs_nil))) (pss_one (ps_if (PW.pt (pw_or (PW.pt (pw_and (pt_cmpR op_eq (pe_ix (ix_A K rfl) (pv 4) pe_int (fun _ _ => rfl)) (pv 2) (nomark _)) (pw_and1 (pt_cmpR op_eq (pe_ix (ix_A K rfl) (pv 1) (pv 3) (fun _ _ => rfl)) pe_int (nomark _))))) (pw_or1 (PW.pt (pw_and (pt_cmpR op_eq (pe_ix (ix_A K rfl) (pv 4) pe_int (fun _ _ => rfl)) (pv 2) (nomark _)) (pw_and1 (pt_cmpR op_eq (pe_ix (ix_A K rfl) (pv 1) (pv 3) (fun _ _ => rfl)) (pe_un un_neg pe_int) (nomark _)))))))) (pss_one (ps_ret (pv 3))) pss_nil))) (pss_one (ps_ret (pe_un un_neg pe_int)))), ?_⟩
    walk_at "go"
    refine w_ixT hNt.a (atI_nat (j := 2) rfl) ?_
    walk_at "go"
    refine ⟨N.t, _, rfl, SqT.of hNt.t, ?_⟩
    have lpt : (N.ps.map V.ref).length = N.rs.length := by rw [List.length_map, hNt.pl]
    refine fo walk_enumT (fun i σ H' => ∃ x3 x4, σ = [some (.ref N.a), some (.ref fl), some (.int (u : Int)), x3, x4] ∧ Same H H' ∧ TL.nxTo N.rs f u i = -1)
      ⟨none, none, rfl, Same.refl _, rfl⟩ (fun i σ H' _ ⟨_, _, _, s', _⟩ => s'.tup hNt.t) ?_ ?_
    · rintro i x σ H3 H4 hi ⟨y3, y4, rfl, s3, e3⟩ ⟨T, a, v, rfl, nT, rfl, hu, hv⟩
      rw [lpt] at hi
      cases hu
      have s4 : Same H3 (upd H3 T (.tup [.int (i : Nat), v])) := same_new nT
      have s04 := s3.trans s4
      obtain ⟨ev, er⟩ := rat_at (hNt.same s04) hi hv
      subst ev
      refine w_gT upd_same rfl ?_
      generalize upd H3 T (.tup [.int (i : Nat), .ref (N.ps.getD i 0)]) = H5 at *
      walk_at "st"
      walk_at "st"
      walk_at "st"
      walk_at "st"
      walk_at "st"
      refine w_if (t_or2 (b1 := decide ((rat N.rs i).a = u) && decide (gi f i = 1)) (b2 := decide ((rat N.rs i).b = u) && decide (gi f i = -1)) (fun q kq => t_and2 (b1 := decide ((rat N.rs i).a = u)) (b2 := decide (gi f i = 1)) (fun q kq => ?_) (fun q kq => ?_) kq) (fun q kq => t_and2 (b1 := decide ((rat N.rs i).b = u)) (b2 := decide (gi f i = -1)) (fun q kq => ?_) (fun q kq => ?_) kq) ?_)
      · rw [← dI] at kq
        walk_at "go"
        refine w_ixT er (atI_nat (j := 0) rfl) ?_
        walk_at "go"
        exact kq
      · walk_at "go"
        refine w_ixL (s04 _ _ efl) (at_int (by omega)) ?_
        walk_at "go"
        exact kq
      · rw [← dI] at kq
        walk_at "go"
        refine w_ixT er (atI_nat (j := 1) rfl) ?_
        walk_at "go"
        exact kq
      · walk_at "go"
        refine w_ixL (s04 _ _ efl) (at_int (by omega)) ?_
        walk_at "go"
        exact kq
      · by_cases hf : TL.fit N.rs f u i
        · have e : (decide ((rat N.rs i).a = u) && decide (gi f i = 1) || decide ((rat N.rs i).b = u) && decide (gi f i = -1)) = true := by
            unfold TL.fit at hf
            simp only [Bool.or_eq_true, Bool.and_eq_true, decide_eq_true_eq]
            exact hf
          rw [e, if_pos rfl]
          have := k _ s04
          rw [TL.nxTo_at e3 hf hi] at this
          walk_at "go"
          exact this
        · have e : (decide ((rat N.rs i).a = u) && decide (gi f i = 1) || decide ((rat N.rs i).b = u) && decide (gi f i = -1)) = false := by
            cases q : (decide ((rat N.rs i).a = u) && decide (gi f i = 1) || decide ((rat N.rs i).b = u) && decide (gi f i = -1)) with
            | false => rfl
            | true =>
              simp only [Bool.or_eq_true, Bool.and_eq_true, decide_eq_true_eq] at q
              exact absurd q hf
          rw [e, if_neg Bool.false_ne_true]
          walk_at "go"
          exact ⟨_, _, rfl, s04, TL.nxTo_no e3 hf⟩
    · rintro σ H3 ⟨y3, y4, rfl, s3, e3⟩
      rw [lpt] at e3
      have := k _ s3
      rw [show TL.nx N.rs f u = -1 from e3] at this
      walk_at "go"
      exact this
/-! ### ways_of -/
def spWays : Sp := fun vs H Q _ => ∃ (N : Net) (fl : Addr) (f : List Int) (st en : Nat), vs = [.ref N.a, .ref fl, .int (st : Int), .int (en : Int)] ∧ NetAt H N ∧ NOk N ∧ H fl = some (.lst (f.map V.int)) ∧ TL.GI N.n st en N.rs f ∧ st < N.n ∧ en < N.n ∧ st ≠ en ∧
  ∀ p ws H', Same H H' → H' p = some (.tup ws) → ws.length = TL.waysN st en N.rs f → Q (.ref p) H'
theorem ok_ways_of (A : All K mg) : FnOk P w K mg base CX0 2 A.a_ways_of A.d_ways_of ["net", "flow", "start", "end"] spWays := by
  refine A.F_ways_of.ok sc_ways_of (fun vs H Q E h => ?_) (fun cdv A' outer s H vs Q E hr h => ?_)
  · obtain ⟨N, fl, f, st, en, rfl, _⟩ := h
    rfl
  · obtain ⟨N, f0, f, st, en, rfl, hNt, ok, ef0, G, hst, hen, hne, k⟩ := h
    refine ⟨_, (pss_cons (ps_set (i := 1) sc_ways_of.nd rfl (by first | exact Or.inl rfl | exact Or.inr rfl) (pe_callTy (call_listA K rfl) (by rfl) A.z_list (by decide +kernel) (pa_cons (pv 1) pa_nil))) (pss_cons (ps_set (i := 4) sc_ways_of.nd rfl (by first | exact Or.inl rfl | exact Or.inr rfl) (pe_lst pa_nil)) (pss_cons (ps_while PassesOwn.never (pt_cmpR op_ge (pe_call (ok_next_reading A) hr (by rfl) A.g_next_reading A.F_next_reading.kp A.b_next_reading .nil pass0 (pa_cons (pv 0) (pa_cons (pv 1) (pa_cons (pv 2) pa_nil)))) pe_int (nomark _)) (pss_cons (ps_set (i := 5) sc_ways_of.nd rfl (by first | exact Or.inl rfl | exact Or.inr rfl) (pv 2)) (pss_cons (ps_set (i := 6) sc_ways_of.nd rfl (by first | exact Or.inl rfl | exact Or.inr rfl) (pe_lst pa_nil)) (pss_cons (ps_while PassesOwn.never (pt_cmpR op_ne (pv 5) (pv 3) (nomark _)) (pss_cons (ps_set (i := 7) sc_ways_of.nd rfl (by first | exact Or.inl rfl | exact Or.inr rfl) (pe_call (ok_next_reading A) hr (by rfl) A.g_next_reading A.F_next_reading.kp A.b_next_reading .nil pass0 (pa_cons (pv 0) (pa_cons (pv 1) (pa_cons (pv 5) pa_nil))))) (pss_cons (ps_asg (pe_ix (ix_A K rfl) (pe_ix (ix_A K rfl) (pv 0) pe_int (fun _ _ => rfl)) (pv 7) (fun _ _ => rfl)) (pg_tupA K rfl rfl (pgs_cons (pg_name (i := 8) sc_ways_of.nd rfl (by first | exact Or.inl rfl | exact Or.inr rfl)) (pgs_cons (pg_name (i := 9) sc_ways_of.nd rfl (by first | exact Or.inl rfl | exact Or.inr rfl)) (pgs_cons (pg_name (i := 10) sc_ways_of.nd rfl (by first | exact Or.inl rfl | exact Or.inr rfl)) pgs_nil))))) (pss_cons (ps_expr (pe_bm PySem.F.plainAttrs_list PySem.F.slot_list_append PySem.F.type_list_append mt_append (pv 6) (pa_cons (pv 7) pa_nil))) (pss_cons (ps_asg pe_int (pg_sub (pv 1) (pv 7) set_list)) (pss_one (ps_set (i := 5) sc_ways_of.nd rfl (by first | exact Or.inl rfl | exact Or.inr rfl) (pe_op op_sub (pe_op op_add (pv 8) (pv 9)) (pv 5))))))))) (pss_one (ps_expr (pe_bm PySem.F.plainAttrs_list PySem.F.slot_list_append PySem.F.type_list_append mt_append (pv 4) (pa_cons (pe_callTy (call_tupA K rfl) (by rfl) A.z_tuple (by decide +kernel) (pa_cons (pv 6) pa_nil)) pa_nil)))))))) (pss_one (ps_ret (pe_callTy (call_tupA K rfl) (by rfl) A.z_tuple (by decide +kernel) (pa_cons (pv 4) pa_nil))))))), ?_⟩
    have n4 := ok.n4
    have r9 := ok.r9
    obtain ⟨J, J0, J1, J2, ⟨kk, r, lp, er⟩, _⟩ := TL.ways_ok ok.ok G hst hen hne
    rw [← er] at k
    walk_at "go"
    refine ⟨f0, _, rfl, .inl (SqL.of ef0), fun fl nfl => ?_⟩
    have s1 : Same H (upd H fl (.lst (f.map V.int))) := same_new nfl
    have e1 : (upd H fl (.lst (f.map V.int))) fl = some (.lst (f.map V.int)) := upd_same
    generalize upd H fl (.lst (f.map V.int)) = H1 at *
    walk_at "go"
    refine w_newL (sz rfl) fun wl H2 n2 s2 e2 => ?_
    have nwl : H wl = none := s1.free n2
    have nfw : wl ≠ fl := fun z => by rw [z, e1] at n2; cases n2
    walk_at "go"
    refine w_while lp J (fun t σ H' => ∃ x5 x6 x7 x8 x9 x10 ws, σ = [some (.ref N.a), some (.ref fl), some (.int (st : Int)), some (.int (en : Int)), some (.ref wl), x5, x6, x7, x8, x9, x10] ∧ Same H H' ∧ H' fl = some (.lst (t.g.map V.int)) ∧ H' wl = some (.lst ws) ∧ ws.length = t.k) J0
      ⟨none, none, none, none, none, none, [], rfl, s1.trans s2, s2 _ _ e1, e2, rfl⟩ ?_
    rintro t σ H3 Yes No jt ⟨x5, x6, x7, x8, x9, x10, ws, rfl, s3, ef3, ew3, lw3⟩ hYes hNo
    obtain ⟨Gt, kt⟩ := J1 t jt
    walk_at "go"
    refine ⟨N, fl, _, st, rfl, hNt.same s3, ok, ef3, Gt.fb.1, fun H4 s4 => ?_⟩
    walk_at "go"
    refine w_ifd (fun c => ?_) (fun c => ?_)
    · have hc : TL.waycd N.rs st t = true := decide_eq_true c
      refine hYes hc _ ?_
      have jn := J2 t jt hc
      obtain ⟨J', J0', J1', J2', ⟨kk2, r2, lp2, er2⟩, _, _⟩ := TL.way_ok ok.ok Gt hst hen c
      have ew : TL.wayst st en N.rs t = ⟨r2.g, t.k + 1⟩ := by unfold TL.wayst; rw [er2]
      rw [ew] at jn ⊢
      walk_at "go"
      refine w_newL (sz rfl) fun yl H5 n5 s5 e5 => ?_
      have s45 := s4.trans s5
      have ef5 := s45 _ _ ef3
      have ew5 := s45 _ _ ew3
      have nyl : H yl = none := (s3.trans s4).free n5
      have nyf : yl ≠ fl := fun z => by rw [z, s4 _ _ ef3] at n5; cases n5
      have nyw : yl ≠ wl := fun z => by rw [z, s4 _ _ ew3] at n5; cases n5
      walk_at "go"
      refine w_while lp2 J' (fun p σ H' => ∃ x7 x8 x9 x10 ys, σ = [some (.ref N.a), some (.ref fl), some (.int (st : Int)), some (.int (en : Int)), some (.ref wl), some (.int (p.u : Int)), some (.ref yl), x7, x8, x9, x10] ∧ Same H H' ∧ H' fl = some (.lst (p.g.map V.int)) ∧ H' wl = some (.lst ws) ∧ H' yl = some (.lst ys) ∧ ys.length = p.p) J0'
        ⟨_, _, _, _, [], rfl, s3.trans s45, ef5, ew5, e5, rfl⟩ ?_
      rintro p σ H6 Yes2 No2 jp ⟨y7, y8, y9, y10, ys, rfl, s6, ef6, ew6, ey6, ly6⟩ hY2 hN2
      obtain ⟨j1, j2, j3⟩ := J1' p jp
      walk_at "go"
      by_cases hu : p.u = en
      · have e : (!decide (((p.u : Nat) : Int) = ((en : Nat) : Int))) = false := by rw [hu]; simp
        rw [e, if_neg Bool.false_ne_true]
        refine hN2 (by unfold TL.vcond; simp [hu]) _ fun er => ?_
        subst er
        walk_at "go"
        refine ⟨tyL ew6, ?_⟩
        walk_at "go"
        refine w_tupA ey6 fun yp H7 n7 s7 e7 => ?_
        walk_at "go"
        refine w_app (s7 _ _ ew6) (by omega) fun H8 m8 e8 => ?_
        walk_at "go"
        exact ⟨jn, _, _, _, _, _, _, _, rfl, same_sm (s6.trans s7) m8 nwl, m8 _ _ (fun hm => nfw (List.mem_singleton.mp hm).symm) (s7 _ _ ef6), e8, by rw [List.length_append, lw3]; rfl⟩
      · have e : (!decide (((p.u : Nat) : Int) = ((en : Nat) : Int))) = true := by
          rw [decide_eq_false (by omega)]
          rfl
        have hcc : TL.vcond en p = true := decide_eq_true hu
        rw [e, if_pos rfl]
        refine hY2 hcc _ ?_
        obtain ⟨⟨i, g1, g2, g3, g4⟩, jn'⟩ := J2' p jp hcc
        have ps : TL.vstep N.rs p = ⟨(rat N.rs i).a + (rat N.rs i).b - p.u, p.g.set i 0, p.p + 1⟩ := by unfold TL.vstep; rw [g2]; rfl
        rw [ps] at jn' ⊢
        walk_at "go"
        refine ⟨N, fl, _, p.u, rfl, hNt.same s6, ok, ef6, j2, fun H7 s7 => ?_⟩
        rw [g2]
        have hN7 := hNt.same (s6.trans s7)
        walk_at "go"
        refine w_ixT hN7.a (atI_nat (j := 2) rfl) ?_
        walk_at "go"
        refine w_ixT hN7.t (at_ref (by rw [hNt.pl]; exact g1)) ?_
        walk_at "go"
        refine w_gT (hN7.r i g1) rfl ?_
        unfold rdV
        walk_at "go"
        refine ⟨tyL (s7 _ _ ey6), ?_⟩
        walk_at "go"
        refine w_app (s7 _ _ ey6) (by omega) fun H8 m8 e8 => ?_
        have ef8 := m8 fl _ (fun hm => nyf (List.mem_singleton.mp hm).symm) (s7 _ _ ef6)
        have ew8 := m8 wl _ (fun hm => nyw (List.mem_singleton.mp hm).symm) (s7 _ _ ew6)
        walk_at "go"
        refine w_setL ef8 (by rw [List.length_map]; omega) fun H9 m9 e9 => ?_
        rw [set_ints] at e9
        walk_at "go"
        refine ⟨jn', some (.int (i : Int)), some (.int ((rat N.rs i).a : Int)), some (.int ((rat N.rs i).b : Int)), some (.int (rat N.rs i).v), _, ?_, same_sm (same_sm (s6.trans s7) m8 nyl) m9 nfl, e9, m9 _ _ (fun hm => nfw (List.mem_singleton.mp hm)) ew8, m9 _ _ (fun hm => nyf (List.mem_singleton.mp hm)) e8, by rw [List.length_append, ly6]; rfl⟩
        have eu : (((rat N.rs i).a : Int) + ((rat N.rs i).b : Int) - (p.u : Int)) = (((rat N.rs i).a + (rat N.rs i).b - p.u : Nat) : Int) := by
          rcases g3 with q | q <;> omega
        rw [← eu]
        rfl
    · refine hNo (decide_eq_false c) _ fun er => ?_
      subst er
      walk_at "go"
      refine w_tupA (s4 _ _ ew3) fun p H5 n5 s5 e5 => ?_
      walk_at "go"
      exact k p ws H5 ((s3.trans s4).trans s5) e5 lw3
end
end TW

namespace TW
open PySem L2
/-- one step of a reading -/
local macro_rules | `(tactic| walk_at "st") => `(tactic| first
  | with_reducible refine w_seq ?_ | with_reducible refine w_next ?_ | with_reducible refine w_nx ?_ | with_reducible refine w_rt ?_ | with_reducible refine w_asg ?_ | with_reducible refine w_name ?_
  | with_reducible refine w_op ?_ | with_reducible refine w_un ?_ | with_reducible refine w_var rfl ?_ | with_reducible refine w_c ?_ | with_reducible refine w_ret ?_ | with_reducible refine w_drop ?_
  | with_reducible refine w_if ?_ | with_reducible refine w_test ?_ | with_reducible refine w_tB ?_ | with_reducible refine w_k ?_ | with_reducible refine w_and ?_ | with_reducible refine w_or ?_ | with_reducible refine w_yes ?_
  | with_reducible refine w_nil ?_ | with_reducible refine w_cons ?_ | with_reducible refine w_cb ?_ | with_reducible refine w_call ?_ | with_reducible refine w_I0 ?_ | with_reducible refine w_neg ?_
  | with_reducible refine w_eqI ?_ | with_reducible refine w_neI ?_ | with_reducible refine w_abs ?_ | with_reducible refine w_min2 ?_ | with_reducible refine w_intI ?_ | with_reducible refine w_intB ?_
  | with_reducible refine w_isN0 ?_ | with_reducible refine w_isN1 ?_ | with_reducible refine w_isN2 ?_ | with_reducible refine w_noN0 ?_ | with_reducible refine w_noN1 ?_ | with_reducible refine w_noN2 ?_
  | with_reducible refine w_sub ?_ | with_reducible refine w_for ?_ | with_reducible refine w_lc ?_ | with_reducible refine w_iT ?_ | with_reducible refine w_iL ?_ | with_reducible refine w_iE ?_ | with_reducible refine w_iEl ?_
  | with_reducible refine w_iZ ?_ | with_reducible refine w_iR1 ?_ | with_reducible refine w_iR2 ?_ | with_reducible refine w_gc ?_ | with_reducible refine w_gn ?_ | with_reducible refine w_bm ?_ | with_reducible refine w_sfld ?_ | with_reducible refine w_tfld ?_ | with_reducible refine w_meth ?_ | with_reducible refine w_make ?_ | with_reducible refine w_tup ?_ | with_reducible refine w_lst ?_)
local macro_rules | `(tactic| walk_at "go") => `(tactic| repeat walk_at "st")
local macro_rules | `(tactic| walk_at "nx") => `(tactic| repeat (first | with_reducible refine w_next ?_ | with_reducible refine w_nx ?_ | with_reducible refine w_name ?_ | with_reducible refine w_gc ?_ | with_reducible refine w_gn ?_))

open TL (Rd rat miss gi absI Stp BF go PW Le SS AW VW WW)
section
variable {P : Program} {w : World} {K : PySem.W.Frag} {mg : Str → Option Value} {base : Heap}
theorem flat_nV (l : List Nat) : (nqV l).all flatV = true := by
  unfold nqV
  rw [List.all_map, List.all_eq_true]
  intro x _
  rfl
/-! ### side_of -/
def spSide : Sp := fun vs H Q _ => ∃ (N : Net) (fl : Addr) (f : List Int) (st : Nat), vs = [.ref N.a, .ref fl, .int (st : Int)] ∧ NetAt H N ∧ NOk N ∧ H fl = some (.lst (f.map V.int)) ∧ f.length = N.rs.length ∧ st < N.n ∧
  ∀ p xs H', Same H H' → H' p = some (.tup xs) → Q (.ref p) H'
theorem ok_side_of (A : All K mg) : FnOk P w K mg base CX0 2 A.a_side_of A.d_side_of ["net", "flow", "start"] spSide := by
  refine A.F_side_of.ok sc_side_of (fun vs H Q E h => ?_) (fun cdv A' outer s H vs Q E hr h => ?_)
  · obtain ⟨N, fl, f, st, rfl, _⟩ := h
    rfl
  · obtain ⟨N, fl, f, st, rfl, hNt, ok, ef, lf, hst, k⟩ := h
    refine ⟨_, (pss_cons (ps_set (i := 3) sc_side_of.nd rfl (by first | exact Or.inl rfl | exact Or.inr rfl) (pe_call (ok_search A) hr (by rfl) A.g_search A.F_search.kp A.b_search .nil pass0 (pa_cons (pv 0) (pa_cons (pv 1) (pa_cons (pv 2) pa_nil))))) (pss_cons (ps_setLc (i := 4) (hc := rfl) (hN := sc_side_of.nd) (hy := rfl) (hyl := rfl) (hsw := sw_true rfl rfl rfl (by decide +kernel)) (own := [("mark", 5)]) (g := (gName 5)) (tt := _) (pi_range1 rfl A.z_range (pa_cons (pe_callB (call_lenA K rfl) (by rfl) A.z_len (by decide +kernel) (pa_cons (pe_ix (ix_A K rfl) (pv 0) pe_int (fun _ _ => rfl)) pa_nil)) pa_nil)) (blkOk_by (own := [("mark", 5)]) (N := ["net", "flow", "start", "last", "there", "mark"]) (sc := defScope s_side_of) (by decide +kernel)) (fun _ _ _ _ _ => (pg_name (i := 5) sc_side_of.nd rfl (by first | exact Or.inl rfl | exact Or.inr rfl))) (fun _ _ _ _ _ => pts_one (pt_cmpR op_notN1 (pe_ix (ix_A K rfl) (pv 3) (pv 5) (fun _ _ => rfl)) pe_non (nomark _))) (fun _ _ _ _ _ => (pv 5))) (pss_cons (ps_if (pt_cmpR (op_inA K rfl) pe_int (pv 4) rfl) (pss_one (ps_setLc (i := 4) (hc := rfl) (hN := sc_side_of.nd) (hy := rfl) (hyl := rfl) (hsw := sw_true rfl rfl rfl (by decide +kernel)) (own := [("mark", 5)]) (g := (gName 5)) (tt := _) (pi_range1 rfl A.z_range (pa_cons (pe_callB (call_lenA K rfl) (by rfl) A.z_len (by decide +kernel) (pa_cons (pe_ix (ix_A K rfl) (pv 0) pe_int (fun _ _ => rfl)) pa_nil)) pa_nil)) (blkOk_by (own := [("mark", 5)]) (N := ["net", "flow", "start", "last", "there", "mark"]) (sc := defScope s_side_of) (by decide +kernel)) (fun _ _ _ _ _ => (pg_name (i := 5) sc_side_of.nd rfl (by first | exact Or.inl rfl | exact Or.inr rfl))) (fun _ _ _ _ _ => pts_one (pt_cmpR op_isN1 (pe_ix (ix_A K rfl) (pv 3) (pv 5) (fun _ _ => rfl)) pe_non (nomark _))) (fun _ _ _ _ _ => (pv 5)))) pss_nil) (pss_one (ps_ret (pe_callTy (call_tupA K rfl) (by rfl) A.z_tuple (by decide +kernel) (pa_cons (pv 4) pa_nil))))))), ?_⟩
    have n4 := ok.n4
    walk_at "go"
    refine ⟨N, fl, f, st, rfl, hNt, ok, ef, lf, hst, fun ll lv H1 s1 nll e1 la1 sl1 => ?_⟩
    generalize TL.srch N.n st N.rs f = sl at *
    walk_at "go"
    have hN1 := hNt.same s1
    refine w_ixT hN1.a (atI_nat (j := 1) rfl) ?_
    walk_at "go"
    refine w_lenT hN1.m ?_
    rw [List.length_map]
    walk_at "go"
    refine ⟨(N.n : Int), rfl, by omega, by omega, fun L nL => ?_⟩
    rw [Int.toNat_natCast]
    refine lc walk_r0 (by omega) nL (fun i acc H' => ∃ q, acc = nqV q) (fun _ _ _ => ⟨[], rfl⟩) (fun _ _ _ _ _ => trivial) ?_ ?_
    · rintro i acc x H2 H3 F No hi s2 eL ⟨q, rfl⟩ ⟨rfl, rfl⟩ hF hNo
      walk_at "go"
      refine ⟨rfl, ?_⟩
      walk_at "st"
      refine t_taken rfl rfl (s2 _ _ e1) (la1.tp (Tp.of s2)) (by omega) ?_
      cases (go sl i).isSome with
      | true =>
        rw [if_pos rfl]
        walk_at "go"
        refine hF _ _ (Same.refl _) fun H5 m5 t5 s5 e5 => ⟨q ++ [i], by unfold nqV; rw [List.map_append]; rfl⟩
      | false =>
        rw [if_neg Bool.false_ne_true]
        exact hNo _ (Same.refl _) ⟨q, rfl⟩
    · rintro acc H2 s2 eL _ ⟨q, rfl⟩
      walk_at "go"
      refine ⟨L, _, rfl, .inl (SqL.of eL), rfl, flat_nV q, ?_⟩
      walk_at "go"
      have fin : ∀ L' xs' H3 (σ : L2.St), σ[4]? = some (some (.ref L')) → Same H2 H3 → H3 L' = some (.lst xs') → tRet (tCB (rTupA K) (tCons (tVar 4) tNil)) { nx := fun x H' => Q V.non H', rt := Q } σ H3 := fun L' xs' H3 σ h4 s3 e3 => by
        refine w_ret (w_cb (w_cons (w_var h4 (w_nil ?_))))
        refine w_tupA e3 fun p H4 n4 s4 e4 => ?_
        exact k p _ H4 ((s1.trans s2).trans (s3.trans s4)) e4
      cases (if false = true then !inV (V.int 0) (nqV q) else inV (V.int 0) (nqV q)) with
      | false =>
        rw [if_neg Bool.false_ne_true]
        exact fin L _ H2 _ rfl (Same.refl _) eL
      | true =>
        rw [if_pos rfl]
        walk_at "go"
        have hN2 := hNt.same (s1.trans s2)
        refine w_ixT hN2.a (atI_nat (j := 1) rfl) ?_
        walk_at "go"
        refine w_lenT hN2.m ?_
        rw [List.length_map]
        walk_at "go"
        refine ⟨(N.n : Int), rfl, by omega, by omega, fun L' nL' => ?_⟩
        rw [Int.toNat_natCast]
        refine lc walk_r0 (by omega) nL' (fun i acc H' => True) (fun _ _ _ => trivial) (fun _ _ _ _ _ => trivial) ?_ ?_
        · rintro i acc x H3 H4 F No hi s3 eL' _ ⟨rfl, rfl⟩ hF hNo
          walk_at "go"
          refine ⟨rfl, ?_⟩
          walk_at "st"
          have s13 := s2.trans s3
          have la3 := la1.tp (Tp.of s13)
          have ha := at_lv (vs := lv) (j := i) (by rw [la1.len]; omega)
          have r := la3.r i (by omega)
          refine w_op (w_op (w_var rfl (w_var rfl (w_ixL (s13 _ _ e1) ha (w_c ?_)))))
          cases hd : go sl i with
          | none =>
            rw [hd] at r
            rw [show lv.getD i .non = .non from r]
            refine w_isN0 (w_k ?_)
            rw [if_pos rfl]
            walk_at "go"
            exact hF _ _ (Same.refl _) fun H5 m5 t5 s5 e5 => trivial
          | some e =>
            rw [hd] at r
            obtain ⟨p, r, _⟩ := r
            rw [r]
            refine w_isN2 (w_k ?_)
            rw [if_neg Bool.false_ne_true]
            exact hNo _ (Same.refl _) trivial
        · rintro acc' H3 s3 eL' _ _
          walk_at "st"
          exact fin L' _ H3 _ rfl s3 eL'
/-! ### least_cut -/
def spLeast : Sp := fun vs H Q _ => ∃ (N : Net) (st en : Nat), vs = [.ref N.a, .int (st : Int), .int (en : Int)] ∧ NetAt H N ∧ NOk N ∧ st = 0 ∧ en < N.n ∧ st ≠ en ∧
  ∀ p sp wp ws H', Same H H' → H' p = some (.tup [.ref sp, .ref wp]) → H' wp = some (.tup ws) → ws.length = TL.kOf N.n N.rs en → Q (.ref p) H'
theorem ok_least_cut (A : All K mg) : FnOk P w K mg base CX0 3 A.a_least_cut A.d_least_cut ["net", "one", "other"] spLeast := by
  refine A.F_least_cut.ok sc_least_cut (fun vs H Q E h => ?_) (fun cdv A' outer s H vs Q E hr h => ?_)
  · obtain ⟨N, st, en, rfl, _⟩ := h
    rfl
  · obtain ⟨N, st, en, rfl, hNt, ok, rfl, hen, hne, k⟩ := h
    refine ⟨_, (pss_cons (ps_set (i := 3) sc_least_cut.nd rfl (by first | exact Or.inl rfl | exact Or.inr rfl) (pe_call (ok_greatest_flow A) hr (by rfl) A.g_greatest_flow A.F_greatest_flow.kp A.b_greatest_flow .nil pass0 (pa_cons (pv 0) (pa_cons (pv 1) (pa_cons (pv 2) pa_nil))))) (pss_one (ps_ret (pe_tup (pa_cons (pe_call (ok_side_of A) hr (by rfl) A.g_side_of A.F_side_of.kp A.b_side_of .nil pass0 (pa_cons (pv 0) (pa_cons (pv 3) (pa_cons (pv 1) pa_nil)))) (pa_cons (pe_call (ok_ways_of A) hr (by rfl) A.g_ways_of A.F_ways_of.kp A.b_ways_of .nil pass0 (pa_cons (pv 0) (pa_cons (pv 3) (pa_cons (pv 1) (pa_cons (pv 2) pa_nil))))) pa_nil)))))), ?_⟩
    have n1 := ok.n1
    obtain ⟨_, G, _⟩ := TL.gflow_ok (st := 0) ok.ok (by omega) hen hne
    unfold TL.kOf at k
    walk_at "go"
    refine ⟨N, 0, en, rfl, hNt, ok, by omega, hen, hne, fun fl H1 s1 nfl e1 => ?_⟩
    generalize TL.gflow N.n 0 en N.rs = f at *
    walk_at "go"
    refine ⟨N, fl, f, 0, rfl, hNt.same s1, ok, e1, G.fb.1, by omega, fun sp xs H2 s2 e2 => ?_⟩
    walk_at "go"
    refine ⟨N, fl, f, 0, en, rfl, hNt.same (s1.trans s2), ok, s2 _ _ e1, G, by omega, hen, hne, fun wp ws H3 s3 e3 l3 => ?_⟩
    walk_at "go"
    refine w_newT (sz rfl) fun p H4 n4 s4 e4 => ?_
    walk_at "go"
    exact k p sp wp ws H4 ((s1.trans s2).trans (s3.trans s4)) e4 (s4 _ _ e3) l3
/-! ### strength_paper -/
theorem w_sl {r : V → Option Int → Option Int → Hp → VK → Prop} {te : TE} {tl th : TO} {σ : L2.St} {H : Hp} {Q : VK} (h : te σ H fun x H1 => tl σ H1 fun l H2 => th σ H2 fun u H3 => r x l u H3 Q) : tSl r te tl th σ H Q := h
theorem w_np {σ : L2.St} {H : Hp} {q : Option Int → Hp → Prop} (h : q none H) : tNoPart σ H q := h
def rIs (x : V) (H : Hp) (q : Option Int → Hp → Prop) : Prop := ∃ i, x = .int i ∧ q (some i) H
theorem w_pt {t : TE} {σ : L2.St} {H : Hp} {q : Option Int → Hp → Prop} (h : t σ H fun x H1 => rIs x H1 q) : tPart t σ H q := h
theorem w_isI {i : Int} {H : Hp} {q : Option Int → Hp → Prop} (h : q (some i) H) : rIs (.int i) H q := ⟨i, rfl, h⟩
structure CutsAt (n : Nat) (rs : List Rd) (H : Hp) (cs : List Addr) : Prop where
  r : ∀ i, i < cs.length → ∃ sp wp ws, H (cs.getD i 0) = some (.tup [.ref sp, .ref wp]) ∧ H wp = some (.tup ws) ∧ ws.length = TL.kOf n rs (i + 1)
theorem CutsAt.tp {n : Nat} {rs : List Rd} {H H' : Hp} {cs : List Addr} (a : CutsAt n rs H cs) (t : Tp H H') : CutsAt n rs H' cs := ⟨fun i hi => by
  obtain ⟨sp, wp, ws, h1, h2, h3⟩ := a.r i hi
  exact ⟨sp, wp, ws, t _ _ h1, t _ _ h2, h3⟩⟩
theorem CutsAt.snoc {n : Nat} {rs : List Rd} {H : Hp} {cs : List Addr} {p sp wp : Addr} {ws : List V} (a : CutsAt n rs H cs) (h1 : H p = some (.tup [.ref sp, .ref wp])) (h2 : H wp = some (.tup ws)) (h3 : ws.length = TL.kOf n rs (cs.length + 1)) : CutsAt n rs H (cs ++ [p]) := ⟨fun i hi => by
  rw [List.length_append, List.length_singleton] at hi
  by_cases c : i < cs.length
  · rw [List.getD_eq_getElem?_getD, List.getElem?_append_left c, ← List.getD_eq_getElem?_getD]
    exact a.r i c
  · have e : i = cs.length := by omega
    subst e
    rw [List.getD_eq_getElem?_getD, List.getElem?_append_right (Nat.le_refl _), Nat.sub_self]
    exact ⟨sp, wp, ws, h1, h2, h3⟩⟩
noncomputable def strV (N : Net) : Int := if N.n = 1 then -1 else TL.strN N.n N.rs
def spStrP : Sp := fun vs H Q _ => ∃ N : Net, vs = [.ref N.a] ∧ NetAt H N ∧ NOk N ∧ ∀ p x y H', Same H H' → H' p = some (.tup [.str "strength", .int (strV N), x, y]) → Q (.ref p) H'
theorem ok_strength_paper (A : All K mg) : FnOk P w K mg base CX0 4 A.a_strength_paper A.d_strength_paper ["net"] spStrP := by
  refine A.F_strength_paper.ok sc_strength_paper (fun vs H Q E h => ?_) (fun cdv A' outer s H vs Q E hr h => ?_)
  · obtain ⟨N, rfl, _⟩ := h
    rfl
  · obtain ⟨N, rfl, hNt, ok, k⟩ := h
    refine ⟨_, (pss_cons (ps_if (pt_cmpR op_eq (pe_callB (call_lenA K rfl) (by rfl) A.z_len (by decide +kernel) (pa_cons (pe_ix (ix_A K rfl) (pv 0) pe_int (fun _ _ => rfl)) pa_nil)) pe_int (nomark _)) (pss_one (ps_ret (pe_tup (pa_cons pe_str (pa_cons (pe_un un_neg pe_int) (pa_cons (pe_tup pa_nil) (pa_cons (pe_tup pa_nil) pa_nil))))))) pss_nil) (pss_cons (ps_setLc (i := 1) (hc := rfl) (hN := sc_strength_paper.nd) (hy := rfl) (hyl := rfl) (hsw := sw_true rfl rfl rfl (by decide +kernel)) (own := [("mark", 4)]) (g := (gName 4)) (tt := tYes) (pi_range2 rfl A.z_range (pa_cons pe_int (pa_cons (pe_callB (call_lenA K rfl) (by rfl) A.z_len (by decide +kernel) (pa_cons (pe_ix (ix_A K rfl) (pv 0) pe_int (fun _ _ => rfl)) pa_nil)) pa_nil))) (blkOk_by (own := [("mark", 4)]) (N := ["net", "cuts", "least", "place", "mark", "cut"]) (sc := defScope s_strength_paper) (by decide +kernel)) (fun _ _ _ _ _ => (pg_name (i := 4) sc_strength_paper.nd rfl (by first | exact Or.inl rfl | exact Or.inr rfl))) (fun _ _ _ _ _ => pts_nil) (fun _ _ _ _ _ => (pe_call (ok_least_cut A) hr (by rfl) A.g_least_cut A.F_least_cut.kp A.b_least_cut .nil pass0 (pa_cons (pv 0) (pa_cons pe_int (pa_cons (pv 4) pa_nil)))))) (pss_cons (ps_asg (pe_callB (cr_minT rfl hr.units2) (by rfl) A.z_min (by decide +kernel) (pa_cons (pe_lc (own := [("place", 3), ("cut", 5)]) (g := (gTup K 2 (gCons (gName 3) (gCons (gName 5) gNil)))) (tt := tYes) rfl sc_strength_paper.nd (pi_enum (by rfl) A.z_enumerate (pa_cons (pv 1) pa_nil)) (blkOk_by (own := [("place", 3), ("cut", 5)]) (N := ["net", "cuts", "least", "place", "mark", "cut"]) (sc := defScope s_strength_paper) (by decide +kernel)) (fun _ _ _ _ _ => (pg_tupA K rfl rfl (pgs_cons (pg_name (i := 3) sc_strength_paper.nd rfl (by first | exact Or.inl rfl | exact Or.inr rfl)) (pgs_cons (pg_name (i := 5) sc_strength_paper.nd rfl (by first | exact Or.inl rfl | exact Or.inr rfl)) pgs_nil)))) (fun _ _ _ _ _ => pts_nil) (fun _ _ _ _ _ => (pe_tup (pa_cons (pe_callB (call_lenA K rfl) (by rfl) A.z_len (by decide +kernel) (pa_cons (pe_ix (ix_A K rfl) (pv 5) pe_int (fun _ _ => rfl)) pa_nil)) (pa_cons (pv 3) pa_nil))))) pa_nil)) (pg_tupA K rfl rfl (pgs_cons (pg_name (i := 2) sc_strength_paper.nd rfl (by first | exact Or.inl rfl | exact Or.inr rfl)) (pgs_cons (pg_name (i := 3) sc_strength_paper.nd rfl (by first | exact Or.inl rfl | exact Or.inr rfl)) pgs_nil)))) (pss_one (ps_ret (pe_tup (pa_cons pe_str (pa_cons (pv 2) (pa_cons (pe_ix (ix_A K rfl) (pe_ix (ix_A K rfl) (pv 1) (pv 3) (fun _ _ => rfl)) pe_int (fun _ _ => rfl)) (pa_cons (pe_callTy (call_tupA K rfl) (by rfl) A.z_tuple (by decide +kernel) (pa_cons (pe_lc (own := [("cut", 5)]) (g := (gName 5)) (tt := tYes) rfl sc_strength_paper.nd (pi_list (pv 1)) (blkOk_by (own := [("cut", 5)]) (N := ["net", "cuts", "least", "place", "mark", "cut"]) (sc := defScope s_strength_paper) (by decide +kernel)) (fun _ _ _ _ _ => (pg_name (i := 5) sc_strength_paper.nd rfl (by first | exact Or.inl rfl | exact Or.inr rfl))) (fun _ _ _ _ _ => pts_nil) (fun _ _ _ _ _ => (pe_slice (sl_tupA1 K rfl) (pe_ix (ix_A K rfl) (pv 5) pe_int (fun _ _ => rfl)) po_none (po_some (pv 2))))) pa_nil)) pa_nil)))))))))), ?_⟩
    have n1 := ok.n1
    have n4 := ok.n4
    walk_at "go"
    refine w_ixT hNt.a (atI_nat (j := 1) rfl) ?_
    walk_at "go"
    refine w_lenT hNt.m ?_
    rw [List.length_map]
    walk_at "go"
    refine w_ifd (fun c => ?_) (fun c => ?_)
    · have c1 : N.n = 1 := by show N.nm.length = 1; omega
      have es : strV N = -1 := if_pos c1
      rw [es] at k
      walk_at "go"
      refine w_newT (sz rfl) fun p1 H1 n1 s1 e1 => ?_
      walk_at "go"
      refine w_newT (sz rfl) fun p2 H2 n2 s2 e2 => ?_
      walk_at "go"
      refine w_newT (sz rfl) fun p H3 n3 s3 e3 => ?_
      walk_at "go"
      exact k p _ _ H3 ((s1.trans s2).trans s3) e3
    · have c1 : ¬ N.n = 1 := by show ¬ N.nm.length = 1; omega
      have es : strV N = TL.strN N.n N.rs := if_neg c1
      rw [es] at k
      walk_at "go"
      refine w_ixT hNt.a (atI_nat (j := 1) rfl) ?_
      walk_at "go"
      refine w_lenT hNt.m ?_
      rw [List.length_map]
      walk_at "go"
      refine ⟨((1 : Nat) : Int), ((N.n : Nat) : Int), rfl, by omega, fun L nL => ?_⟩
      rw [show ((N.n : Int) - ((1 : Nat) : Int)).toNat = N.n - 1 by omega]
      refine lc walk_r1 (by omega) nL (fun i acc H' => ∃ cs : List Addr, acc = cs.map V.ref ∧ cs.length = i ∧ CutsAt N.n N.rs H' cs) (fun _ _ _ => ⟨[], rfl, rfl, ⟨fun i hi => absurd hi (Nat.not_lt_zero i)⟩⟩) (fun _ _ _ _ _ => trivial) ?_ ?_
      · rintro i acc x H2 H3 F No hi s2 eL ⟨cs, rfl, lc2, ca⟩ ⟨rfl, rfl⟩ hF _
        walk_at "go"
        refine ⟨rfl, ?_⟩
        walk_at "go"
        rw [if_pos rfl]
        walk_at "go"
        refine ⟨N, 0, 1 + i, rfl, hNt.same s2, ok, rfl, by omega, by omega, fun p sp wp ws H4 s4 e4 e5 l5 => ?_⟩
        refine hF _ _ s4 fun H6 m6 t6 s6 e6 => ⟨cs ++ [p], refs_snoc, by rw [List.length_append, lc2]; rfl, ?_⟩
        exact ((ca.tp (Tp.of s4)).tp t6).snoc (t6 _ _ e4) (t6 _ _ e5) (by rw [l5, lc2, Nat.add_comm])
      · rintro acc H2 s2 eL _ ⟨cs, rfl, lcs, ca⟩
        have hN2 := hNt.same s2
        have kl := TL.ks_len N.n N.rs
        have kat : ∀ i, i < N.n - 1 → (TL.ksOf N.n N.rs)[i]? = some ((TL.kOf N.n N.rs (i + 1) : Int), i) := fun i hi => by
          unfold TL.ksOf
          rw [List.getElem?_map, List.getElem?_range hi]
          rfl
        walk_at "go"
        refine ⟨L, _, rfl, SqL.of eL, fun L2 nL2 => ?_⟩
        have lcm : (cs.map V.ref).length = N.n - 1 := by rw [List.length_map, lcs]
        refine lc walk_enum (by omega) nL2 (fun i acc H' => ∃ ps : List Addr, acc = ps.map V.ref ∧ EndsAt H' ps ((TL.ksOf N.n N.rs).take i)) (fun _ _ _ => ⟨[], rfl, EndsAt.nil⟩) (fun i acc H' s' _ => s'.lst eL) ?_ ?_
        · rintro i acc x H3 H4 F No hi s3 eL2 ⟨ps, rfl, ea⟩ ⟨T, a, v, rfl, nT, rfl, hu, hv⟩ hF _
          rw [lcm] at hi
          cases hu
          have s4 : Same H3 (upd H3 T (.tup [.int (i : Nat), v])) := same_new nT
          have ev : v = .ref (cs.getD i 0) := by
            have hv : (cs.map V.ref)[i]? = some v := hv
            rw [List.getElem?_map, List.getElem?_eq_getElem (by omega)] at hv
            rw [List.getD_eq_getElem?_getD, List.getElem?_eq_getElem (by omega)]
            exact (Option.some.inj hv).symm
          subst ev
          refine w_gT upd_same rfl ?_
          generalize upd H3 T (.tup [.int (i : Nat), .ref (cs.getD i 0)]) = H5 at *
          obtain ⟨sp, wp, ws, q1, q2, q3⟩ := (ca.tp (Tp.of (s3.trans s4))).r i (by omega)
          walk_at "go"
          refine ⟨rfl, ?_⟩
          walk_at "go"
          rw [if_pos rfl]
          walk_at "go"
          refine w_ixT q1 (atI_nat (j := 1) rfl) ?_
          walk_at "go"
          refine w_lenT q2 ?_
          walk_at "go"
          refine w_newT (sz rfl) fun p H6 n6 s6 e6 => ?_
          rw [q3] at e6
          refine hF _ _ (s4.trans s6) fun H7 m7 t7 s7 e7 => ⟨ps ++ [p], refs_snoc, ?_⟩
          rw [List.take_add_one, kat i hi]
          exact (ea.tp ((Tp.of (s4.trans s6)).trans t7)).snoc (t7 _ _ e6)
        · rintro acc H3 s3 eL2 _ ⟨ps, rfl, ea⟩
          rw [lcm, ← kl, take_all] at ea
          have kne : TL.ksOf N.n N.rs ≠ [] := fun z => by rw [z] at kl; simp at kl; omega
          walk_at "go"
          refine min_ends eL2 ea kne fun mp emp => ?_
          have mm := (TL.minE_ok kne).1
          have e1 : (TL.minE (TL.ksOf N.n N.rs)).1 = TL.strN N.n N.rs := rfl
          rw [e1] at emp
          obtain ⟨j, hj, ej⟩ := List.mem_map.mp (show TL.minE (TL.ksOf N.n N.rs) ∈ (List.range (N.n - 1)).map fun p => ((TL.kOf N.n N.rs (p + 1) : Int), p) from mm)
          have hj' := List.mem_range.mp hj
          have e2 : (TL.minE (TL.ksOf N.n N.rs)).2 = j := by rw [← ej]
          have e3 : TL.strN N.n N.rs = (TL.kOf N.n N.rs (j + 1) : Int) := by rw [← e1, ← ej]
          rw [e2] at emp
          refine w_gT emp rfl ?_
          walk_at "go"
          have ca3 := ca.tp (Tp.of s3)
          obtain ⟨sp, wp, ws, q1, q2, q3⟩ := ca3.r j (by omega)
          refine w_ixL (s3 _ _ eL) (at_ref (by omega)) ?_
          walk_at "go"
          refine w_ixT q1 (atI_nat (j := 0) rfl) ?_
          walk_at "go"
          refine ⟨L, rfl, ⟨_, SqL.of (s3 _ _ eL)⟩, fun L3 nL3 => ?_⟩
          refine lc walk_list (by omega) nL3 (fun i acc H' => True) (fun _ _ _ => trivial) (fun i acc H' s' _ => (s3.trans s').lst eL) ?_ ?_
          · rintro i acc x H4 H5 F No hi s4 eL3 _ ⟨rfl, hx⟩ hF _
            rw [lcm] at hi
            have ev : x = .ref (cs.getD i 0) := by
              have hx : (cs.map V.ref)[i]? = some x := hx
              rw [List.getElem?_map, List.getElem?_eq_getElem (by omega)] at hx
              rw [List.getD_eq_getElem?_getD, List.getElem?_eq_getElem (by omega)]
              exact (Option.some.inj hx).symm
            subst ev
            obtain ⟨sp', wp', ws', q1', q2', q3'⟩ := (ca3.tp (Tp.of s4)).r i (by omega)
            walk_at "go"
            refine ⟨rfl, ?_⟩
            walk_at "go"
            rw [if_pos rfl]
            refine w_sl ?_
            walk_at "go"
            refine w_ixT q1' (atI_nat (j := 1) rfl) ?_
            refine w_np ?_
            refine w_pt (w_var rfl (w_isI ?_))
            refine ⟨wp', ws', rfl, SqT.of q2', fun _ => ?_, fun _ p np => ?_⟩
            · exact hF _ _ (Same.refl _) fun H6 _ _ _ _ => trivial
            · exact hF _ _ (same_new np) fun H6 _ _ _ _ => trivial
          · rintro acc H4 s4 eL3 _ _
            walk_at "go"
            refine w_tupA eL3 fun tp H5 n5 s5 e5 => ?_
            walk_at "go"
            refine w_newT (sz rfl) fun p H6 n6 s6 e6 => ?_
            walk_at "go"
            exact k p _ _ H6 ((s2.trans s3).trans ((s4.trans s5).trans s6)) e6
end
end TW

namespace TW
open PySem L2
/-- one step of a reading -/
local macro_rules | `(tactic| walk_at "st") => `(tactic| first
  | with_reducible refine w_seq ?_ | with_reducible refine w_next ?_ | with_reducible refine w_nx ?_ | with_reducible refine w_rt ?_ | with_reducible refine w_asg ?_ | with_reducible refine w_name ?_
  | with_reducible refine w_op ?_ | with_reducible refine w_un ?_ | with_reducible refine w_var rfl ?_ | with_reducible refine w_c ?_ | with_reducible refine w_ret ?_ | with_reducible refine w_drop ?_
  | with_reducible refine w_if ?_ | with_reducible refine w_test ?_ | with_reducible refine w_tB ?_ | with_reducible refine w_k ?_ | with_reducible refine w_and ?_ | with_reducible refine w_or ?_ | with_reducible refine w_yes ?_
  | with_reducible refine w_nil ?_ | with_reducible refine w_cons ?_ | with_reducible refine w_cb ?_ | with_reducible refine w_call ?_ | with_reducible refine w_I0 ?_ | with_reducible refine w_neg ?_
  | with_reducible refine w_eqI ?_ | with_reducible refine w_neI ?_ | with_reducible refine w_abs ?_ | with_reducible refine w_min2 ?_ | with_reducible refine w_intI ?_ | with_reducible refine w_intB ?_
  | with_reducible refine w_isN0 ?_ | with_reducible refine w_isN1 ?_ | with_reducible refine w_isN2 ?_ | with_reducible refine w_noN0 ?_ | with_reducible refine w_noN1 ?_ | with_reducible refine w_noN2 ?_
  | with_reducible refine w_sub ?_ | with_reducible refine w_for ?_ | with_reducible refine w_lc ?_ | with_reducible refine w_iT ?_ | with_reducible refine w_iL ?_ | with_reducible refine w_iE ?_ | with_reducible refine w_iEl ?_
  | with_reducible refine w_iZ ?_ | with_reducible refine w_iR1 ?_ | with_reducible refine w_iR2 ?_ | with_reducible refine w_gc ?_ | with_reducible refine w_gn ?_ | with_reducible refine w_bm ?_ | with_reducible refine w_sfld ?_ | with_reducible refine w_tfld ?_ | with_reducible refine w_meth ?_ | with_reducible refine w_make ?_ | with_reducible refine w_tup ?_ | with_reducible refine w_lst ?_)
local macro_rules | `(tactic| walk_at "go") => `(tactic| repeat walk_at "st")
local macro_rules | `(tactic| walk_at "nx") => `(tactic| repeat (first | with_reducible refine w_next ?_ | with_reducible refine w_nx ?_ | with_reducible refine w_name ?_ | with_reducible refine w_gc ?_ | with_reducible refine w_gn ?_))

open TL (Rd rat miss gi absI Stp BF go PW Le SS AW VW WW)
section
variable {P : Program} {w : World} {K : PySem.W.Frag} {mg : Str → Option Value} {base : Heap}
/-! ### strength, most_lies -/
def spStrength : Sp := fun vs H Q _ => ∃ N : Net, vs = [.ref N.a] ∧ NetAt H N ∧ NOk N ∧ ∀ H', Same H H' → Q (.int (strV N)) H'
theorem ok_strength (A : All K mg) : FnOk P w K mg base CX0 5 A.a_strength A.d_strength ["net"] spStrength := by
  refine A.F_strength.ok sc_strength (fun vs H Q E h => ?_) (fun cdv A' outer s H vs Q E hr h => ?_)
  · obtain ⟨N, rfl, _⟩ := h
    rfl
  · obtain ⟨N, rfl, hNt, ok, k⟩ := h
    refine ⟨_, (pss_one (ps_ret (pe_ix (ix_A K rfl) (pe_call (ok_strength_paper A) hr (by rfl) A.g_strength_paper A.F_strength_paper.kp A.b_strength_paper .nil pass0 (pa_cons (pv 0) pa_nil)) pe_int (fun _ _ => rfl)))), ?_⟩
    walk_at "go"
    refine ⟨N, rfl, hNt, ok, fun p x y H1 s1 e1 => ?_⟩
    walk_at "go"
    refine w_ixT e1 (atI_nat (j := 1) rfl) ?_
    walk_at "go"
    exact k _ s1
noncomputable def liesV (N : Net) : Int := if N.n = 1 then -1 else (strV N - 1) / 2
def spMostLies : Sp := fun vs H Q _ => ∃ N : Net, vs = [.ref N.a] ∧ NetAt H N ∧ NOk N ∧ ∀ H', Same H H' → Q (.int (liesV N)) H'
theorem ok_most_lies (A : All K mg) : FnOk P w K mg base CX0 6 A.a_most_lies A.d_most_lies ["net"] spMostLies := by
  refine A.F_most_lies.ok sc_most_lies (fun vs H Q E h => ?_) (fun cdv A' outer s H vs Q E hr h => ?_)
  · obtain ⟨N, rfl, _⟩ := h
    rfl
  · obtain ⟨N, rfl, hNt, ok, k⟩ := h
    refine ⟨_, (pss_cons (ps_if (pt_cmpR op_eq (pe_callB (call_lenA K rfl) (by rfl) A.z_len (by decide +kernel) (pa_cons (pe_ix (ix_A K rfl) (pv 0) pe_int (fun _ _ => rfl)) pa_nil)) pe_int (nomark _)) (pss_one (ps_ret (pe_un un_neg pe_int))) pss_nil) (pss_one (ps_ret (pe_op op_fdiv (pe_op op_sub (pe_call (ok_strength A) hr (by rfl) A.g_strength A.F_strength.kp A.b_strength .nil pass0 (pa_cons (pv 0) pa_nil)) pe_int) pe_int)))), ?_⟩
    walk_at "go"
    refine w_ixT hNt.a (atI_nat (j := 1) rfl) ?_
    walk_at "go"
    refine w_lenT hNt.m ?_
    rw [List.length_map]
    walk_at "go"
    unfold liesV at k
    refine w_ifd (fun c => ?_) (fun c => ?_)
    · rw [if_pos (show N.n = 1 by show N.nm.length = 1; omega)] at k
      walk_at "go"
      exact k _ (Same.refl _)
    · rw [if_neg (show ¬ N.n = 1 by show ¬ N.nm.length = 1; omega)] at k
      walk_at "go"
      refine ⟨N, rfl, hNt, ok, fun H1 s1 => ?_⟩
      walk_at "go"
      refine w_I ⟨by decide, by decide⟩ ?_
      exact k _ s1
/-! ### bounds -/
def bdV (e : Stp) : List V := [.int (e.fr : Int), .int (e.to : Int), .int e.w]
structure BdAt (H : Hp) (ps : List Addr) (es : List Stp) : Prop where
  l : ps.length = es.length
  r : ∀ i, i < es.length → H (ps.getD i 0) = some (.tup (bdV (es.getD i TL.dS)))
theorem BdAt.tp {H H' : Hp} {ps : List Addr} {es : List Stp} (a : BdAt H ps es) (t : Tp H H') : BdAt H' ps es := ⟨a.l, fun i hi => t _ _ (a.r i hi)⟩
theorem BdAt.nil {H : Hp} : BdAt H [] [] := ⟨rfl, fun i hi => absurd hi (Nat.not_lt_zero i)⟩
theorem BdAt.snoc {H : Hp} {ps : List Addr} {es : List Stp} {p : Addr} {e : Stp} (a : BdAt H ps es) (h : H p = some (.tup (bdV e))) : BdAt H (ps ++ [p]) (es ++ [e]) := by
  refine ⟨by rw [List.length_append, List.length_append, a.l]; rfl, fun i hi => ?_⟩
  rw [List.length_append] at hi
  have len := a.l
  by_cases c : i < es.length
  · rw [List.getD_eq_getElem?_getD, List.getD_eq_getElem?_getD, List.getElem?_append_left (by omega), List.getElem?_append_left c, ← List.getD_eq_getElem?_getD, ← List.getD_eq_getElem?_getD]
    exact a.r i c
  · have hi : i < es.length + 1 := hi
    have e1 : i = es.length := by omega
    subst e1
    rw [List.getD_eq_getElem?_getD, List.getD_eq_getElem?_getD, List.getElem?_append_right (by omega), List.getElem?_append_right (Nat.le_refl _), ← len, Nat.sub_self]
    exact h
theorem bd_at {H : Hp} {ps : List Addr} {es : List Stp} {i : Nat} {v : V} (a : BdAt H ps es) (hi : i < es.length) (e : (ps.map V.ref)[i]? = some v) : v = .ref (ps.getD i 0) ∧ H (ps.getD i 0) = some (.tup (bdV (es.getD i TL.dS))) := by
  refine ⟨?_, a.r i hi⟩
  have hl : i < ps.length := by rw [a.l]; exact hi
  rw [List.getElem?_map, List.getElem?_eq_getElem hl] at e
  rw [List.getD_eq_getElem?_getD, List.getElem?_eq_getElem hl]
  exact (Option.some.inj e).symm
def spBounds : Sp := fun vs H Q _ => ∃ (N : Net) (fp : Addr) (f : List Int), vs = [.ref N.a, .ref fp] ∧ NetAt H N ∧ NOk N ∧ H fp = some (.tup (f.map V.int)) ∧ f.length = N.rs.length ∧
  ∀ l ps H', Same H H' → H l = none → H' l = some (.lst (ps.map V.ref)) → BdAt H' ps (TL.boundsOf N.rs f) → Q (.ref l) H'
theorem ok_bounds (A : All K mg) : FnOk P w K mg base CX0 1 A.a_bounds A.d_bounds ["net", "flow"] spBounds := by
  refine A.F_bounds.ok sc_bounds (fun vs H Q E h => ?_) (fun cdv A' outer s H vs Q E hr h => ?_)
  · obtain ⟨N, fp, f, rfl, _⟩ := h
    rfl
  · obtain ⟨N, fp, f, rfl, hNt, ok, ef, lf, k⟩ := h
    refine ⟨_, (pss_cons (ps_set (i := 2) sc_bounds.nd rfl (by first | exact Or.inl rfl | exact Or.inr rfl) (pe_lst pa_nil)) (pss_cons (ps_for PassesOwn.never rfl (RZ.pi_zipA (by rfl) A.z_zip (pa_cons (pe_ix (ix_A K rfl) (pv 0) pe_int (fun _ _ => rfl)) (pa_cons (pv 1) pa_nil))) (pg_tupA K rfl rfl (pgs_cons (pg_name (i := 3) sc_bounds.nd rfl (by first | exact Or.inl rfl | exact Or.inr rfl)) (pgs_cons (pg_name (i := 4) sc_bounds.nd rfl (by first | exact Or.inl rfl | exact Or.inr rfl)) pgs_nil))) (pss_cons (ps_if (pt_cmpR op_ge (pv 4) pe_int (nomark _)) (pss_one (ps_expr (pe_bm PySem.F.plainAttrs_list PySem.F.slot_list_append PySem.F.type_list_append mt_append (pv 2) (pa_cons (pe_tup (pa_cons (pe_ix (ix_A K rfl) (pv 3) pe_int (fun _ _ => rfl)) (pa_cons (pe_ix (ix_A K rfl) (pv 3) pe_int (fun _ _ => rfl)) (pa_cons (pe_ix (ix_A K rfl) (pv 3) pe_int (fun _ _ => rfl)) pa_nil)))) pa_nil)))) pss_nil) (pss_one (ps_if (pt_cmpR op_le (pv 4) pe_int (nomark _)) (pss_one (ps_expr (pe_bm PySem.F.plainAttrs_list PySem.F.slot_list_append PySem.F.type_list_append mt_append (pv 2) (pa_cons (pe_tup (pa_cons (pe_ix (ix_A K rfl) (pv 3) pe_int (fun _ _ => rfl)) (pa_cons (pe_ix (ix_A K rfl) (pv 3) pe_int (fun _ _ => rfl)) (pa_cons (pe_un un_neg (pe_ix (ix_A K rfl) (pv 3) pe_int (fun _ _ => rfl))) pa_nil)))) pa_nil)))) pss_nil)))) (pss_one (ps_ret (pv 2))))), ?_⟩
    have r9 := ok.r9
    walk_at "go"
    refine w_newL (sz rfl) fun l H1 nl s1 e1 => ?_
    have hN1 := hNt.same s1
    walk_at "go"
    refine w_ixT hN1.a (atI_nat (j := 2) rfl) ?_
    walk_at "go"
    have lp : (N.ps.map V.ref).length = N.rs.length := by rw [List.length_map, hNt.pl]
    have lfv : (f.map V.int).length = N.rs.length := by rw [List.length_map, lf]
    refine ⟨N.t, fp, _, _, rfl, .inr ⟨SqT.of hN1.t, SqT.of (s1 _ _ ef), ?_⟩⟩
    refine fo (walk_zipT (by rw [lp, lfv])) (fun i σ H' => ∃ y z ps, σ = [some (.ref N.a), some (.ref fp), some (.ref l), y, z] ∧ Same H H' ∧ H' l = some (.lst (ps.map V.ref)) ∧ BdAt H' ps (TL.boundsTo N.rs f i))
      ⟨none, none, [], rfl, s1, e1, BdAt.nil⟩ (fun i σ H' _ ⟨_, _, _, _, s', _⟩ => ⟨s'.tup hNt.t, s'.tup ef⟩) ?_ ?_
    · rintro i x σ H3 H4 hi ⟨y, z, ps, rfl, s3, e3, ba⟩ ⟨T, u, v, rfl, nT, rfl, hu, hv⟩
      rw [lp] at hi
      have s4 : Same H3 (upd H3 T (.tup [u, v])) := same_new nT
      have s04 := s3.trans s4
      have hN4 := hNt.same s04
      obtain ⟨eu, er⟩ := rat_at hN4 hi hu
      subst eu
      have ev : v = .int (gi f i) := by
        have hv : (f.map V.int)[i]? = some v := hv
        rw [List.getElem?_map, List.getElem?_eq_getElem (by omega)] at hv
        unfold gi
        rw [List.getD_eq_getElem?_getD, List.getElem?_eq_getElem (by omega)]
        exact (Option.some.inj hv).symm
      subst ev
      have e4 := s4 _ _ e3
      have ba4 := ba.tp (Tp.of s4)
      have lps : ps.length ≤ 18 := by
        have := TL.bounds_len N.rs f i
        rw [ba.l]
        omega
      have up : TL.boundsTo N.rs f (i + 1) = TL.boundsTo N.rs f i ++ TL.boundsAt N.rs f i := rfl
      rw [up]
      unfold TL.boundsAt
      generalize TL.boundsTo N.rs f i = bs at *
      refine w_gT upd_same rfl ?_
      generalize upd H3 T (.tup [.ref (N.ps.getD i 0), .int (gi f i)]) = H5 at *
      walk_at "st"
      walk_at "st"
      walk_at "st"
      walk_at "st"
      walk_at "st"
      refine w_cut (fun σ' H' => σ' = [some (.ref N.a), some (.ref fp), some (.ref l), some (.ref (N.ps.getD i 0)), some (.int (gi f i))] ∧ ∃ ps', Same H H' ∧ H' l = some (.lst (ps'.map V.ref)) ∧ ps'.length ≤ 19 ∧ BdAt H' ps' (bs ++ (if 0 ≤ gi f i then [⟨(rat N.rs i).a, (rat N.rs i).b, (rat N.rs i).v, 0, 0⟩] else []))) ?_ ?_
      · intro nk hnk
        walk_at "go"
        refine w_ifd (fun c => ?_) (fun c => ?_)
        · rw [if_pos c] at hnk
          walk_at "go"
          refine ⟨tyL e4, ?_⟩
          walk_at "go"
          refine w_ixT er (atI_nat (j := 0) rfl) ?_
          walk_at "go"
          refine w_ixT er (atI_nat (j := 1) rfl) ?_
          walk_at "go"
          refine w_ixT er (atI_nat (j := 2) rfl) ?_
          walk_at "go"
          refine w_newT (sz rfl) fun p H6 n6 s6 e6 => ?_
          walk_at "go"
          refine w_app (s6 _ _ e4) (by rw [List.length_map]; omega) fun H7 m7 e7 => ?_
          have t7 := Tp.sm m7 (s6 _ _ e4)
          walk_at "go"
          exact hnk _ _ ⟨rfl, ps ++ [p], same_sm (s04.trans s6) m7 nl, by rw [e7, refs_snoc], by rw [List.length_append, List.length_singleton]; omega, ((ba4.tp (Tp.of s6)).tp t7).snoc (t7 _ _ e6)⟩
        · rw [if_neg c, List.append_nil] at hnk
          walk_at "go"
          exact hnk _ _ ⟨rfl, ps, s04, e4, by omega, ba4⟩
      · rintro σ' H6 ⟨rfl, ps', s6, e6, l6, ba6⟩
        rw [← List.append_assoc]
        generalize (bs ++ (if 0 ≤ gi f i then [⟨(rat N.rs i).a, (rat N.rs i).b, (rat N.rs i).v, 0, 0⟩] else []) : List Stp) = bs' at *
        have er6 := (hNt.same s6).r i hi
        walk_at "go"
        refine w_ifd (fun c => ?_) (fun c => ?_)
        · rw [if_pos c]
          walk_at "go"
          refine ⟨tyL e6, ?_⟩
          walk_at "go"
          refine w_ixT er6 (atI_nat (j := 1) rfl) ?_
          walk_at "go"
          refine w_ixT er6 (atI_nat (j := 0) rfl) ?_
          walk_at "go"
          refine w_ixT er6 (atI_nat (j := 2) rfl) ?_
          walk_at "go"
          refine w_newT (sz rfl) fun p H7 n7 s7 e7 => ?_
          walk_at "go"
          refine w_app (s7 _ _ e6) (by rw [List.length_map]; omega) fun H8 m8 e8 => ?_
          have t8 := Tp.sm m8 (s7 _ _ e6)
          walk_at "go"
          exact ⟨_, _, ps' ++ [p], rfl, same_sm (s6.trans s7) m8 nl, by rw [e8, refs_snoc], ((ba6.tp (Tp.of s7)).tp t8).snoc (t8 _ _ e7)⟩
        · rw [if_neg c, List.append_nil]
          walk_at "go"
          exact ⟨_, _, ps', rfl, s6, e6, ba6⟩
    · rintro σ H3 ⟨y, z, ps, rfl, s3, e3, ba⟩
      rw [lp] at ba
      walk_at "go"
      exact k l ps H3 s3 nl e3 ba
/-! ### greatest -/
theorem t_low {σ : L2.St} {H : Hp} {cl : Addr} {c : List (Option Int)} {fr to_ : Nat} {wt d : Int} {q : Bool → Hp → Prop} (h2 : σ[2]? = some (some (.ref cl))) (h4 : σ[4]? = some (some (.int (fr : Int)))) (h5 : σ[5]? = some (some (.int (to_ : Int)))) (h6 : σ[6]? = some (some (.int wt)))
    (ec : H cl = some (.lst (c.map oV))) (hf : fr < c.length) (hd : go c fr = some d) (ht : to_ < c.length) (k : q (TL.lower (d + wt) (go c to_)) H) :
    tOr (tTest (tOp rIsN (tOp (rIxA K) (tVar 2) (tVar 5)) (tC .non))) (tTest (tOp (rI0 fun i j => .bl (decide (i < j))) (tOp (rI0 fun i j => .int (i + j)) (tOp (rIxA K) (tVar 2) (tVar 4)) (tVar 6)) (tOp (rIxA K) (tVar 2) (tVar 5)))) σ H q := by
  have ha := at_opt ht
  have hb := at_opt hf
  rw [hd] at hb
  refine w_or (w_test (w_op (w_op (w_var h2 (w_var h5 (w_ixL ec ha (w_c ?_)))))))
  cases hd : go c to_ with
  | none =>
    rw [hd] at k
    refine w_isN0 (w_k ?_)
    rw [if_pos rfl]
    exact k
  | some x =>
    rw [hd] at k ha
    refine w_isN1 (w_k ?_)
    rw [if_neg Bool.false_ne_true]
    exact w_test (w_op (w_op (w_op (w_var h2 (w_var h4 (w_ixL ec hb (w_var h6 (w_I0 (w_op (w_var h2 (w_var h5 (w_ixL ec ha (w_I0 (w_k k))))))))))))))
structure GrAt (H0 H : Hp) (cl sl : Addr) (ps : List Addr) (es : List Stp) (b : BF) : Prop where
  s : Same H0 H
  c : H cl = some (.lst (b.c.map oV))
  e : H sl = some (.lst (ps.map V.ref))
  ea : BdAt H ps es
def spGreatest : Sp := fun vs H Q _ => ∃ (n : Nat) (sl : Addr) (ps : List Addr) (es : List Stp), vs = [.int (n : Int), .ref sl] ∧ H sl = some (.lst (ps.map V.ref)) ∧ BdAt H ps es ∧ 0 < n ∧ n ≤ 4 ∧ es.length ≤ 18 ∧ TL.InN n es ∧ (∃ g, TL.Fe es g) ∧
  ∀ l H', Same H H' → H l = none → H' l = some (.lst ((TL.grt n es).c.map oV)) → (TL.grt n es).c.length = n → Q (.ref l) H'
theorem ok_greatest (A : All K mg) : FnOk P w K mg base CX0 1 A.a_greatest A.d_greatest ["many", "steps"] spGreatest := by
  refine A.F_greatest.ok sc_greatest (fun vs H Q E h => ?_) (fun cdv A' outer s H vs Q E hr h => ?_)
  · obtain ⟨n, sl, ps, es, rfl, _⟩ := h
    rfl
  · obtain ⟨n, sl, ps, es, rfl, esl, ba, hn, n4, l18, Nn, ⟨g, Fg⟩, k⟩ := h
    refine ⟨_, (pss_cons (ps_set (i := 2) sc_greatest.nd rfl (by first | exact Or.inl rfl | exact Or.inr rfl) (pe_op op_rep (pe_lst (pa_cons pe_non pa_nil)) (pv 0))) (pss_cons (ps_asg pe_int (pg_sub (pv 2) pe_int set_list)) (pss_cons (ps_set (i := 3) sc_greatest.nd rfl (by first | exact Or.inl rfl | exact Or.inr rfl) pe_bl) (pss_cons (ps_while PassesOwn.never (pt_val (pv 3)) (pss_cons (ps_set (i := 3) sc_greatest.nd rfl (by first | exact Or.inl rfl | exact Or.inr rfl) pe_bl) (pss_one (ps_for PassesOwn.never rfl (pi_list (pv 1)) (pg_tupA K rfl rfl (pgs_cons (pg_name (i := 4) sc_greatest.nd rfl (by first | exact Or.inl rfl | exact Or.inr rfl)) (pgs_cons (pg_name (i := 5) sc_greatest.nd rfl (by first | exact Or.inl rfl | exact Or.inr rfl)) (pgs_cons (pg_name (i := 6) sc_greatest.nd rfl (by first | exact Or.inl rfl | exact Or.inr rfl)) pgs_nil)))) (pss_one (ps_if (PW.pt (pw_and (pt_cmpR op_notN1 (pe_ix (ix_A K rfl) (pv 2) (pv 4) (fun _ _ => rfl)) pe_non (nomark _)) (pw_and1 (PW.pt (pw_or (pt_cmpR op_isN1 (pe_ix (ix_A K rfl) (pv 2) (pv 5) (fun _ _ => rfl)) pe_non (nomark _)) (pw_or1 (pt_cmpR op_lt (pe_op op_add (pe_ix (ix_A K rfl) (pv 2) (pv 4) (fun _ _ => rfl)) (pv 6)) (pe_ix (ix_A K rfl) (pv 2) (pv 5) (fun _ _ => rfl)) (nomark _)))))))) (pss_cons (ps_asg (pe_op op_add (pe_ix (ix_A K rfl) (pv 2) (pv 4) (fun _ _ => rfl)) (pv 6)) (pg_sub (pv 2) (pv 5) set_list)) (pss_one (ps_set (i := 3) sc_greatest.nd rfl (by first | exact Or.inl rfl | exact Or.inr rfl) pe_bl))) pss_nil)))))) (pss_one (ps_ret (pv 2))))))), ?_⟩
    obtain ⟨kk, lp, B, Cl⟩ := TL.grt_ok hn Nn Fg
    have F : TL.Feas n 0 es g := ⟨hn, Fg.1, Nn.fr, Nn.to, Fg.2⟩
    generalize TL.grt n es = r at *
    walk_at "go"
    refine w_newL (sz rfl) fun l0 H1 n1 s1 e1 => ?_
    walk_at "go"
    refine w_rep1 (n := n) e1 (by omega) fun cl H2 n2 s2 e2 => ?_
    have s02 := s1.trans s2
    have ncl : H cl = none := s1.free n2
    have nls : sl ≠ cl := fun z => by rw [z] at esl; rw [esl] at ncl; cases ncl
    walk_at "go"
    refine w_setL (n := 0) e2 (by rw [List.length_replicate]; exact hn) fun H3 m3 e3 => ?_
    have s03 : Same H H3 := same_sm s02 m3 ncl
    walk_at "go"
    refine w_while lp (TL.BI n 0 es g) (fun b σ H' => ∃ x4 x5 x6, σ = [some (.int (n : Int)), some (.ref sl), some (.ref cl), some (.bl b.ch), x4, x5, x6] ∧ GrAt H H' cl sl ps es b) (TL.bf0_BI F)
      ⟨none, none, none, rfl, s03, ?_, s03 _ _ esl, ba.tp (Tp.of s03)⟩ ?_
    · rw [e3]
      show _ = some (HO.lst (((List.replicate n none).set 0 (some 0)).map oV))
      rw [← set_opt, List.map_replicate]
      rfl
    · rintro b σ H7 Yes No B7 ⟨x4, x5, x6, rfl, a7⟩ hYes hNo
      walk_at "go"
      cases hc : b.ch with
      | false =>
        rw [if_neg Bool.false_ne_true]
        refine hNo hc _ fun er => ?_
        subst er
        walk_at "go"
        exact k cl H7 a7.s ncl a7.c B.lc
      | true =>
        rw [if_pos rfl]
        refine hYes hc _ ?_
        walk_at "go"
        refine ⟨sl, rfl, ⟨_, SqL.of a7.e⟩, ?_⟩
        have lps : (ps.map V.ref).length = es.length := by rw [List.length_map, ba.l]
        refine fo walk_list (fun i σ H' => TL.BI n 0 es g (TL.upto (fun i s => TL.relax s (es.getD i TL.dS)) ⟨b.c, b.l, false⟩ i) ∧ ∃ x4 x5 x6, σ = [some (.int (n : Int)), some (.ref sl), some (.ref cl), some (.bl (TL.upto (fun i s => TL.relax s (es.getD i TL.dS)) ⟨b.c, b.l, false⟩ i).ch), x4, x5, x6] ∧
          GrAt H H' cl sl ps es (TL.upto (fun i s => TL.relax s (es.getD i TL.dS)) ⟨b.c, b.l, false⟩ i)) ⟨⟨B7.lc, B7.ll, B7.c0, B7.l0, B7.ge, B7.tr⟩, x4, x5, x6, rfl, a7.s, a7.c, a7.e, a7.ea⟩ (fun i σ H' _ ⟨_, _, _, _, _, a'⟩ => SqL.of a'.e) ?_ ?_
        · rintro i x σ H8 H9 hi ⟨B8, y4, y5, y6, rfl, a8⟩ ⟨rfl, hx⟩
          rw [lps] at hi
          obtain ⟨ex, er⟩ := bd_at a8.ea hi hx
          subst ex
          have hmem : es.getD i TL.dS ∈ es := List.mem_of_getElem? (getD_at hi)
          have B9 : TL.BI n 0 es g (TL.relax (TL.upto (fun i s => TL.relax s (es.getD i TL.dS)) ⟨b.c, b.l, false⟩ i) (es.getD i TL.dS)) := B8.relax F hmem
          have up : TL.upto (fun i s => TL.relax s (es.getD i TL.dS)) ⟨b.c, b.l, false⟩ (i + 1) = TL.relax (TL.upto (fun i s => TL.relax s (es.getD i TL.dS)) ⟨b.c, b.l, false⟩ i) (es.getD i TL.dS) := rfl
          rw [up]
          generalize TL.upto (fun i s => TL.relax s (es.getD i TL.dS)) ⟨b.c, b.l, false⟩ i = u at *
          have hfr := F.fr _ hmem
          have hto := F.to _ hmem
          generalize es.getD i TL.dS = e at *
          have hcf := at_opt (c := u.c) (j := e.fr) (by rw [B8.lc]; exact hfr)
          have hct := at_opt (c := u.c) (j := e.to) (by rw [B8.lc]; exact hto)
          refine w_gT er rfl ?_
          unfold bdV
          walk_at "go"
          refine w_ixL a8.c hcf ?_
          walk_at "go"
          cases hd : go u.c e.fr with
          | none =>
            have rr : TL.relax u e = u := by unfold TL.relax; rw [hd]
            rw [rr]
            refine w_noN0 ?_
            walk_at "go"
            rw [if_neg Bool.false_ne_true, if_neg Bool.false_ne_true]
            walk_at "go"
            exact ⟨B8, _, _, _, rfl, a8⟩
          | some d =>
            rw [hd] at hcf
            replace hcf : atI (u.c.map oV) (e.fr : Int) = some (V.int d) := hcf
            refine w_noN1 ?_
            walk_at "st"
            rw [if_pos rfl]
            refine t_low rfl rfl rfl rfl a8.c (by rw [B8.lc]; exact hfr) hd (by rw [B8.lc]; exact hto) ?_
            cases hl : TL.lower (d + e.w) (go u.c e.to) with
            | false =>
              have rr : TL.relax u e = u := by unfold TL.relax; rw [hd]; simp only [hl]; rfl
              rw [rr, if_neg Bool.false_ne_true]
              walk_at "go"
              exact ⟨B8, _, _, _, rfl, a8⟩
            | true =>
              have rr : TL.relax u e = ⟨u.c.set e.to (some (d + e.w)), u.l.set e.to (some e), true⟩ := by unfold TL.relax; rw [hd]; simp only [hl, if_true]
              rw [rr] at B9 ⊢
              rw [if_pos rfl]
              walk_at "go"
              refine w_ixL a8.c hcf ?_
              walk_at "go"
              refine w_setL a8.c (by rw [List.length_map, B8.lc]; exact hto) fun H10 m10 e10 => ?_
              rw [set_opt] at e10
              have t10 := Tp.sm m10 a8.c
              walk_at "go"
              exact ⟨B9, _, _, _, rfl, same_sm a8.s m10 ncl, e10, m10 _ _ (fun hm => nls (List.mem_singleton.mp hm)) a8.e, a8.ea.tp t10⟩
        · rintro σ H8 ⟨B8, y4, y5, y6, rfl, a8⟩
          rw [lps] at B8 a8
          walk_at "go"
          exact ⟨B8, y4, y5, y6, by rw [lps]; rfl, a8⟩
/-! ### spans -/
noncomputable def hiN (N : Net) : List Int := TL.hiOf N.n (TL.grt N.n (TL.boundsOf N.rs (bestF N))).c
noncomputable def loN (N : Net) : List Int := TL.loOf N.n (TL.grt N.n ((TL.boundsOf N.rs (bestF N)).map TL.revS)).c
structure Best (N : Net) : Prop where
  lh : (bestH N).length = N.n
  h0 : gi (bestH N) 0 = 0
  fb : TL.FB N.rs (bestF N)
  ev : TL.Even N.n N.rs (bestF N)
  cs : TL.CS N.rs (bestH N) (bestF N)
theorem best_ok {N : Net} (ok : NOk N) : Best N := by
  obtain ⟨_, si, ev⟩ := TL.run_ok ok.ok
  have n1 := ok.n1
  have gm : ∀ j, j < N.n → gi (bestH N) j = gi (TL.runOf N.n N.rs).1 j - gi (TL.runOf N.n N.rs).1 0 := fun j hj => by
    unfold bestH
    rw [TL.gi_map (by rw [si.lh]; exact hj)]
  refine ⟨by unfold bestH; rw [List.length_map]; exact si.lh, by rw [gm 0 (by omega)]; omega, si.fb, ev, fun i hi => ?_⟩
  have := si.cs i hi
  have em : miss (rat N.rs i) (bestH N) = miss (rat N.rs i) (TL.runOf N.n N.rs).1 := by
    unfold miss
    rw [gm _ (ok.ok.a _ (TL.rat_mem hi)), gm _ (ok.ok.b _ (TL.rat_mem hi))]
    omega
  rw [em]
  exact this
theorem spans_N {N : Net} (ok : NOk N) (J : TL.Joined N.n N.rs) : TL.Spans N.n N.rs (bestF N) (loN N) (hiN N) := by
  have b := best_ok ok
  exact (TL.spans_ok ok.ok ok.n1 J b.fb b.ev b.h0 b.cs).2.2.2.2
structure SpAt (N : Net) (H : Hp) (p : Addr) : Prop where
  a : ∃ ps : List Addr, H p = some (.tup (ps.map V.ref)) ∧ ps.length = N.n ∧ ∀ i, i < N.n → H (ps.getD i 0) = some (.tup [.int (gi (loN N) i), .int (gi (hiN N) i)])
def spSpans : Sp := fun vs H Q _ => ∃ N : Net, vs = [.ref N.a] ∧ NetAt H N ∧ NOk N ∧ TL.Joined N.n N.rs ∧ ∀ p H', Same H H' → SpAt N H' p → Q (.ref p) H'
theorem ok_spans (A : All K mg) : FnOk P w K mg base CX0 9 A.a_spans A.d_spans ["net"] spSpans := by
  refine A.F_spans.ok sc_spans (fun vs H Q E h => ?_) (fun cdv A' outer s H vs Q E hr h => ?_)
  · obtain ⟨N, rfl, _⟩ := h
    rfl
  · obtain ⟨N, rfl, hNt, ok, Jo, k⟩ := h
    refine ⟨_, (pss_cons (ps_set (i := 1) sc_spans.nd rfl (by first | exact Or.inl rfl | exact Or.inr rfl) (pe_call (ok_bounds A) (hr.mono (by decide)) (by rfl) A.g_bounds A.F_bounds.kp A.b_bounds .nil pass0 (pa_cons (pv 0) (pa_cons (pe_ix (ix_A K rfl) (pe_call (ok_best_paper A) hr (by rfl) A.g_best_paper A.F_best_paper.kp A.b_best_paper .nil pass0 (pa_cons (pv 0) pa_nil)) pe_int (fun _ _ => rfl)) pa_nil)))) (pss_cons (ps_set (i := 2) sc_spans.nd rfl (by first | exact Or.inl rfl | exact Or.inr rfl) (pe_call (ok_greatest A) (hr.mono (by decide)) (by rfl) A.g_greatest A.F_greatest.kp A.b_greatest .nil pass0 (pa_cons (pe_callB (call_lenA K rfl) (by rfl) A.z_len (by decide +kernel) (pa_cons (pe_ix (ix_A K rfl) (pv 0) pe_int (fun _ _ => rfl)) pa_nil)) (pa_cons (pv 1) pa_nil)))) (pss_cons (ps_set (i := 3) sc_spans.nd rfl (by first | exact Or.inl rfl | exact Or.inr rfl) (pe_call (ok_greatest A) (hr.mono (by decide)) (by rfl) A.g_greatest A.F_greatest.kp A.b_greatest .nil pass0 (pa_cons (pe_callB (call_lenA K rfl) (by rfl) A.z_len (by decide +kernel) (pa_cons (pe_ix (ix_A K rfl) (pv 0) pe_int (fun _ _ => rfl)) pa_nil)) (pa_cons (pe_lc (own := [("one", 4), ("other", 5), ("most", 6)]) (g := (gTup K 3 (gCons (gName 4) (gCons (gName 5) (gCons (gName 6) gNil))))) (tt := tYes) rfl sc_spans.nd (pi_list (pv 1)) (blkOk_by (own := [("one", 4), ("other", 5), ("most", 6)]) (N := ["net", "steps", "high", "low", "one", "other", "most", "least"]) (sc := defScope s_spans) (by decide +kernel)) (fun _ _ _ _ _ => (pg_tupA K rfl rfl (pgs_cons (pg_name (i := 4) sc_spans.nd rfl (by first | exact Or.inl rfl | exact Or.inr rfl)) (pgs_cons (pg_name (i := 5) sc_spans.nd rfl (by first | exact Or.inl rfl | exact Or.inr rfl)) (pgs_cons (pg_name (i := 6) sc_spans.nd rfl (by first | exact Or.inl rfl | exact Or.inr rfl)) pgs_nil))))) (fun _ _ _ _ _ => pts_nil) (fun _ _ _ _ _ => (pe_tup (pa_cons (pv 5) (pa_cons (pv 4) (pa_cons (pv 6) pa_nil)))))) pa_nil)))) (pss_one (ps_ret (pe_callTy (call_tupA K rfl) (by rfl) A.z_tuple (by decide +kernel) (pa_cons (pe_lc (own := [("least", 7), ("most", 6)]) (g := (gTup K 2 (gCons (gName 7) (gCons (gName 6) gNil)))) (tt := tYes) rfl sc_spans.nd (RZ.pi_zipA (by rfl) A.z_zip (pa_cons (pv 3) (pa_cons (pv 2) pa_nil))) (blkOk_by (own := [("least", 7), ("most", 6)]) (N := ["net", "steps", "high", "low", "one", "other", "most", "least"]) (sc := defScope s_spans) (by decide +kernel)) (fun _ _ _ _ _ => (pg_tupA K rfl rfl (pgs_cons (pg_name (i := 7) sc_spans.nd rfl (by first | exact Or.inl rfl | exact Or.inr rfl)) (pgs_cons (pg_name (i := 6) sc_spans.nd rfl (by first | exact Or.inl rfl | exact Or.inr rfl)) pgs_nil)))) (fun _ _ _ _ _ => pts_nil) (fun _ _ _ _ _ => (pe_tup (pa_cons (pe_un un_neg (pv 7)) (pa_cons (pv 6) pa_nil))))) pa_nil))))))), ?_⟩
    have n1 := ok.n1
    have n4 := ok.n4
    have r9 := ok.r9
    have bo := best_ok ok
    obtain ⟨_, _, al1, al2, _⟩ := TL.spans_ok ok.ok ok.n1 Jo bo.fb bo.ev bo.h0 bo.cs
    have hin := TL.bounds_in (f := bestF N) ok.ok
    have hrv := TL.rev_in (f := bestF N) ok.ok
    have lbd : (TL.boundsOf N.rs (bestF N)).length ≤ 18 := by
      have := TL.bounds_len N.rs (bestF N) N.rs.length
      unfold TL.boundsOf
      omega
    have fe1 : TL.Fe (TL.boundsOf N.rs (bestF N)) (gi (bestH N)) := ⟨bo.h0, TL.cs_bounds.mp bo.cs⟩
    have fe2 : TL.Fe ((TL.boundsOf N.rs (bestF N)).map TL.revS) (fun j => -gi (bestH N) j) := ⟨by show -gi (bestH N) 0 = 0; rw [bo.h0]; rfl, fun e he => by
      obtain ⟨e0, h0, rfl⟩ := List.mem_map.mp he
      have := TL.cs_bounds.mp bo.cs e0 h0
      show -gi (bestH N) e0.fr ≤ -gi (bestH N) e0.to + e0.w
      omega⟩
    have klo : ∀ i, i < N.n → ∀ d, go (TL.grt N.n ((TL.boundsOf N.rs (bestF N)).map TL.revS)).c i = some d → gi (loN N) i = -d := fun i hi d hd => by
      unfold loN
      rw [TL.loOf_at hi, TL.hiL_at hi, hd]
      rfl
    have khi : ∀ i, i < N.n → ∀ d, go (TL.grt N.n (TL.boundsOf N.rs (bestF N))).c i = some d → gi (hiN N) i = d := fun i hi d hd => by
      unfold hiN TL.hiOf
      rw [TL.hiL_at hi, hd]
      rfl
    walk_at "go"
    refine ⟨N, rfl, hNt, ok, fun bp hp fp H1 s1 eb eh ef => ?_⟩
    walk_at "go"
    refine w_ixT eb (atI_nat (j := 2) rfl) ?_
    walk_at "go"
    refine ⟨N, fp, _, rfl, hNt.same s1, ok, ef, bo.fb.1, fun sl ps H2 s2 nsl esl ba => ?_⟩
    generalize hes : TL.boundsOf N.rs (bestF N) = es at *
    have hN2 := hNt.same (s1.trans s2)
    walk_at "go"
    refine w_ixT hN2.a (atI_nat (j := 1) rfl) ?_
    walk_at "go"
    refine w_lenT hN2.m ?_
    rw [List.length_map]
    walk_at "go"
    refine ⟨N.n, sl, ps, es, rfl, esl, ba, n1, n4, lbd, hin, ⟨_, fe1⟩, fun hl H3 s3 nhl ehl lhl => ?_⟩
    have hN3 := hN2.same s3
    walk_at "go"
    refine w_ixT hN3.a (atI_nat (j := 1) rfl) ?_
    walk_at "go"
    refine w_lenT hN3.m ?_
    rw [List.length_map]
    walk_at "go"
    refine ⟨sl, rfl, ⟨_, SqL.of (s3 _ _ esl)⟩, fun L nL => ?_⟩
    have lps : (ps.map V.ref).length = es.length := by rw [List.length_map, ba.l]
    refine lc walk_list (by omega) nL (fun i acc H' => ∃ qs : List Addr, acc = qs.map V.ref ∧ BdAt H' qs ((es.take i).map TL.revS)) (fun _ _ _ => ⟨[], rfl, BdAt.nil⟩) (fun i acc H' s' _ => (s3.trans s').lst esl) ?_ ?_
    · rintro i acc x H4 H5 F No hi s4 eL ⟨qs, rfl, qa⟩ ⟨rfl, hx⟩ hF _
      rw [lps] at hi
      obtain ⟨ex, er⟩ := bd_at (ba.tp (Tp.of (s3.trans s4))) hi hx
      subst ex
      refine w_gT er rfl ?_
      unfold bdV
      walk_at "go"
      refine ⟨rfl, ?_⟩
      walk_at "go"
      rw [if_pos rfl]
      walk_at "go"
      refine w_newT (sz rfl) fun p H6 n6 s6 e6 => ?_
      refine hF _ _ s6 fun H7 m7 t7 s7 e7 => ⟨qs ++ [p], refs_snoc, ?_⟩
      rw [take_map (getD_at hi)]
      exact ((qa.tp (Tp.of s6)).tp t7).snoc (t7 _ _ e6)
    · rintro acc H4 s4 eL _ ⟨qs, rfl, qa⟩
      rw [lps, take_all] at qa
      walk_at "go"
      refine ⟨N.n, L, qs, es.map TL.revS, rfl, eL, qa, n1, n4, by rw [List.length_map]; exact lbd, hrv, ⟨_, fe2⟩, fun ll H5 s5 nll ell lll => ?_⟩
      have ehl5 := s5 _ _ (s4 _ _ ehl)
      generalize TL.grt N.n es = rh at *
      generalize TL.grt N.n (es.map TL.revS) = rl at *
      walk_at "go"
      have l1 : (rl.c.map oV).length = N.n := by rw [List.length_map, lll]
      have l2 : (rh.c.map oV).length = N.n := by rw [List.length_map, lhl]
      refine ⟨ll, hl, _, _, rfl, .inl ⟨SqL.of ell, SqL.of ehl5, fun L2 nL2 => ?_⟩⟩
      refine lc (walk_zip (n := N.n) (by rw [l1, l2]; omega)) (by omega) nL2 (fun i acc H' => ∃ qs : List Addr, acc = qs.map V.ref ∧ qs.length = i ∧ ∀ j, j < i → H' (qs.getD j 0) = some (.tup [.int (gi (loN N) j), .int (gi (hiN N) j)])) (fun _ _ _ => ⟨[], rfl, rfl, fun j hj => absurd hj (Nat.not_lt_zero j)⟩) (fun i acc H' s' _ => ⟨s'.lst ell, s'.lst ehl5⟩) ?_ ?_
      · rintro i acc x H6 H7 F No hi s6 eL2 ⟨qs2, rfl, lq, qa2⟩ ⟨T, u, v, rfl, nT, rfl, hu, hv⟩ hF _
        have s7 : Same H6 (upd H6 T (.tup [u, v])) := same_new nT
        cases hdl : go rl.c i with
        | none => exact absurd hdl (al2 i hi)
        | some dl =>
          cases hdh : go rh.c i with
          | none => exact absurd hdh (al1 i hi)
          | some dh =>
            have eu : u = .int dl := by
              have h1 := at_opt (c := rl.c) (j := i) (by omega)
              have h2 : atI (rl.c.map oV) (i : Int) = some u := atI_nat hu
              rw [h1, hdl] at h2
              exact (Option.some.inj h2).symm
            have ev : v = .int dh := by
              have h1 := at_opt (c := rh.c) (j := i) (by omega)
              have h2 : atI (rh.c.map oV) (i : Int) = some v := atI_nat hv
              rw [h1, hdh] at h2
              exact (Option.some.inj h2).symm
            subst eu ev
            refine w_gT upd_same rfl ?_
            walk_at "go"
            refine ⟨rfl, ?_⟩
            walk_at "go"
            rw [if_pos rfl]
            walk_at "go"
            refine w_newT (sz rfl) fun p H8 n8 s8 e8 => ?_
            refine hF _ _ (s7.trans s8) fun H9 m9 t9 s9 e9 => ⟨qs2 ++ [p], refs_snoc, by rw [List.length_append, lq]; rfl, fun j hj => ?_⟩
            by_cases c : j < i
            · rw [List.getD_eq_getElem?_getD, List.getElem?_append_left (by omega), ← List.getD_eq_getElem?_getD]
              exact t9 _ _ ((s7.trans s8) _ _ (qa2 j c))
            · have e : j = i := by omega
              subst e
              rw [List.getD_eq_getElem?_getD, List.getElem?_append_right (by omega), lq, Nat.sub_self, klo _ hi _ hdl, khi _ hi _ hdh]
              exact t9 _ _ e8
      · rintro acc H6 s6 eL2 _ ⟨qs2, rfl, lq, qa2⟩
        walk_at "go"
        refine w_tupA eL2 fun p H7 n7 s7 e7 => ?_
        walk_at "go"
        exact k p H7 ((s1.trans s2).trans (s3.trans (s4.trans (s5.trans (s6.trans s7))))) ⟨qs2, e7, lq, fun i hi => s7 _ _ (qa2 i hi)⟩
end
end TW

namespace TW
open PySem L2
/-- one step of a reading -/
local macro_rules | `(tactic| walk_at "st") => `(tactic| first
  | with_reducible refine w_seq ?_ | with_reducible refine w_next ?_ | with_reducible refine w_nx ?_ | with_reducible refine w_rt ?_ | with_reducible refine w_asg ?_ | with_reducible refine w_name ?_
  | with_reducible refine w_op ?_ | with_reducible refine w_un ?_ | with_reducible refine w_var rfl ?_ | with_reducible refine w_c ?_ | with_reducible refine w_ret ?_ | with_reducible refine w_drop ?_
  | with_reducible refine w_if ?_ | with_reducible refine w_test ?_ | with_reducible refine w_tB ?_ | with_reducible refine w_k ?_ | with_reducible refine w_and ?_ | with_reducible refine w_or ?_ | with_reducible refine w_yes ?_
  | with_reducible refine w_nil ?_ | with_reducible refine w_cons ?_ | with_reducible refine w_cb ?_ | with_reducible refine w_call ?_ | with_reducible refine w_I0 ?_ | with_reducible refine w_neg ?_
  | with_reducible refine w_eqI ?_ | with_reducible refine w_neI ?_ | with_reducible refine w_abs ?_ | with_reducible refine w_min2 ?_ | with_reducible refine w_intI ?_ | with_reducible refine w_intB ?_
  | with_reducible refine w_isN0 ?_ | with_reducible refine w_isN1 ?_ | with_reducible refine w_isN2 ?_ | with_reducible refine w_noN0 ?_ | with_reducible refine w_noN1 ?_ | with_reducible refine w_noN2 ?_
  | with_reducible refine w_sub ?_ | with_reducible refine w_for ?_ | with_reducible refine w_lc ?_ | with_reducible refine w_iT ?_ | with_reducible refine w_iL ?_ | with_reducible refine w_iE ?_ | with_reducible refine w_iEl ?_
  | with_reducible refine w_iZ ?_ | with_reducible refine w_iR1 ?_ | with_reducible refine w_iR2 ?_ | with_reducible refine w_gc ?_ | with_reducible refine w_gn ?_ | with_reducible refine w_bm ?_ | with_reducible refine w_sfld ?_ | with_reducible refine w_tfld ?_ | with_reducible refine w_meth ?_ | with_reducible refine w_make ?_ | with_reducible refine w_tup ?_ | with_reducible refine w_lst ?_)
local macro_rules | `(tactic| walk_at "go") => `(tactic| repeat walk_at "st")
local macro_rules | `(tactic| walk_at "nx") => `(tactic| repeat (first | with_reducible refine w_next ?_ | with_reducible refine w_nx ?_ | with_reducible refine w_name ?_ | with_reducible refine w_gc ?_ | with_reducible refine w_gn ?_))

open TL (Rd rat miss gi absI Stp BF go PW Le SS AW VW WW)
section
variable {P : Program} {w : World} {K : PySem.W.Frag} {mg : Str → Option Value} {base : Heap}
/-! ### texts -/
def Sml (i : Int) : Prop := -1000000000 ≤ i ∧ i ≤ 1000000000
def sI (i : Int) : Str := Str.ofString (toString i)
theorem sml_log {i : Int} (h : Sml i) : i.natAbs.log2 < 1920 := by
  unfold Sml at h
  by_cases z : i.natAbs = 0
  · rw [z]; decide
  · have : i.natAbs < 2 ^ 31 := by omega
    have := (Nat.log2_lt z).mpr this
    omega
theorem sI_len {i : Int} (h : Sml i) : (sI i).length ≤ 1921 := PyProof.Rows.int_text_len_1921 (sml_log h)
theorem w_str {i : Int} {H : Hp} {Q : VK} (h : Sml i) (k : Q (.str (sI i)) H) : rStrA [.int i] H Q := ⟨i, rfl, sml_log h, k⟩
theorem w_addS {a b : Str} {m n : Nat} {H : Hp} {Q : VK} (ha : a.length ≤ m) (hb : b.length ≤ n) (h : Nat.ble (m + n) 100000 = true) (k : (a ++ b).length ≤ m + n → Q (.str (a ++ b)) H) : rAddS (.str a) (.str b) H Q := by
  have e : (a ++ b).length = a.length + b.length := PySem.Str.length_append a b
  have h := Nat.le_of_ble_eq_true h
  exact ⟨a, b, rfl, rfl, Nat.le_trans (show a.length + b.length ≤ 100000 by omega) (by decide), k (by omega)⟩
theorem w_cat {a b : Addr} {xs ys : List V} {H : Hp} {Q : VK} (h1 : H a = some (.lst xs)) (h2 : H b = some (.lst ys)) (hz : xs.length + ys.length ≤ 100000) (k : ∀ p H1, H p = none → Same H H1 → H1 p = some (.lst (xs ++ ys)) → Q (.ref p) H1) : rCat (.ref a) (.ref b) H Q :=
  ⟨a, b, xs, ys, rfl, rfl, h1, h2, Nat.le_trans hz (by decide), fun p np => k p _ np (same_new np) upd_same⟩
def nmOf (N : Net) (j : Nat) : Str := N.nm.getD j Str.empty
theorem at_nm {N : Net} {j : Nat} (h : j < N.n) : atI (N.nm.map V.str) (j : Int) = some (.str (nmOf N j)) := by
  refine atI_nat ?_
  have h : j < N.nm.length := h
  rw [List.getElem?_map, List.getElem?_eq_getElem h]
  unfold nmOf
  rw [List.getD_eq_getElem?_getD, List.getElem?_eq_getElem h]
  rfl
/-- a net of a run: joined, of short names and small values -/
structure NG (N : Net) : Prop where
  ok : NOk N
  jn : TL.Joined N.n N.rs
  nm : ∀ s ∈ N.nm, s.length ≤ 10
  vb : ∀ r ∈ N.rs, -1000000 ≤ r.v ∧ r.v ≤ 1000000
theorem NG.nl {N : Net} (g : NG N) {j : Nat} (h : j < N.n) : (nmOf N j).length ≤ 10 := by
  have h : j < N.nm.length := h
  unfold nmOf
  rw [List.getD_eq_getElem?_getD, List.getElem?_eq_getElem h]
  exact g.nm _ (List.getElem_mem h)
theorem NG.sp {N : Net} (g : NG N) {j : Nat} (h : j < N.n) : (-4000000 ≤ gi (loN N) j ∧ gi (loN N) j ≤ 4000000) ∧ (-4000000 ≤ gi (hiN N) j ∧ gi (hiN N) j ≤ 4000000) := by
  have s := spans_N g.ok g.jn
  have n4 := g.ok.n4
  have a := TL.kept_bound (M := 1000000) g.ok.ok g.ok.n1 s.lk s.l0 (by decide) g.vb j h
  have b := TL.kept_bound (M := 1000000) g.ok.ok g.ok.n1 s.hk s.h0 (by decide) g.vb j h
  omega
theorem NG.bh {N : Net} (g : NG N) {j : Nat} (h : j < N.n) : -4000000 ≤ gi (bestH N) j ∧ gi (bestH N) j ≤ 4000000 := by
  have s := spans_N g.ok g.jn
  have b := best_ok g.ok
  have := s.le (bestH N) b.h0 b.cs j h
  have := g.sp h
  omega
theorem NG.ms {N : Net} (g : NG N) {h : List Int} (hb : ∀ j, j < N.n → -4000000 ≤ gi h j ∧ gi h j ≤ 4000000) {i : Nat} (hi : i < N.rs.length) : -9000000 ≤ miss (rat N.rs i) h ∧ miss (rat N.rs i) h ≤ 9000000 := by
  have := g.vb _ (TL.rat_mem hi)
  have := hb _ (g.ok.ok.a _ (TL.rat_mem hi))
  have := hb _ (g.ok.ok.b _ (TL.rat_mem hi))
  unfold miss
  omega
theorem NG.co {N : Net} (g : NG N) {h : List Int} (hb : ∀ j, j < N.n → -4000000 ≤ gi h j ∧ gi h j ≤ 4000000) : Sml (costL N.rs h) := by
  rw [costL_eq]
  have r9 := g.ok.r9
  have a := TL.sumZ_le (F := fun i => absI (miss (rat N.rs i) h)) (G := fun _ => 9000000) (n := N.rs.length) fun i hi => by
    have := g.ms hb hi
    show absI (miss (rat N.rs i) h) ≤ 9000000
    unfold absI
    split <;> omega
  have b := TL.sumZ_le (G := fun i => absI (miss (rat N.rs i) h)) (F := fun _ => 0) (n := N.rs.length) fun i hi => by
    show 0 ≤ absI (miss (rat N.rs i) h)
    unfold absI
    split <;> omega
  rw [TL.sumZ_const] at a b
  unfold Sml TL.costZ
  omega
theorem NG.st {N : Net} (g : NG N) : -1 ≤ strV N ∧ strV N ≤ 9 := by
  unfold strV
  by_cases c : N.n = 1
  · rw [if_pos c]; omega
  · rw [if_neg c]
    have n1 := g.ok.n1
    obtain ⟨⟨χ, _, e⟩, _⟩ := TL.strN_ok g.ok.ok (by omega)
    rw [← e]
    have r9 := g.ok.r9
    have : TL.cutN χ N.rs ≤ N.rs.length := by
      have : ∀ m, TL.sumN (fun i => if (χ (rat N.rs i).a != χ (rat N.rs i).b) = true then 1 else 0) m ≤ m := fun m => by
        induction m with
        | zero => exact Nat.le_refl _
        | succ m ih => rw [TL.sumN]; split <;> omega
      exact this _
    omega
theorem NG.li {N : Net} (g : NG N) : -1 ≤ liesV N ∧ liesV N ≤ 9 := by
  have := g.st
  unfold liesV
  split <;> omega
/-! ### the lines -/
def markLine (N : Net) (x lo hi : Int) (k : Nat) : Str := if lo = hi then nmOf N k ++ (" " : Str) ++ sI x else nmOf N k ++ (" " : Str) ++ sI x ++ (" " : Str) ++ sI lo ++ (" to " : Str) ++ sI hi
def readLine (N : Net) (r : Rd) (ms : Int) : Str := if ms = 0 then nmOf N r.a ++ (" to " : Str) ++ nmOf N r.b ++ (" " : Str) ++ sI r.v else nmOf N r.a ++ (" to " : Str) ++ nmOf N r.b ++ (" " : Str) ++ sI r.v ++ (" misses " : Str) ++ sI ms
def marksTo (N : Net) (h lo hi : List Int) (k : Nat) : List Str := TL.upto (fun i acc => acc ++ [markLine N (gi h i) (gi lo i) (gi hi i) i]) [] k
def readsTo (N : Net) (h : List Int) (k : Nat) : List Str := TL.upto (fun i acc => acc ++ [readLine N (rat N.rs i) (miss (rat N.rs i) h)]) [] k
theorem marks_len (N : Net) (h lo hi : List Int) : ∀ k, (marksTo N h lo hi k).length = k
  | 0 => rfl
  | k + 1 => by
    show (marksTo N h lo hi k ++ [_]).length = k + 1
    rw [List.length_append, marks_len N h lo hi k]
    rfl
theorem reads_len (N : Net) (h : List Int) : ∀ k, (readsTo N h k).length = k
  | 0 => rfl
  | k + 1 => by
    show (readsTo N h k ++ [_]).length = k + 1
    rw [List.length_append, reads_len N h k]
    rfl
/-- short lines -/
def Sh (ls : List Str) : Prop := ∀ s ∈ ls, s.length ≤ 20000
theorem Sh.nil : Sh [] := fun s h => by cases h
theorem Sh.snoc {ls : List Str} {s : Str} (h : Sh ls) (hs : s.length ≤ 20000) : Sh (ls ++ [s]) := fun x hx => by
  rcases List.mem_append.mp hx with q | q
  · exact h x q
  · rw [List.mem_singleton.mp q]; exact hs
theorem Sh.app {ls ms : List Str} (h : Sh ls) (k : Sh ms) : Sh (ls ++ ms) := fun x hx => by
  rcases List.mem_append.mp hx with q | q
  · exact h x q
  · exact k x q
theorem strs_snoc {ls : List Str} {s : Str} : ls.map V.str ++ [.str s] = (ls ++ [s]).map V.str := by rw [List.map_append]; rfl
theorem lit1 : ((" " : Str)).length ≤ 8 := by decide +kernel
theorem lit2 : ((" to " : Str)).length ≤ 8 := by decide +kernel
theorem lit3 : ((" misses " : Str)).length ≤ 8 := by decide +kernel
def spMarkLines (K : PySem.W.Frag) : Sp := fun vs H Q _ => ∃ (N : Net) (hp : Addr) (h : List Int), vs = [.ref N.a, .ref hp] ∧ NetAt H N ∧ NG N ∧ Ints K H hp h ∧ h.length = N.n ∧ (∀ j, j < N.n → Sml (gi h j)) ∧
  ∀ l H', Same H H' → H' l = some (.lst ((marksTo N h (loN N) (hiN N) N.n).map V.str)) → Sh (marksTo N h (loN N) (hiN N) N.n) → Q (.ref l) H'
theorem ok_mark_lines (A : All K mg) : FnOk P w K mg base CX0 10 A.a_mark_lines A.d_mark_lines ["net", "heights"] (spMarkLines K) := by
  refine A.F_mark_lines.ok sc_mark_lines (fun vs H Q E h => ?_) (fun cdv A' outer s H vs Q E hr h => ?_)
  · obtain ⟨N, hp, h, rfl, _⟩ := h
    rfl
  · obtain ⟨N, hp, h, rfl, hNt, g, ih, lh, hb, k⟩ := h
    refine ⟨_, (pss_cons (ps_set (i := 2) sc_mark_lines.nd rfl (by first | exact Or.inl rfl | exact Or.inr rfl) (pe_lst pa_nil)) (pss_cons (ps_set (i := 3) sc_mark_lines.nd rfl (by first | exact Or.inl rfl | exact Or.inr rfl) (pe_call (ok_spans A) hr (by rfl) A.g_spans A.F_spans.kp A.b_spans .nil pass0 (pa_cons (pv 0) pa_nil))) (pss_cons (ps_for PassesOwn.never rfl (pi_range1 rfl A.z_range (pa_cons (pe_callB (call_lenA K rfl) (by rfl) A.z_len (by decide +kernel) (pa_cons (pe_ix (ix_A K rfl) (pv 0) pe_int (fun _ _ => rfl)) pa_nil)) pa_nil)) (pg_name (i := 4) sc_mark_lines.nd rfl (by first | exact Or.inl rfl | exact Or.inr rfl)) (pss_cons (ps_set (i := 5) sc_mark_lines.nd rfl (by first | exact Or.inl rfl | exact Or.inr rfl) (pe_op op_addS (pe_op op_addS (pe_ix (ix_A K rfl) (pe_ix (ix_A K rfl) (pv 0) pe_int (fun _ _ => rfl)) (pv 4) (fun _ _ => rfl)) pe_str) (pe_callTy call_strA (by rfl) A.z_str (by decide +kernel) (pa_cons (pe_ix (ix_A K rfl) (pv 1) (pv 4) (fun _ _ => rfl)) pa_nil)))) (pss_cons (ps_if (pt_cmpR op_ne (pe_ix (ix_A K rfl) (pe_ix (ix_A K rfl) (pv 3) (pv 4) (fun _ _ => rfl)) pe_int (fun _ _ => rfl)) (pe_ix (ix_A K rfl) (pe_ix (ix_A K rfl) (pv 3) (pv 4) (fun _ _ => rfl)) pe_int (fun _ _ => rfl)) (nomark _)) (pss_one (ps_set (i := 5) sc_mark_lines.nd rfl (by first | exact Or.inl rfl | exact Or.inr rfl) (pe_op op_addS (pe_op op_addS (pe_op op_addS (pe_op op_addS (pv 5) pe_str) (pe_callTy call_strA (by rfl) A.z_str (by decide +kernel) (pa_cons (pe_ix (ix_A K rfl) (pe_ix (ix_A K rfl) (pv 3) (pv 4) (fun _ _ => rfl)) pe_int (fun _ _ => rfl)) pa_nil))) pe_str) (pe_callTy call_strA (by rfl) A.z_str (by decide +kernel) (pa_cons (pe_ix (ix_A K rfl) (pe_ix (ix_A K rfl) (pv 3) (pv 4) (fun _ _ => rfl)) pe_int (fun _ _ => rfl)) pa_nil))))) pss_nil) (pss_one (ps_expr (pe_bm PySem.F.plainAttrs_list PySem.F.slot_list_append PySem.F.type_list_append mt_append (pv 2) (pa_cons (pv 5) pa_nil))))))) (pss_one (ps_ret (pv 2)))))), ?_⟩
    have n4 := g.ok.n4
    walk_at "go"
    refine w_newL (sz rfl) fun l H1 nl s1 e1 => ?_
    walk_at "go"
    refine ⟨N, rfl, hNt.same s1, g.ok, g.jn, fun tp H2 s2 ⟨ps, etp, lps, eps⟩ => ?_⟩
    have s02 := s1.trans s2
    have hN2 := hNt.same s02
    walk_at "go"
    refine w_ixT hN2.a (atI_nat (j := 1) rfl) ?_
    walk_at "go"
    refine w_lenT hN2.m ?_
    rw [List.length_map]
    walk_at "go"
    refine ⟨(N.n : Int), rfl, by omega, by omega, ?_⟩
    rw [Int.toNat_natCast]
    refine fo walk_r0 (fun i σ H' => ∃ x4 x5, σ = [some (.ref N.a), some (.ref hp), some (.ref l), some (.ref tp), x4, x5] ∧ Same H H' ∧ Tp H2 H' ∧ H' l = some (.lst ((marksTo N h (loN N) (hiN N) i).map V.str)) ∧ Sh (marksTo N h (loN N) (hiN N) i))
      ⟨none, none, rfl, s02, Tp.refl _, s2 _ _ e1, Sh.nil⟩ (fun _ _ _ _ _ => trivial) ?_ ?_
    · rintro i x σ H3 H4 hi ⟨x4, x5, rfl, s3, t3, e3, sh3⟩ ⟨rfl, rfl⟩
      have hN3 := hNt.same s3
      have ih3 := ih.same s3
      have l3 := marks_len N h (loN N) (hiN N) i
      have up : marksTo N h (loN N) (hiN N) (i + 1) = marksTo N h (loN N) (hiN N) i ++ [markLine N (gi h i) (gi (loN N) i) (gi (hiN N) i) i] := rfl
      rw [up]
      generalize marksTo N h (loN N) (hiN N) i = ms at *
      have hn := g.nl hi
      have hx := hb i hi
      obtain ⟨b1, b2⟩ := g.sp hi
      have hlo : Sml (gi (loN N) i) := by unfold Sml; omega
      have hhi : Sml (gi (hiN N) i) := by unfold Sml; omega
      have etp3 := t3 _ _ etp
      have er3 := t3 _ _ (eps i hi)
      walk_at "go"
      refine w_ixT hN3.a (atI_nat (j := 1) rfl) ?_
      walk_at "go"
      refine w_ixT hN3.m (at_nm hi) ?_
      walk_at "go"
      refine w_addS hn lit1 rfl fun z1 => ?_
      walk_at "go"
      refine ih3.ix (by omega) ?_
      walk_at "go"
      refine w_str hx ?_
      refine w_addS z1 (sI_len hx) rfl fun z2 => ?_
      walk_at "go"
      refine w_ixT etp3 (at_ref (by omega)) ?_
      walk_at "go"
      refine w_ixT er3 (atI_nat (j := 0) rfl) ?_
      walk_at "go"
      refine w_ixT etp3 (at_ref (by omega)) ?_
      walk_at "go"
      refine w_ixT er3 (atI_nat (j := 1) rfl) ?_
      walk_at "go"
      unfold markLine
      refine w_ifn (fun c => ?_) (fun c => ?_)
      · rw [if_neg c]
        walk_at "go"
        refine w_addS z2 lit1 rfl fun z3 => ?_
        walk_at "go"
        refine w_ixT etp3 (at_ref (by omega)) ?_
        walk_at "go"
        refine w_ixT er3 (atI_nat (j := 0) rfl) ?_
        walk_at "go"
        refine w_str hlo ?_
        refine w_addS z3 (sI_len hlo) rfl fun z4 => ?_
        walk_at "go"
        refine w_addS z4 lit2 rfl fun z5 => ?_
        walk_at "go"
        refine w_ixT etp3 (at_ref (by omega)) ?_
        walk_at "go"
        refine w_ixT er3 (atI_nat (j := 1) rfl) ?_
        walk_at "go"
        refine w_str hhi ?_
        refine w_addS z5 (sI_len hhi) rfl fun z6 => ?_
        walk_at "go"
        refine ⟨tyL e3, ?_⟩
        walk_at "go"
        refine w_app e3 (by rw [List.length_map]; omega) fun H5 m5 e5 => ?_
        rw [strs_snoc] at e5
        walk_at "go"
        exact ⟨_, _, rfl, same_sm s3 m5 nl, t3.trans (Tp.sm m5 e3), e5, sh3.snoc (by omega)⟩
      · rw [if_pos c]
        walk_at "go"
        refine ⟨tyL e3, ?_⟩
        walk_at "go"
        refine w_app e3 (by rw [List.length_map]; omega) fun H5 m5 e5 => ?_
        rw [strs_snoc] at e5
        walk_at "go"
        exact ⟨_, _, rfl, same_sm s3 m5 nl, t3.trans (Tp.sm m5 e3), e5, sh3.snoc (by omega)⟩
    · rintro σ H3 ⟨x4, x5, rfl, s3, t3, e3, sh3⟩
      walk_at "go"
      exact k l H3 s3 e3 sh3
end
end TW

namespace TW
open PySem L2
/-- one step of a reading -/
local macro_rules | `(tactic| walk_at "st") => `(tactic| first
  | with_reducible refine w_seq ?_ | with_reducible refine w_next ?_ | with_reducible refine w_nx ?_ | with_reducible refine w_rt ?_ | with_reducible refine w_asg ?_ | with_reducible refine w_name ?_
  | with_reducible refine w_op ?_ | with_reducible refine w_un ?_ | with_reducible refine w_var rfl ?_ | with_reducible refine w_c ?_ | with_reducible refine w_ret ?_ | with_reducible refine w_drop ?_
  | with_reducible refine w_if ?_ | with_reducible refine w_test ?_ | with_reducible refine w_tB ?_ | with_reducible refine w_k ?_ | with_reducible refine w_and ?_ | with_reducible refine w_or ?_ | with_reducible refine w_yes ?_
  | with_reducible refine w_nil ?_ | with_reducible refine w_cons ?_ | with_reducible refine w_cb ?_ | with_reducible refine w_call ?_ | with_reducible refine w_I0 ?_ | with_reducible refine w_neg ?_
  | with_reducible refine w_eqI ?_ | with_reducible refine w_neI ?_ | with_reducible refine w_abs ?_ | with_reducible refine w_min2 ?_ | with_reducible refine w_intI ?_ | with_reducible refine w_intB ?_
  | with_reducible refine w_isN0 ?_ | with_reducible refine w_isN1 ?_ | with_reducible refine w_isN2 ?_ | with_reducible refine w_noN0 ?_ | with_reducible refine w_noN1 ?_ | with_reducible refine w_noN2 ?_
  | with_reducible refine w_sub ?_ | with_reducible refine w_for ?_ | with_reducible refine w_lc ?_ | with_reducible refine w_iT ?_ | with_reducible refine w_iL ?_ | with_reducible refine w_iE ?_ | with_reducible refine w_iEl ?_
  | with_reducible refine w_iZ ?_ | with_reducible refine w_iR1 ?_ | with_reducible refine w_iR2 ?_ | with_reducible refine w_gc ?_ | with_reducible refine w_gn ?_ | with_reducible refine w_bm ?_ | with_reducible refine w_sfld ?_ | with_reducible refine w_tfld ?_ | with_reducible refine w_meth ?_ | with_reducible refine w_make ?_ | with_reducible refine w_tup ?_ | with_reducible refine w_lst ?_)
local macro_rules | `(tactic| walk_at "go") => `(tactic| repeat walk_at "st")
local macro_rules | `(tactic| walk_at "nx") => `(tactic| repeat (first | with_reducible refine w_next ?_ | with_reducible refine w_nx ?_ | with_reducible refine w_name ?_ | with_reducible refine w_gc ?_ | with_reducible refine w_gn ?_))

open TL (Rd rat miss gi absI Stp BF go PW Le SS AW VW WW)
section
variable {P : Program} {w : World} {K : PySem.W.Frag} {mg : Str → Option Value} {base : Heap}
def spReadingLines (K : PySem.W.Frag) : Sp := fun vs H Q _ => ∃ (N : Net) (hp : Addr) (h : List Int), vs = [.ref N.a, .ref hp] ∧ NetAt H N ∧ NG N ∧ Ints K H hp h ∧ h.length = N.n ∧ (∀ j, j < N.n → -4000000 ≤ gi h j ∧ gi h j ≤ 4000000) ∧
  ∀ l H', Same H H' → H' l = some (.lst ((readsTo N h N.rs.length).map V.str)) → Sh (readsTo N h N.rs.length) → Q (.ref l) H'
theorem ok_reading_lines (A : All K mg) : FnOk P w K mg base CX0 3 A.a_reading_lines A.d_reading_lines ["net", "heights"] (spReadingLines K) := by
  refine A.F_reading_lines.ok sc_reading_lines (fun vs H Q E h => ?_) (fun cdv A' outer s H vs Q E hr h => ?_)
  · obtain ⟨N, hp, h, rfl, _⟩ := h
    rfl
  · obtain ⟨N, hp, h, rfl, hNt, g, ih, lh, hb, k⟩ := h
    refine ⟨_, (pss_cons (ps_set (i := 2) sc_reading_lines.nd rfl (by first | exact Or.inl rfl | exact Or.inr rfl) (pe_lst pa_nil)) (pss_cons (ps_for PassesOwn.never rfl (RZ.pi_zipA (by rfl) A.z_zip (pa_cons (pe_ix (ix_A K rfl) (pv 0) pe_int (fun _ _ => rfl)) (pa_cons (pe_call (ok_misses A) hr (by rfl) A.g_misses A.F_misses.kp A.b_misses .nil pass0 (pa_cons (pv 0) (pa_cons (pv 1) pa_nil))) pa_nil))) (pg_tupA K rfl rfl (pgs_cons (pg_name (i := 3) sc_reading_lines.nd rfl (by first | exact Or.inl rfl | exact Or.inr rfl)) (pgs_cons (pg_name (i := 4) sc_reading_lines.nd rfl (by first | exact Or.inl rfl | exact Or.inr rfl)) pgs_nil))) (pss_cons (ps_set (i := 5) sc_reading_lines.nd rfl (by first | exact Or.inl rfl | exact Or.inr rfl) (pe_op op_addS (pe_op op_addS (pe_op op_addS (pe_op op_addS (pe_ix (ix_A K rfl) (pe_ix (ix_A K rfl) (pv 0) pe_int (fun _ _ => rfl)) (pe_ix (ix_A K rfl) (pv 3) pe_int (fun _ _ => rfl)) (fun _ _ => rfl)) pe_str) (pe_ix (ix_A K rfl) (pe_ix (ix_A K rfl) (pv 0) pe_int (fun _ _ => rfl)) (pe_ix (ix_A K rfl) (pv 3) pe_int (fun _ _ => rfl)) (fun _ _ => rfl))) pe_str) (pe_callTy call_strA (by rfl) A.z_str (by decide +kernel) (pa_cons (pe_ix (ix_A K rfl) (pv 3) pe_int (fun _ _ => rfl)) pa_nil)))) (pss_cons (ps_if (pt_cmpR op_ne (pv 4) pe_int (nomark _)) (pss_one (ps_set (i := 5) sc_reading_lines.nd rfl (by first | exact Or.inl rfl | exact Or.inr rfl) (pe_op op_addS (pe_op op_addS (pv 5) pe_str) (pe_callTy call_strA (by rfl) A.z_str (by decide +kernel) (pa_cons (pv 4) pa_nil))))) pss_nil) (pss_one (ps_expr (pe_bm PySem.F.plainAttrs_list PySem.F.slot_list_append PySem.F.type_list_append mt_append (pv 2) (pa_cons (pv 5) pa_nil))))))) (pss_one (ps_ret (pv 2))))), ?_⟩
    have n4 := g.ok.n4
    have r9 := g.ok.r9
    walk_at "go"
    refine w_newL (sz rfl) fun l H1 nl s1 e1 => ?_
    walk_at "go"
    refine w_ixT (s1 _ _ hNt.a) (atI_nat (j := 2) rfl) ?_
    walk_at "go"
    refine ⟨N, hp, h, rfl, hNt.same s1, g.ok, ih.same s1, lh, fun mp H2 s2 nmp emp => ?_⟩
    have s02 := s1.trans s2
    walk_at "go"
    have lp : (N.ps.map V.ref).length = N.rs.length := by rw [List.length_map, hNt.pl]
    have lm : ((missesL N.rs h).map V.int).length = N.rs.length := by simp [missesL]
    refine ⟨N.t, mp, _, _, rfl, .inr ⟨SqT.of (s02 _ _ hNt.t), SqT.of emp, ?_⟩⟩
    refine fo (walk_zipT (by rw [lp, lm])) (fun i σ H' => ∃ x3 x4 x5, σ = [some (.ref N.a), some (.ref hp), some (.ref l), x3, x4, x5] ∧ Same H H' ∧ Tp H2 H' ∧ H' l = some (.lst ((readsTo N h i).map V.str)) ∧ Sh (readsTo N h i))
      ⟨none, none, none, rfl, s02, Tp.refl _, s2 _ _ e1, Sh.nil⟩ (fun i σ H' _ ⟨_, _, _, _, s', t', _⟩ => ⟨s'.tup hNt.t, SqT.of (t' _ _ emp)⟩) ?_ ?_
    · rintro i x σ H3 H4 hi ⟨x3, x4, x5, rfl, s3, t3, e3, sh3⟩ ⟨T, u, v, rfl, nT, rfl, hu, hv⟩
      rw [lp] at hi
      have s4 : Same H3 (upd H3 T (.tup [u, v])) := same_new nT
      have s04 := s3.trans s4
      have hN4 := hNt.same s04
      obtain ⟨eu, er⟩ := rat_at hN4 hi hu
      subst eu
      have ev : v = .int (miss (rat N.rs i) h) := by
        have h1 := at_int (hs := missesL N.rs h) (j := i) (by simp [missesL]; exact hi)
        have h2 : atI ((missesL N.rs h).map V.int) (i : Int) = some v := atI_nat hv
        rw [h1, missesL_at hi] at h2
        exact (Option.some.inj h2).symm
      subst ev
      have l3 := reads_len N h i
      have up : readsTo N h (i + 1) = readsTo N h i ++ [readLine N (rat N.rs i) (miss (rat N.rs i) h)] := rfl
      rw [up]
      generalize readsTo N h i = ms at *
      have ha := g.ok.ok.a _ (TL.rat_mem hi)
      have hb' := g.ok.ok.b _ (TL.rat_mem hi)
      have hv1 := g.vb _ (TL.rat_mem hi)
      have hv : Sml (rat N.rs i).v := by unfold Sml; omega
      have hm1 := g.ms hb hi
      have hm : Sml (miss (rat N.rs i) h) := by unfold Sml; omega
      have hna := g.nl ha
      have hnb := g.nl hb'
      have e4 := s4 _ _ e3
      refine w_gT upd_same rfl ?_
      generalize upd H3 T (.tup [.ref (N.ps.getD i 0), .int (miss (rat N.rs i) h)]) = H5 at *
      walk_at "go"
      refine w_ixT hN4.a (atI_nat (j := 1) rfl) ?_
      walk_at "go"
      refine w_ixT er (atI_nat (j := 0) rfl) (w_ixT hN4.m (at_nm ha) ?_)
      walk_at "go"
      refine w_addS hna lit2 rfl fun z1 => ?_
      walk_at "go"
      refine w_ixT hN4.a (atI_nat (j := 1) rfl) ?_
      walk_at "go"
      refine w_ixT er (atI_nat (j := 1) rfl) (w_ixT hN4.m (at_nm hb') ?_)
      refine w_addS z1 hnb rfl fun z2 => ?_
      walk_at "go"
      refine w_addS z2 lit1 rfl fun z3 => ?_
      walk_at "go"
      refine w_ixT er (atI_nat (j := 2) rfl) ?_
      walk_at "go"
      refine w_str hv ?_
      refine w_addS z3 (sI_len hv) rfl fun z4 => ?_
      walk_at "go"
      unfold readLine
      refine w_ifn (fun c => ?_) (fun c => ?_)
      · rw [if_neg c]
        walk_at "go"
        refine w_addS z4 lit3 rfl fun z5 => ?_
        walk_at "go"
        refine w_str hm ?_
        refine w_addS z5 (sI_len hm) rfl fun z6 => ?_
        walk_at "go"
        refine ⟨tyL e4, ?_⟩
        walk_at "go"
        refine w_app e4 (by rw [List.length_map]; omega) fun H6 m6 e6 => ?_
        rw [strs_snoc] at e6
        walk_at "go"
        exact ⟨_, _, _, rfl, same_sm s04 m6 nl, (t3.trans (Tp.of s4)).trans (Tp.sm m6 e4), e6, sh3.snoc (by omega)⟩
      · rw [if_pos c]
        walk_at "go"
        refine ⟨tyL e4, ?_⟩
        walk_at "go"
        refine w_app e4 (by rw [List.length_map]; omega) fun H6 m6 e6 => ?_
        rw [strs_snoc] at e6
        walk_at "go"
        exact ⟨_, _, _, rfl, same_sm s04 m6 nl, (t3.trans (Tp.of s4)).trans (Tp.sm m6 e4), e6, sh3.snoc (by omega)⟩
    · rintro σ H3 ⟨x3, x4, x5, rfl, s3, t3, e3, sh3⟩
      rw [lp] at e3 sh3
      walk_at "go"
      exact k l H3 s3 e3 sh3
/-! ### strength_lines -/
def strL (s t : Int) (n : Nat) : List Str := if n = 1 then [("strength none" : Str), ("safe against all" : Str)] else [("strength " : Str) ++ sI s, ("safe against " : Str) ++ sI t]
theorem lit4 : (("strength none" : Str)).length ≤ 20 := by decide +kernel
theorem lit5 : (("safe against all" : Str)).length ≤ 20 := by decide +kernel
theorem lit6 : (("strength " : Str)).length ≤ 20 := by decide +kernel
theorem lit7 : (("safe against " : Str)).length ≤ 20 := by decide +kernel
theorem lit8 : (("cost " : Str)).length ≤ 20 := by decide +kernel
theorem lit9 : (("\n" : Str)).length ≤ 20 := by decide +kernel
theorem strL_sh {s t : Int} (hs : Sml s) (ht : Sml t) (n : Nat) : Sh (strL s t n) ∧ (strL s t n).length = 2 := by
  have a := sI_len hs
  have b := sI_len ht
  have c := lit4
  have d := lit5
  have e := lit6
  have f := lit7
  unfold strL
  split
  · refine ⟨fun x hx => ?_, rfl⟩
    rcases List.mem_cons.mp hx with q | q
    · rw [q]; omega
    · rw [List.mem_singleton.mp q]; omega
  · refine ⟨fun x hx => ?_, rfl⟩
    rcases List.mem_cons.mp hx with q | q
    · rw [q, PySem.Str.length_append]; omega
    · rw [List.mem_singleton.mp q, PySem.Str.length_append]; omega
def spStrengthLines : Sp := fun vs H Q _ => ∃ N : Net, vs = [.ref N.a] ∧ NetAt H N ∧ NG N ∧ ∀ l H', Same H H' → H' l = some (.lst ((strL (strV N) (liesV N) N.n).map V.str)) → Q (.ref l) H'
theorem ok_strength_lines (A : All K mg) : FnOk P w K mg base CX0 7 A.a_strength_lines A.d_strength_lines ["net"] spStrengthLines := by
  refine A.F_strength_lines.ok sc_strength_lines (fun vs H Q E h => ?_) (fun cdv A' outer s H vs Q E hr h => ?_)
  · obtain ⟨N, rfl, _⟩ := h
    rfl
  · obtain ⟨N, rfl, hNt, g, k⟩ := h
    refine ⟨_, (pss_cons (ps_if (pt_cmpR op_eq (pe_callB (call_lenA K rfl) (by rfl) A.z_len (by decide +kernel) (pa_cons (pe_ix (ix_A K rfl) (pv 0) pe_int (fun _ _ => rfl)) pa_nil)) pe_int (nomark _)) (pss_one (ps_ret (pe_lst (pa_cons pe_str (pa_cons pe_str pa_nil))))) pss_nil) (pss_one (ps_ret (pe_lst (pa_cons (pe_op op_addS pe_str (pe_callTy call_strA (by rfl) A.z_str (by decide +kernel) (pa_cons (pe_call (ok_strength A) (hr.mono (by decide)) (by rfl) A.g_strength A.F_strength.kp A.b_strength .nil pass0 (pa_cons (pv 0) pa_nil)) pa_nil))) (pa_cons (pe_op op_addS pe_str (pe_callTy call_strA (by rfl) A.z_str (by decide +kernel) (pa_cons (pe_call (ok_most_lies A) hr (by rfl) A.g_most_lies A.F_most_lies.kp A.b_most_lies .nil pass0 (pa_cons (pv 0) pa_nil)) pa_nil))) pa_nil)))))), ?_⟩
    walk_at "go"
    refine w_ixT hNt.a (atI_nat (j := 1) rfl) ?_
    walk_at "go"
    refine w_lenT hNt.m ?_
    rw [List.length_map]
    walk_at "go"
    unfold strL at k
    refine w_ifd (fun c => ?_) (fun c => ?_)
    · rw [if_pos (show N.n = 1 by show N.nm.length = 1; omega)] at k
      walk_at "go"
      refine w_newL (sz rfl) fun l H1 nl s1 e1 => ?_
      walk_at "go"
      exact k l H1 s1 e1
    · rw [if_neg (show ¬ N.n = 1 by show ¬ N.nm.length = 1; omega)] at k
      have hs : Sml (strV N) := by have := g.st; unfold Sml; omega
      have hl : Sml (liesV N) := by have := g.li; unfold Sml; omega
      walk_at "go"
      refine ⟨N, rfl, hNt, g.ok, fun H1 s1 => ?_⟩
      walk_at "go"
      refine w_str hs (w_addS lit6 (sI_len hs) rfl fun z1 => ?_)
      walk_at "go"
      refine ⟨N, rfl, hNt.same s1, g.ok, fun H2 s2 => ?_⟩
      walk_at "go"
      refine w_str hl (w_addS lit7 (sI_len hl) rfl fun z2 => ?_)
      walk_at "go"
      refine w_newL (sz rfl) fun l H3 nl s3 e3 => ?_
      walk_at "go"
      exact k l H3 ((s1.trans s2).trans s3) e3
/-! ### report -/
noncomputable def repL (N : Net) (h lo hi : List Int) (c s t : Int) : List Str := marksTo N h lo hi N.n ++ readsTo N h N.rs.length ++ [("cost " : Str) ++ sI c] ++ strL s t N.n
def nl_ (s : Str) : Str := s ++ ("\n" : Str)
noncomputable def repT (N : Net) (h lo hi : List Int) (c s t : Int) : Str := Txt.join ("" : Str) ((repL N h lo hi c s t).map nl_)
def spReport : Sp := fun vs H Q _ => ∃ N : Net, vs = [.ref N.a] ∧ NetAt H N ∧ NG N ∧ ∀ H', Same H H' → Q (.str (repT N (bestH N) (loN N) (hiN N) (costL N.rs (bestH N)) (strV N) (liesV N))) H'
theorem sh_sum : ∀ ls : List Str, Sh ls → ((ls.map nl_).map (·.length)).sum ≤ ls.length * 20020
  | [], _ => by simp
  | s :: ls, h => by
    have := sh_sum ls fun x hx => h x (List.mem_cons_of_mem _ hx)
    have := h s List.mem_cons_self
    have e : (nl_ s).length = s.length + (("\n" : Str)).length := PySem.Str.length_append _ _
    have := lit9
    simp only [List.map_cons, List.sum_cons, List.length_cons, e]
    omega
theorem w_tM1 {r : V → List V → Hp → VK → Prop} {to te : TE} {σ : L2.St} {H : Hp} {Q : VK} (h : to σ H fun x H1 => (∃ a, x = .str a) ∧ te σ H1 fun y H2 => r x [y] H2 Q) : tM1 r to te σ H Q := h
/-- the lines of a comprehension with an end of line each -/
theorem ok_report (A : All K mg) : FnOk P w K mg base CX0 11 A.a_report A.d_report ["net"] spReport := by
  refine A.F_report.ok sc_report (fun vs H Q E h => ?_) (fun cdv A' outer s H vs Q E hr h => ?_)
  · obtain ⟨N, rfl, _⟩ := h
    rfl
  · obtain ⟨N, rfl, hNt, g, k⟩ := h
    refine ⟨_, (pss_cons (ps_set (i := 1) sc_report.nd rfl (by first | exact Or.inl rfl | exact Or.inr rfl) (pe_ix (ix_A K rfl) (pe_call (ok_best_paper A) (hr.mono (by decide)) (by rfl) A.g_best_paper A.F_best_paper.kp A.b_best_paper .nil pass0 (pa_cons (pv 0) pa_nil)) pe_int (fun _ _ => rfl))) (pss_cons (ps_set (i := 2) sc_report.nd rfl (by first | exact Or.inl rfl | exact Or.inr rfl) (pe_op op_cat (pe_op op_cat (pe_call (ok_mark_lines A) hr (by rfl) A.g_mark_lines A.F_mark_lines.kp A.b_mark_lines .nil pass0 (pa_cons (pv 0) (pa_cons (pv 1) pa_nil))) (pe_call (ok_reading_lines A) (hr.mono (by decide)) (by rfl) A.g_reading_lines A.F_reading_lines.kp A.b_reading_lines .nil pass0 (pa_cons (pv 0) (pa_cons (pv 1) pa_nil)))) (pe_lst (pa_cons (pe_op op_addS pe_str (pe_callTy call_strA (by rfl) A.z_str (by decide +kernel) (pa_cons (pe_call (ok_cost A) (hr.mono (by decide)) (by rfl) A.g_cost A.F_cost.kp A.b_cost .nil pass0 (pa_cons (pv 0) (pa_cons (pv 1) pa_nil))) pa_nil))) pa_nil)))) (pss_one (ps_ret (pe_join pe_str (pe_lc (own := [("line", 3)]) (g := (gName 3)) (tt := tYes) rfl sc_report.nd (pi_list (pe_op op_cat (pv 2) (pe_call (ok_strength_lines A) (hr.mono (by decide)) (by rfl) A.g_strength_lines A.F_strength_lines.kp A.b_strength_lines .nil pass0 (pa_cons (pv 0) pa_nil)))) (blkOk_by (own := [("line", 3)]) (N := ["net", "heights", "lines", "line"]) (sc := defScope s_report) (by decide +kernel)) (fun _ _ _ _ _ => (pg_name (i := 3) sc_report.nd rfl (by first | exact Or.inl rfl | exact Or.inr rfl))) (fun _ _ _ _ _ => pts_nil) (fun _ _ _ _ _ => (pe_op op_addS (pv 3) pe_str)))))))), ?_⟩
    have n4 := g.ok.n4
    have r9 := g.ok.r9
    have bo := best_ok g.ok
    have hb : ∀ j, j < N.n → -4000000 ≤ gi (bestH N) j ∧ gi (bestH N) j ≤ 4000000 := fun j hj => g.bh hj
    have hc := g.co hb
    have hst : Sml (strV N) := by have := g.st; unfold Sml; omega
    have hli : Sml (liesV N) := by have := g.li; unfold Sml; omega
    obtain ⟨shs, lss⟩ := strL_sh hst hli N.n
    walk_at "go"
    refine ⟨N, rfl, hNt, g.ok, fun bp hp fp H1 s1 eb eh ef => ?_⟩
    walk_at "go"
    refine w_ixT eb (atI_nat (j := 1) rfl) ?_
    walk_at "go"
    refine ⟨N, hp, _, rfl, hNt.same s1, g, .inr (SqT.of eh), bo.lh, fun j hj => by have := hb j hj; unfold Sml; omega, fun l2 H2 s2 e2 sh2 => ?_⟩
    walk_at "go"
    refine ⟨N, hp, _, rfl, hNt.same (s1.trans s2), g, .inr (SqT.of (s2 _ _ eh)), bo.lh, hb, fun l3 H3 s3 e3 sh3 => ?_⟩
    refine w_cat (s3 _ _ e2) e3 (by simp only [List.length_map, marks_len, reads_len]; omega) fun l4 H4 n4' s4 e4 => ?_
    have s04 := s1.trans (s2.trans (s3.trans s4))
    have eh4 := s4 _ _ (s3 _ _ (s2 _ _ eh))
    walk_at "go"
    refine ⟨N, hp, _, rfl, hNt.same s04, g.ok, .inr (SqT.of eh4), bo.lh, fun H5 s5 => ?_⟩
    walk_at "go"
    refine w_str hc (w_addS lit8 (sI_len hc) rfl fun z5 => ?_)
    walk_at "go"
    refine w_newL (sz rfl) fun l6 H6 n6 s6 e6 => ?_
    refine w_cat (s6 _ _ (s5 _ _ e4)) e6 (by simp only [List.length_append, List.length_map, marks_len, reads_len, List.length_cons, List.length_nil]; omega) fun l7 H7 n7 s7 e7 => ?_
    have s07 := s04.trans (s5.trans (s6.trans s7))
    walk_at "go"
    refine w_tM1 ?_
    walk_at "go"
    refine ⟨⟨_, rfl⟩, ?_⟩
    walk_at "go"
    refine ⟨N, rfl, hNt.same s07, g, fun l8 H8 s8 e8 => ?_⟩
    refine w_cat (s8 _ _ e7) e8 (by simp only [List.length_append, List.length_map, marks_len, reads_len, List.length_cons, List.length_nil, lss]; omega) fun l9 H9 n9 s9 e9 => ?_
    have e9' : H9 l9 = some (.lst ((repL N (bestH N) (loN N) (hiN N) (costL N.rs (bestH N)) (strV N) (liesV N)).map V.str)) := by
      rw [e9]
      unfold repL
      simp only [List.map_append, List.map_cons, List.map_nil]
    have shr : Sh (repL N (bestH N) (loN N) (hiN N) (costL N.rs (bestH N)) (strV N) (liesV N)) := ((sh2.app sh3).snoc (by omega)).app shs
    have lr : (repL N (bestH N) (loN N) (hiN N) (costL N.rs (bestH N)) (strV N) (liesV N)).length ≤ 20 := by
      unfold repL
      simp only [List.length_append, marks_len, reads_len, List.length_cons, List.length_nil, lss]
      omega
    have k' := k
    unfold repT at k'
    generalize repL N (bestH N) (loN N) (hiN N) (costL N.rs (bestH N)) (strV N) (liesV N) = rl at *
    refine ⟨l9, rfl, ⟨_, SqL.of e9'⟩, fun L nL => ?_⟩
    refine lc walk_list (by rw [List.length_map]; omega) nL (fun i acc _ => acc = ((rl.take i).map nl_).map V.str) (fun _ _ _ => rfl) (fun i acc H' s' _ => s'.lst e9') ?_ ?_
    · rintro i acc x H10 H11 F No hi s10 eL ea ⟨rfl, hx⟩ hF _
      rw [List.length_map] at hi
      rw [List.getElem?_map, List.getElem?_eq_getElem hi] at hx
      cases hx
      have hsh := shr _ (List.getElem_mem hi)
      walk_at "go"
      refine ⟨rfl, ?_⟩
      walk_at "go"
      rw [if_pos rfl]
      walk_at "go"
      refine w_addS hsh lit9 rfl fun z => ?_
      refine hF _ _ (Same.refl _) fun H5 _ _ _ _ => ?_
      rw [ea, take_map (List.getElem?_eq_getElem hi), List.map_append]
      rfl
    · intro acc H10 s10 eL _ ea
      rw [List.length_map, take_all] at ea
      have sm := sh_sum rl shr
      refine ⟨_, L, rl.map nl_, rfl, rfl, .inl (SqL.of (by rw [eL, ea])), ?_, ?_⟩
      · rw [List.length_map]
        have : (Str.ofString "").length = 0 := by decide +kernel
        rw [this]
        omega
      · walk_at "go"
        exact k' H10 (s07.trans (s8.trans (s9.trans s10)))
end
end TW

namespace TW
open PySem L2
/-- one step of a reading -/
local macro_rules | `(tactic| walk_at "st") => `(tactic| first
  | with_reducible refine w_seq ?_ | with_reducible refine w_next ?_ | with_reducible refine w_nx ?_ | with_reducible refine w_rt ?_ | with_reducible refine w_asg ?_ | with_reducible refine w_name ?_
  | with_reducible refine w_op ?_ | with_reducible refine w_un ?_ | with_reducible refine w_var rfl ?_ | with_reducible refine w_c ?_ | with_reducible refine w_ret ?_ | with_reducible refine w_drop ?_
  | with_reducible refine w_if ?_ | with_reducible refine w_test ?_ | with_reducible refine w_tB ?_ | with_reducible refine w_k ?_ | with_reducible refine w_and ?_ | with_reducible refine w_or ?_ | with_reducible refine w_yes ?_
  | with_reducible refine w_nil ?_ | with_reducible refine w_cons ?_ | with_reducible refine w_cb ?_ | with_reducible refine w_call ?_ | with_reducible refine w_I0 ?_ | with_reducible refine w_neg ?_
  | with_reducible refine w_eqI ?_ | with_reducible refine w_neI ?_ | with_reducible refine w_abs ?_ | with_reducible refine w_min2 ?_ | with_reducible refine w_intI ?_ | with_reducible refine w_intB ?_
  | with_reducible refine w_isN0 ?_ | with_reducible refine w_isN1 ?_ | with_reducible refine w_isN2 ?_ | with_reducible refine w_noN0 ?_ | with_reducible refine w_noN1 ?_ | with_reducible refine w_noN2 ?_
  | with_reducible refine w_sub ?_ | with_reducible refine w_for ?_ | with_reducible refine w_lc ?_ | with_reducible refine w_iT ?_ | with_reducible refine w_iL ?_ | with_reducible refine w_iE ?_ | with_reducible refine w_iEl ?_
  | with_reducible refine w_iZ ?_ | with_reducible refine w_iR1 ?_ | with_reducible refine w_iR2 ?_ | with_reducible refine w_gc ?_ | with_reducible refine w_gn ?_ | with_reducible refine w_bm ?_ | with_reducible refine w_sfld ?_ | with_reducible refine w_tfld ?_ | with_reducible refine w_meth ?_ | with_reducible refine w_make ?_ | with_reducible refine w_tup ?_ | with_reducible refine w_lst ?_)
local macro_rules | `(tactic| walk_at "go") => `(tactic| repeat walk_at "st")
local macro_rules | `(tactic| walk_at "nx") => `(tactic| repeat (first | with_reducible refine w_next ?_ | with_reducible refine w_nx ?_ | with_reducible refine w_name ?_ | with_reducible refine w_gc ?_ | with_reducible refine w_gn ?_))

open TL (Rd rat miss gi absI Stp BF go PW Le SS AW VW WW)
section
variable {P : Program} {w : World} {K : PySem.W.Frag} {mg : Str → Option Value} {base : Heap}
/-! ### the law's digits and draws -/
def spCell (K : PySem.W.Frag) : Sp := fun vs H Q _ => ∃ (a : Addr) (ns : List Int) (k : Nat), vs = [.ref a, .int (k : Int)] ∧ SqL K H a (ns.map V.int) ∧ ∀ i : Int, Q (.int i) H
theorem ok_law_cell (A : All K mg) : FnOk P w K mg base CX0 1 A.a_law_cell A.d_law_cell ["_law_script", "_law_k"] (spCell K) := by
  refine A.F_law_cell.ok sc_law_cell (fun vs H Q E h => ?_) (fun cdv A' outer s H vs Q E hr h => ?_)
  · obtain ⟨a, ns, k, rfl, _⟩ := h
    rfl
  · obtain ⟨a, ns, k, rfl, hs, q⟩ := h
    refine ⟨_, (pss_cons (ps_if (pt_cmpR op_lt (pv 1) (pe_callB (call_lenA K rfl) (by rfl) A.z_len (by decide +kernel) (pa_cons (pv 0) pa_nil)) (nomark _)) (pss_one (ps_ret (pe_ix (ix_A K rfl) (pv 0) (pv 1) (fun _ _ => rfl)))) pss_nil) (pss_one (ps_ret pe_int))), ?_⟩
    walk_at "go"
    refine ⟨a, _, rfl, .inl hs, ?_⟩
    rw [List.length_map]
    walk_at "go"
    refine w_ifd (fun c => ?_) (fun c => ?_)
    · walk_at "go"
      refine ⟨a, _, _, _, rfl, rfl, .inl hs, at_int (j := k) (by omega), ?_⟩
      walk_at "go"
      exact q _
    · walk_at "go"
      exact q _
theorem Same.sq {H H' : Hp} (s : Same H H') {a : Addr} {xs : List V} (h : SqL K H a xs) : SqL K H' a xs := s.seq h
def spDigits (K : PySem.W.Frag) : Sp := fun vs H Q _ => ∃ (a : Addr) (ns : List Int), vs = [.ref a, .int ((0 : Nat) : Int), .int ((63 : Nat) : Int)] ∧ SqL K H a (ns.map V.int) ∧ ∀ l, ∀ (ds : List Int) H', Same H H' → H l = none → H' l = some (.lst (ds.map V.int)) → Q (.ref l) H'
theorem ints_snoc {ds : List Int} {x : Int} : ds.map V.int ++ [.int x] = (ds ++ [x]).map V.int := by rw [List.map_append]; rfl
theorem ok_law_digits (A : All K mg) : FnOk P w K mg base CX0 2 A.a_law_digits A.d_law_digits ["_law_script", "_law_first", "_law_last"] (spDigits K) := by
  refine A.F_law_digits.ok sc_law_digits (fun vs H Q E h => ?_) (fun cdv A' outer s H vs Q E hr h => ?_)
  · obtain ⟨a, ns, rfl, _⟩ := h
    rfl
  · obtain ⟨a, ns, rfl, hs, q⟩ := h
    refine ⟨_, (pss_cons (ps_set (i := 3) sc_law_digits.nd rfl (by first | exact Or.inl rfl | exact Or.inr rfl) (pe_lst pa_nil)) (pss_cons (ps_for PassesOwn.never rfl (pi_range2 rfl A.z_range (pa_cons (pv 1) (pa_cons (pv 2) pa_nil))) (pg_name (i := 4) sc_law_digits.nd rfl (by first | exact Or.inl rfl | exact Or.inr rfl)) (pss_cons (ps_set (i := 5) sc_law_digits.nd rfl (by first | exact Or.inl rfl | exact Or.inr rfl) (pe_call (ok_law_cell A) hr (by rfl) A.g_law_cell A.F_law_cell.kp A.b_law_cell .nil pass0 (pa_cons (pv 0) (pa_cons (pv 4) pa_nil)))) (pss_cons (ps_if (pt_cmpR op_lt (pv 5) pe_int (nomark _)) (pss_one (ps_set (i := 5) sc_law_digits.nd rfl (by first | exact Or.inl rfl | exact Or.inr rfl) (pe_op op_sub pe_int (pe_op op_mul pe_int (pv 5))))) pss_nil) (pss_one (ps_if (pt_cmpR op_ge (pv 5) (pe_op op_pow pe_int pe_int) (nomark _)) (pss_one (ps_for PassesOwn.never rfl (pi_range1 rfl A.z_range (pa_cons pe_int pa_nil)) (pg_name (i := 6) sc_law_digits.nd rfl (by first | exact Or.inl rfl | exact Or.inr rfl)) (pss_one (ps_if (pt_cmpR op_gt (pv 5) pe_int (nomark _)) (pss_cons (ps_expr (pe_bm PySem.F.plainAttrs_list PySem.F.slot_list_append PySem.F.type_list_append mt_append (pv 3) (pa_cons (pe_op op_mod (pe_callTy call_intA (by rfl) A.z_int (by decide +kernel) (pa_cons (pv 5) pa_nil)) pe_int) pa_nil))) (pss_one (ps_set (i := 5) sc_law_digits.nd rfl (by first | exact Or.inl rfl | exact Or.inr rfl) (pe_op op_fdiv (pv 5) pe_int)))) pss_nil)))) (pss_cons (ps_set (i := 7) sc_law_digits.nd rfl (by first | exact Or.inl rfl | exact Or.inr rfl) (pe_op op_mod (pe_callTy call_intA (by rfl) A.z_int (by decide +kernel) (pa_cons (pe_op op_add (pe_op op_add (pe_op op_mul (pv 5) pe_int) (pe_op op_mul (pv 4) pe_int)) pe_int) pa_nil)) pe_int)) (pss_one (ps_for PassesOwn.never rfl (pi_range1 rfl A.z_range (pa_cons pe_int pa_nil)) (pg_name (i := 6) sc_law_digits.nd rfl (by first | exact Or.inl rfl | exact Or.inr rfl)) (pss_cons (ps_set (i := 7) sc_law_digits.nd rfl (by first | exact Or.inl rfl | exact Or.inr rfl) (pe_op op_mod (pe_callTy call_intA (by rfl) A.z_int (by decide +kernel) (pa_cons (pe_op op_add (pe_op op_add (pe_op op_mul (pv 7) pe_int) (pe_op op_mul pe_int (pv 6))) pe_int) pa_nil)) pe_int)) (pss_one (ps_expr (pe_bm PySem.F.plainAttrs_list PySem.F.slot_list_append PySem.F.type_list_append mt_append (pv 3) (pa_cons (pe_op op_mod (pe_callTy call_intA (by rfl) A.z_int (by decide +kernel) (pa_cons (pe_op op_fdiv (pv 7) pe_int) pa_nil)) pe_int) pa_nil))))))))))))) (pss_one (ps_ret (pv 3))))), ?_⟩
    walk_at "go"
    refine w_newL (sz rfl) fun l H1 nl s1 e1 => ?_
    walk_at "go"
    refine ⟨((0 : Nat) : Int), ((63 : Nat) : Int), rfl, by decide, ?_⟩
    refine fo (walk_r1 (m := 0) (n := 63)) (fun i σ H' => ∃ x4 x5 x6 x7, ∃ ds : List Int, σ = [some (.ref a), some (.int ((0 : Nat) : Int)), some (.int ((63 : Nat) : Int)), some (.ref l), x4, x5, x6, x7] ∧ Same H H' ∧ H' l = some (.lst (ds.map V.int)) ∧ ds.length ≤ 60 * i)
      ⟨none, none, none, none, [], rfl, s1, e1, Nat.le_refl _⟩ (fun _ _ _ _ _ => trivial) ?_ ?_
    · rintro i x σ H2 H3 hi ⟨x4, x5, x6, x7, ds, rfl, s2, e2, ld⟩ ⟨rfl, rfl⟩
      walk_at "go"
      refine ⟨a, ns, 0 + i, rfl, s2.seq hs, fun c => ?_⟩
      walk_at "st"
      walk_at "nx"
      with_reducible refine w_cut (fun σ' H' => ∃ c' : Int, σ' = [some (.ref a), some (.int ((0 : Nat) : Int)), some (.int ((63 : Nat) : Int)), some (.ref l), some (.int ((0 + i : Nat) : Int)), some (.int c'), x6, x7] ∧ H' = H3) ?_ ?_
      · intro nk hnk
        walk_at "go"
        refine w_ifd (fun cc => ?_) (fun cc => ?_)
        · walk_at "go"
          refine w_I (.inl ⟨by decide, by decide⟩) ?_
          walk_at "go"
          exact hnk _ _ ⟨_, rfl, rfl⟩
        · walk_at "go"
          exact hnk _ _ ⟨_, rfl, rfl⟩
      · rintro σ' H' ⟨c', rfl, rfl⟩
        walk_at "go"
        refine w_I ⟨by decide, by decide, by decide⟩ ?_
        walk_at "go"
        refine w_ifd (fun cc => ?_) (fun cc => ?_)
        · clear cc
          walk_at "go"
          refine ⟨60, rfl, by decide, by decide, ?_⟩
          refine fo (walk_r0 (n := 60)) (fun j σ H' => ∃ x5 x6 x7, ∃ ds : List Int, σ = [some (.ref a), some (.int ((0 : Nat) : Int)), some (.int ((63 : Nat) : Int)), some (.ref l), some (.int ((0 + i : Nat) : Int)), some (.int x5), x6, x7] ∧ Same H H' ∧ H' l = some (.lst (ds.map V.int)) ∧ ds.length ≤ 60 * i + j)
            ⟨_, _, _, ds, rfl, s2, e2, ld⟩ (fun _ _ _ _ _ => trivial) ?_ ?_
          · rintro j x σ H4 H5 hj ⟨y5, y6, y7, ds4, rfl, s4, e4, ld4⟩ ⟨rfl, rfl⟩
            walk_at "go"
            refine w_ifd (fun cc => ?_) (fun cc => ?_)
            · walk_at "go"
              refine ⟨tyL e4, ?_⟩
              walk_at "go"
              refine w_I (by decide) ?_
              walk_at "go"
              refine w_app e4 (by rw [List.length_map]; omega) fun H6 m6 e6 => ?_
              rw [ints_snoc] at e6
              walk_at "go"
              refine w_I ⟨by decide, by decide⟩ ?_
              walk_at "go"
              exact ⟨_, _, _, _, rfl, same_sm s4 m6 nl, e6, by rw [List.length_append, List.length_singleton]; omega⟩
            · walk_at "go"
              exact ⟨_, _, _, ds4, rfl, s4, e4, by omega⟩
          · rintro σ H4 ⟨y5, y6, y7, ds4, rfl, s4, e4, ld4⟩
            walk_at "go"
            exact ⟨_, _, _, _, ds4, rfl, s4, e4, by omega⟩
        · clear cc
          walk_at "go"
          refine w_I (.inr ⟨by decide, by decide⟩) ?_
          walk_at "go"
          refine w_I (.inr ⟨by decide, by decide⟩) ?_
          walk_at "go"
          refine w_I (by decide) ?_
          walk_at "go"
          refine ⟨12, rfl, by decide, by decide, ?_⟩
          refine fo (walk_r0 (n := 12)) (fun j σ H' => ∃ x6 x7, ∃ ds : List Int, σ = [some (.ref a), some (.int ((0 : Nat) : Int)), some (.int ((63 : Nat) : Int)), some (.ref l), some (.int ((0 + i : Nat) : Int)), some (.int c'), x6, some (.int x7)] ∧ Same H H' ∧ H' l = some (.lst (ds.map V.int)) ∧ ds.length ≤ 60 * i + j)
            ⟨_, _, ds, rfl, s2, e2, ld⟩ (fun _ _ _ _ _ => trivial) ?_ ?_
          · rintro j x σ H4 H5 hj ⟨y6, y7, ds4, rfl, s4, e4, ld4⟩ ⟨rfl, rfl⟩
            walk_at "go"
            refine w_I (.inr ⟨by decide, by decide⟩) ?_
            walk_at "go"
            refine w_I (.inl ⟨by decide, by decide⟩) ?_
            walk_at "go"
            refine w_I (by decide) ?_
            walk_at "go"
            refine ⟨tyL e4, ?_⟩
            walk_at "go"
            refine w_I ⟨by decide, by decide⟩ ?_
            walk_at "go"
            refine w_I (by decide) ?_
            walk_at "go"
            refine w_app e4 (by rw [List.length_map]; omega) fun H6 m6 e6 => ?_
            rw [ints_snoc] at e6
            walk_at "go"
            exact ⟨_, _, _, rfl, same_sm s4 m6 nl, e6, by rw [List.length_append, List.length_singleton]; omega⟩
          · rintro σ H4 ⟨y6, y7, ds4, rfl, s4, e4, ld4⟩
            walk_at "go"
            exact ⟨_, _, _, _, ds4, rfl, s4, e4, by omega⟩
    · rintro σ H2 ⟨x4, x5, x6, x7, ds, rfl, s2, e2, ld⟩
      walk_at "go"
      exact q l ds H2 s2 nl e2
/-! ### the box -/
structure BoxAt (H : Hp) (b dp : Addr) (ds : List Int) : Prop where
  bx : ∃ k : Nat, H b = some (.lst [.ref dp, .int (k : Int)])
  d : H dp = some (.lst (ds.map V.int))
  ne : dp ≠ b
def spDraw : Sp := fun vs H Q _ => ∃ (b dp : Addr) (ds : List Int) (n : Nat), vs = [.ref b, .int (n : Int)] ∧ BoxAt H b dp ds ∧ 0 < n ∧ ∀ (d : Nat) H', d < n → Sm [b] H H' → BoxAt H' b dp ds → Tp H H' → Q (.int (d : Int)) H'
theorem ok_law_draw (A : All K mg) : FnOk P w K mg base CX0 1 A.a_law_draw A.d_law_draw ["_law_box", "_law_many"] spDraw := by
  refine A.F_law_draw.ok sc_law_draw (fun vs H Q E h => ?_) (fun cdv A' outer s H vs Q E hr h => ?_)
  · obtain ⟨b, dp, ds, n, rfl, _⟩ := h
    rfl
  · obtain ⟨b, dp, ds, n, rfl, ⟨⟨k, eb⟩, ed, ne⟩, hn, q⟩ := h
    refine ⟨_, (pss_cons (ps_set (i := 2) sc_law_draw.nd rfl (by first | exact Or.inl rfl | exact Or.inr rfl) (pe_ix (ix_A K rfl) (pv 0) pe_int (fun _ _ => rfl))) (pss_cons (ps_asg (pe_op op_add (pv 2) pe_int) (pg_sub (pv 0) pe_int set_list)) (pss_cons (ps_if (pt_cmpR op_lt (pv 2) (pe_callB (call_lenA K rfl) (by rfl) A.z_len (by decide +kernel) (pa_cons (pe_ix (ix_A K rfl) (pv 0) pe_int (fun _ _ => rfl)) pa_nil)) (nomark _)) (pss_one (ps_ret (pe_op op_mod (pe_callTy call_intA (by rfl) A.z_int (by decide +kernel) (pa_cons (pe_ix (ix_A K rfl) (pe_ix (ix_A K rfl) (pv 0) pe_int (fun _ _ => rfl)) (pv 2) (fun _ _ => rfl)) pa_nil)) (pv 1)))) pss_nil) (pss_one (ps_ret (pe_op op_mod (pe_callTy call_intA (by rfl) A.z_int (by decide +kernel) (pa_cons (pe_op op_add (pe_op op_mul (pv 2) pe_int) pe_int) pa_nil)) (pv 1))))))), ?_⟩
    walk_at "go"
    refine w_ixL eb (atI_nat (j := 1) rfl) ?_
    walk_at "go"
    refine w_setL (n := 1) eb (by show 1 < 2; decide) fun H1 m1 e1 => ?_
    have e1' : H1 b = some (.lst [.ref dp, .int ((k + 1 : Nat) : Int)]) := by rw [e1]; rfl
    have ed1 := m1 _ _ (fun hm => ne (List.mem_singleton.mp hm)) ed
    have bx : BoxAt H1 b dp ds := ⟨⟨k + 1, e1'⟩, ed1, ne⟩
    have fin : ∀ (i : Int), Q (.int (i % (n : Int))) H1 := fun i => by
      have h1 : 0 ≤ i % (n : Int) := Int.emod_nonneg i (by omega)
      have h2 : i % (n : Int) < n := Int.emod_lt_of_pos i (by omega)
      have := q (i % (n : Int)).toNat H1 (by omega) m1 bx (Tp.sm m1 eb)
      rw [Int.toNat_of_nonneg h1] at this
      exact this
    walk_at "go"
    refine w_ixL e1' (atI_nat (j := 0) rfl) ?_
    walk_at "go"
    refine w_lenL ed1 ?_
    rw [List.length_map]
    walk_at "go"
    refine w_ifd (fun c => ?_) (fun c => ?_)
    · walk_at "go"
      refine w_ixL e1' (atI_nat (j := 0) rfl) ?_
      walk_at "go"
      refine w_ixL ed1 (at_int (by omega)) ?_
      walk_at "go"
      refine w_I (by omega) ?_
      exact fin _
    · walk_at "go"
      refine w_I (.inr ⟨by decide, by decide⟩) ?_
      walk_at "go"
      refine w_I (by omega) ?_
      exact fin _
def spPick : Sp := fun vs H Q _ => ∃ (b dp : Addr) (ds : List Int) (tl : Addr) (xs : List V), vs = [.ref b, .ref tl] ∧ BoxAt H b dp ds ∧ H tl = some (.lst xs) ∧ tl ≠ b ∧ 0 < xs.length ∧ ∀ v H', v ∈ xs → Sm [b] H H' → BoxAt H' b dp ds → Tp H H' → Q v H'
theorem ok_law_pick (A : All K mg) : FnOk P w K mg base CX0 2 A.a_law_pick A.d_law_pick ["_law_box", "_law_things"] spPick := by
  refine A.F_law_pick.ok sc_law_pick (fun vs H Q E h => ?_) (fun cdv A' outer s H vs Q E hr h => ?_)
  · obtain ⟨b, dp, ds, tl, xs, rfl, _⟩ := h
    rfl
  · obtain ⟨b, dp, ds, tl, xs, rfl, bx, et, ne, hn, q⟩ := h
    refine ⟨_, (pss_one (ps_ret (pe_ix (ix_A K rfl) (pv 1) (pe_op op_mod (pe_callTy call_intA (by rfl) A.z_int (by decide +kernel) (pa_cons (pe_call (ok_law_draw A) hr (by rfl) A.g_law_draw A.F_law_draw.kp A.b_law_draw .nil pass0 (pa_cons (pv 0) (pa_cons pe_int pa_nil))) pa_nil)) (pe_callB (call_lenA K rfl) (by rfl) A.z_len (by decide +kernel) (pa_cons (pv 1) pa_nil))) (fun _ _ => rfl)))), ?_⟩
    walk_at "go"
    refine ⟨b, dp, ds, 900, rfl, bx, by decide, fun d H1 hd m1 bx1 t1 => ?_⟩
    have et1 := m1 _ _ (fun hm => ne (List.mem_singleton.mp hm)) et
    walk_at "go"
    refine w_lenL et1 ?_
    refine w_I (by omega) ?_
    have em : ((d : Int) % (xs.length : Int)) = ((d % xs.length : Nat) : Int) := by rw [Int.natCast_emod]
    have hlt : d % xs.length < xs.length := Nat.mod_lt _ hn
    rw [em]
    refine w_ixL et1 (atI_nat (j := d % xs.length) (List.getElem?_eq_getElem hlt)) ?_
    walk_at "go"
    exact q _ H1 (List.getElem_mem hlt) m1 bx1 t1
end
end TW

namespace TW
open PySem L2
/-- one step of a reading -/
local macro_rules | `(tactic| walk_at "st") => `(tactic| first
  | with_reducible refine w_seq ?_ | with_reducible refine w_next ?_ | with_reducible refine w_nx ?_ | with_reducible refine w_rt ?_ | with_reducible refine w_asg ?_ | with_reducible refine w_name ?_
  | with_reducible refine w_op ?_ | with_reducible refine w_un ?_ | with_reducible refine w_var rfl ?_ | with_reducible refine w_c ?_ | with_reducible refine w_ret ?_ | with_reducible refine w_drop ?_
  | with_reducible refine w_if ?_ | with_reducible refine w_test ?_ | with_reducible refine w_tB ?_ | with_reducible refine w_k ?_ | with_reducible refine w_and ?_ | with_reducible refine w_or ?_ | with_reducible refine w_yes ?_
  | with_reducible refine w_nil ?_ | with_reducible refine w_cons ?_ | with_reducible refine w_cb ?_ | with_reducible refine w_call ?_ | with_reducible refine w_I0 ?_ | with_reducible refine w_neg ?_
  | with_reducible refine w_eqI ?_ | with_reducible refine w_neI ?_ | with_reducible refine w_abs ?_ | with_reducible refine w_min2 ?_ | with_reducible refine w_intI ?_ | with_reducible refine w_intB ?_
  | with_reducible refine w_isN0 ?_ | with_reducible refine w_isN1 ?_ | with_reducible refine w_isN2 ?_ | with_reducible refine w_noN0 ?_ | with_reducible refine w_noN1 ?_ | with_reducible refine w_noN2 ?_
  | with_reducible refine w_sub ?_ | with_reducible refine w_for ?_ | with_reducible refine w_lc ?_ | with_reducible refine w_iT ?_ | with_reducible refine w_iL ?_ | with_reducible refine w_iE ?_ | with_reducible refine w_iEl ?_
  | with_reducible refine w_iZ ?_ | with_reducible refine w_iR1 ?_ | with_reducible refine w_iR2 ?_ | with_reducible refine w_gc ?_ | with_reducible refine w_gn ?_ | with_reducible refine w_bm ?_ | with_reducible refine w_sfld ?_ | with_reducible refine w_tfld ?_ | with_reducible refine w_meth ?_ | with_reducible refine w_make ?_ | with_reducible refine w_tup ?_ | with_reducible refine w_lst ?_)
local macro_rules | `(tactic| walk_at "go") => `(tactic| repeat walk_at "st")
local macro_rules | `(tactic| walk_at "nx") => `(tactic| repeat (first | with_reducible refine w_next ?_ | with_reducible refine w_nx ?_ | with_reducible refine w_name ?_ | with_reducible refine w_gc ?_ | with_reducible refine w_gn ?_))

open TL (Rd rat miss gi absI Stp BF go PW Le SS AW VW WW)
section
variable {P : Program} {w : World} {K : PySem.W.Frag} {mg : Str → Option Value} {base : Heap}
/-! ### heaps with a box -/
theorem smb {b l : Addr} {H0 H H1 : Hp} (m : Sm [b] H0 H) (m1 : Sm [l] H H1) (n : H0 l = none) : Sm [b] H0 H1 := fun c o nc e => m1 c o (fun hm => by
  rw [List.mem_singleton.mp hm, n] at e
  cases e) (m c o nc e)
theorem BoxAt.keep {H H1 : Hp} {b dp l : Addr} {ds : List Int} (x : BoxAt H b dp ds) (m : Sm [l] H H1) (h1 : l ≠ b) (h2 : l ≠ dp) : BoxAt H1 b dp ds := by
  obtain ⟨k, e⟩ := x.bx
  exact ⟨⟨k, m _ _ (fun hm => h1 (List.mem_singleton.mp hm).symm) e⟩, m _ _ (fun hm => h2 (List.mem_singleton.mp hm).symm) x.d, x.ne⟩
theorem BoxAt.same {H H1 : Hp} {b dp : Addr} {ds : List Int} (x : BoxAt H b dp ds) (s : Same H H1) : BoxAt H1 b dp ds := by
  obtain ⟨k, e⟩ := x.bx
  exact ⟨⟨k, s _ _ e⟩, s _ _ x.d, x.ne⟩
theorem BoxAt.nb {H : Hp} {b dp l : Addr} {ds : List Int} (x : BoxAt H b dp ds) (n : H l = none) : l ≠ b ∧ l ≠ dp := by
  obtain ⟨k, e⟩ := x.bx
  exact ⟨fun z => (by rw [z, e] at n; cases n), fun z => (by rw [z, x.d] at n; cases n)⟩
theorem smb_free {b l : Addr} {H H1 : Hp} (m : Sm [b] H H1) (hb : l ≠ b) (n : H1 l = none) : H l = none := by
  cases q : H l with
  | none => rfl
  | some o =>
    rw [m l o (fun hm => hb (List.mem_singleton.mp hm)) q] at n
    cases n
theorem BoxAt.tp {H H1 : Hp} {b dp : Addr} {ds : List Int} (x : BoxAt H b dp ds) (m : Sm [b] H H1) : Tp H H1 := by
  obtain ⟨k, e⟩ := x.bx
  exact Tp.sm m e
/-- a comprehension that draws -/
theorem lcM {J : It} {n : Nat} {G : Hp → Prop} {Y : Nat → Hp → V → Hp → Prop} {g : TG} {tt : TT} {te : TE} {σ : L2.St} {vs : List Nat} {H1 : Hp} {L b dp : Addr} {ds : List Int} (w : Walk J n G Y) (hn : n ≤ 100000) (nL : H1 L = none) (bx : BoxAt H1 b dp ds) (P : Nat → List V → Hp → Prop)
    (h0 : ∀ H, Sm [b] H1 H → H L = some (.lst []) → P 0 [] H) (hG : ∀ i acc H, Sm [b] H1 H → P i acc H → G H)
    (hs : ∀ i acc x H H' (F : V → Hp → Prop) (No : Hp → Prop), i < n → Sm [b] H1 H → BoxAt H b dp ds → H L = some (.lst acc) → P i acc H → Y i H x H' →
      (∀ y H4, Sm [b] H H4 → BoxAt H4 b dp ds → (∀ H5, Sm [L] H4 H5 → Tp H4 H5 → Sm [b] H1 H5 → H5 L = some (.lst (acc ++ [y])) → P (i + 1) (acc ++ [y]) H5) → F y H4) →
      g x (wipe σ vs) H' fun σ2 H2 => wipe σ2 vs = wipe σ vs ∧ tt σ2 H2 fun b H3 => if b = true then te σ2 H3 F else No H3)
    {Qd : Hp → Prop} (hd : ∀ acc H, Sm [b] H1 H → BoxAt H b dp ds → H L = some (.lst acc) → acc.length ≤ n → P n acc H → Qd H) : LC J g tt te vs σ H1 L Qd := by
  obtain ⟨nb, nd⟩ := bx.nb nL
  have s0 : Same H1 (upd H1 L (.lst [])) := same_new nL
  refine lc_it w (fun i H => ∃ acc, Sm [b] H1 H ∧ BoxAt H b dp ds ∧ H L = some (.lst acc) ∧ acc.length ≤ i ∧ P i acc H) ⟨[], Sm.of s0 _, bx.same s0, upd_same, Nat.le_refl _, h0 _ (Sm.of s0 _) upd_same⟩ (fun i H _ ⟨acc, s, _, e, _, p⟩ => hG i acc H s p) ?_ (fun H ⟨acc, s, x, e, hl, p⟩ => hd acc H s x e hl p)
  rintro i x H H' hi ⟨acc, s, xb, e, hl, p⟩ y
  refine hs i acc x H H' _ _ hi s xb e p y (fun y H4 s4 b4 k => ?_)
  have e4 := s4 _ _ (fun hm => nb (List.mem_singleton.mp hm)) e
  have sm : Sm [L] H4 (upd H4 L (.lst (acc ++ [y]))) := sm_upd
  have s5 : Sm [b] H1 (upd H4 L (.lst (acc ++ [y]))) := smb (s.trans s4) sm nL
  refine ⟨acc, e4, Nat.lt_of_lt_of_le (show acc.length < 100000 by omega) (by decide), acc ++ [y], s5, b4.keep sm nb nd, upd_same, by rw [List.length_append, List.length_singleton]; omega, ?_⟩
  exact k _ sm (Tp.sm sm e4) s5 upd_same
/-! ### pairs -/
abbrev Pr := Addr × Nat × Nat
def prV (L : List Pr) : List V := L.map fun t => V.ref t.1
def PrAt (H : Hp) (L : List Pr) : Prop := ∀ t ∈ L, H t.1 = some (.tup [.int (t.2.1 : Int), .int (t.2.2 : Int)])
def PrGd (n : Nat) (L : List Pr) : Prop := ∀ t ∈ L, t.2.1 < n ∧ t.2.2 < n ∧ t.2.1 ≠ t.2.2
def JnL (n : Nat) (L : List Pr) : Prop := ∀ χ : Nat → Prop, χ 0 → (∀ t ∈ L, χ t.2.1 ↔ χ t.2.2) → ∀ j, j < n → χ j
theorem PrAt.tp {H H' : Hp} {L : List Pr} (a : PrAt H L) (t : Tp H H') : PrAt H' L := fun x hx => t _ _ (a x hx)
def insP (L : List Pr) (k : Nat) (t : Pr) : List Pr := L.take k ++ [t] ++ L.drop k
theorem mem_ins {L : List Pr} {k : Nat} {t x : Pr} : x ∈ insP L k t ↔ x ∈ L ∨ x = t := by
  have e : x ∈ L ↔ x ∈ L.take k ∨ x ∈ L.drop k := by rw [← List.mem_append, List.take_append_drop]
  unfold insP
  rw [List.mem_append, List.mem_append, List.mem_singleton, e]
  constructor
  · rintro ((h | h) | h)
    · exact .inl (.inl h)
    · exact .inr h
    · exact .inl (.inr h)
  · rintro ((h | h) | h)
    · exact .inl (.inl h)
    · exact .inr h
    · exact .inl (.inr h)
theorem ins_len {L : List Pr} {k : Nat} {t : Pr} (h : k ≤ L.length) : (insP L k t).length = L.length + 1 := by
  unfold insP
  simp only [List.length_append, List.length_take, List.length_drop, List.length_singleton]
  omega
theorem prV_ins {L : List Pr} {k : Nat} {t : Pr} : (prV L).take k ++ [.ref t.1] ++ (prV L).drop k = prV (insP L k t) := by
  unfold prV insP
  simp only [List.map_append, List.map_take, List.map_drop, List.map_cons, List.map_nil]
theorem w_ins {H : Hp} {l : Addr} {xs : List V} {k : Nat} {y : V} {Q : VK} (h : H l = some (.lst xs)) (hx : xs.length ≤ 1000) (hk : k ≤ 1000) (q : ∀ H1, Sm [l] H H1 → H1 l = some (.lst (xs.take k ++ [y] ++ xs.drop k)) → Q .non H1) : rInsA (.ref l) [.int (k : Int), y] H Q :=
  ⟨l, xs, (k : Int), y, rfl, rfl, h, Nat.lt_of_le_of_lt hx (by decide), by omega, by omega, by rw [Int.toNat_natCast]; exact q _ sm_upd upd_same⟩
def spPairs : Sp := fun vs H Q _ => ∃ (b dp : Addr) (ds : List Int) (n e : Nat), vs = [.ref b, .int (n : Int), .int (e : Int)] ∧ BoxAt H b dp ds ∧ 2 ≤ n ∧ n ≤ 4 ∧ e ≤ 6 ∧
  ∀ l L H', Sm [b] H H' → BoxAt H' b dp ds → H l = none → H' l = some (.lst (prV L)) → PrAt H' L → L.length = n - 1 + e → PrGd n L → JnL n L → Q (.ref l) H'
theorem mod_ne {s d n : Nat} (hs : s < n) (hd : d < n - 1) : (s + 1 + d) % n ≠ s := by
  by_cases c : s + 1 + d < n
  · rw [Nat.mod_eq_of_lt c]; omega
  · rw [Nat.mod_eq_sub_mod (by omega), Nat.mod_eq_of_lt (by omega)]; omega
theorem ok_law_pairs (A : All K mg) : FnOk P w K mg base CX0 3 A.a_law_pairs A.d_law_pairs ["_law_box", "_law_many", "_law_extra"] spPairs := by
  refine A.F_law_pairs.ok sc_law_pairs (fun vs H Q E h => ?_) (fun cdv A' outer s H vs Q E hr h => ?_)
  · obtain ⟨b, dp, ds, n, e, rfl, _⟩ := h
    rfl
  · obtain ⟨b, dp, ds, n, e, rfl, bx, n2, n4, e6, q⟩ := h
    refine ⟨_, (pss_cons (ps_set (i := 3) sc_law_pairs.nd rfl (by first | exact Or.inl rfl | exact Or.inr rfl) (pe_lst pa_nil)) (pss_cons (ps_for PassesOwn.never rfl (pi_range2 rfl A.z_range (pa_cons pe_int (pa_cons (pv 1) pa_nil))) (pg_name (i := 4) sc_law_pairs.nd rfl (by first | exact Or.inl rfl | exact Or.inr rfl)) (pss_cons (ps_set (i := 5) sc_law_pairs.nd rfl (by first | exact Or.inl rfl | exact Or.inr rfl) (pe_call (ok_law_draw A) (hr.mono (by decide)) (by rfl) A.g_law_draw A.F_law_draw.kp A.b_law_draw .nil pass0 (pa_cons (pv 0) (pa_cons (pv 4) pa_nil)))) (pss_one (ps_expr (pe_bm PySem.F.plainAttrs_list PySem.F.slot_list_insert PySem.F.type_list_insert mt_insertA (pv 3) (pa_cons (pe_call (ok_law_draw A) (hr.mono (by decide)) (by rfl) A.g_law_draw A.F_law_draw.kp A.b_law_draw .nil pass0 (pa_cons (pv 0) (pa_cons (pe_op op_add (pe_callB (call_lenA K rfl) (by rfl) A.z_len (by decide +kernel) (pa_cons (pv 3) pa_nil)) pe_int) pa_nil))) (pa_cons (pe_call (ok_law_pick A) hr (by rfl) A.g_law_pick A.F_law_pick.kp A.b_law_pick .nil pass0 (pa_cons (pv 0) (pa_cons (pe_lst (pa_cons (pe_tup (pa_cons (pv 4) (pa_cons (pv 5) pa_nil))) (pa_cons (pe_tup (pa_cons (pv 5) (pa_cons (pv 4) pa_nil))) pa_nil))) pa_nil))) pa_nil))))))) (pss_cons (ps_for PassesOwn.never rfl (pi_range1 rfl A.z_range (pa_cons (pv 2) pa_nil)) (pg_name (i := 6) sc_law_pairs.nd rfl (by first | exact Or.inl rfl | exact Or.inr rfl)) (pss_cons (ps_set (i := 7) sc_law_pairs.nd rfl (by first | exact Or.inl rfl | exact Or.inr rfl) (pe_call (ok_law_draw A) (hr.mono (by decide)) (by rfl) A.g_law_draw A.F_law_draw.kp A.b_law_draw .nil pass0 (pa_cons (pv 0) (pa_cons (pv 1) pa_nil)))) (pss_cons (ps_set (i := 8) sc_law_pairs.nd rfl (by first | exact Or.inl rfl | exact Or.inr rfl) (pe_op op_mod (pe_callTy call_intA (by rfl) A.z_int (by decide +kernel) (pa_cons (pe_op op_add (pe_op op_add (pv 7) pe_int) (pe_call (ok_law_draw A) (hr.mono (by decide)) (by rfl) A.g_law_draw A.F_law_draw.kp A.b_law_draw .nil pass0 (pa_cons (pv 0) (pa_cons (pe_op op_sub (pv 1) pe_int) pa_nil)))) pa_nil)) (pv 1))) (pss_one (ps_expr (pe_bm PySem.F.plainAttrs_list PySem.F.slot_list_insert PySem.F.type_list_insert mt_insertA (pv 3) (pa_cons (pe_call (ok_law_draw A) (hr.mono (by decide)) (by rfl) A.g_law_draw A.F_law_draw.kp A.b_law_draw .nil pass0 (pa_cons (pv 0) (pa_cons (pe_op op_add (pe_callB (call_lenA K rfl) (by rfl) A.z_len (by decide +kernel) (pa_cons (pv 3) pa_nil)) pe_int) pa_nil))) (pa_cons (pe_tup (pa_cons (pv 7) (pa_cons (pv 8) pa_nil))) pa_nil)))))))) (pss_one (ps_ret (pv 3)))))), ?_⟩
    walk_at "go"
    refine w_newL (sz rfl) fun l H1 nl s1 e1 => ?_
    obtain ⟨nlb, nld⟩ := bx.nb nl
    walk_at "go"
    refine ⟨((1 : Nat) : Int), (n : Int), rfl, by omega, ?_⟩
    rw [show ((n : Int) - ((1 : Nat) : Int)).toNat = n - 1 by omega]
    refine fo (walk_r1 (m := 1) (n := n - 1)) (fun i σ H' => ∃ x4 x5 x6 x7 x8, ∃ L : List Pr, σ = [some (.ref b), some (.int (n : Int)), some (.int (e : Int)), some (.ref l), x4, x5, x6, x7, x8] ∧ Sm [b] H H' ∧ BoxAt H' b dp ds ∧ H' l = some (.lst (prV L)) ∧ PrAt H' L ∧ L.length = i ∧ PrGd n L ∧ JnL (i + 1) L)
      ⟨none, none, none, none, none, [], rfl, Sm.of s1 _, bx.same s1, e1, fun t h => (by cases h), rfl, fun t h => (by cases h), fun χ h0 _ j hj => by rw [show j = 0 by omega]; exact h0⟩ (fun _ _ _ _ _ => trivial) ?_ ?_
    · rintro i x σ H2 H3 hi ⟨x4, x5, x6, x7, x8, L, rfl, m2, b2, e2, pa, ll, gd, jn⟩ ⟨rfl, rfl⟩
      walk_at "go"
      refine ⟨b, dp, ds, 1 + i, rfl, b2, by omega, fun d H4 hd m4 b4 t4 => ?_⟩
      have e4 := m4 _ _ (fun hm => nlb (List.mem_singleton.mp hm)) e2
      have lv : (prV L).length = i := by unfold prV; rw [List.length_map, ll]
      walk_at "go"
      refine ⟨tyL e4, ?_⟩
      walk_at "go"
      refine w_lenL e4 ?_
      rw [lv]
      walk_at "go"
      refine ⟨b, dp, ds, i + 1, rfl, b4, by omega, fun k H5 hk m5 b5 t5 => ?_⟩
      have e5 := m5 _ _ (fun hm => nlb (List.mem_singleton.mp hm)) e4
      walk_at "go"
      refine w_newT (sz rfl) fun p1 H6 n6 s6 e6 => ?_
      walk_at "go"
      refine w_newT (sz rfl) fun p2 H7 n7 s7 e7 => ?_
      walk_at "go"
      refine w_newL (sz rfl) fun tl H8 n8 s8 e8 => ?_
      have s58 := (s6.trans s7).trans s8
      have b8 := b5.same s58
      have ntb : tl ≠ b := (b5.nb ((s6.trans s7).free n8)).1
      walk_at "go"
      refine ⟨b, dp, ds, tl, _, rfl, b8, e8, ntb, by show 0 < 2; decide, fun v H9 hv m9 b9 t9 => ?_⟩
      have e9 := m9 _ _ (fun hm => nlb (List.mem_singleton.mp hm)) (s58 _ _ e5)
      have t29 := ((t4.trans t5).trans (Tp.of s58)).trans t9
      have m29 := (((m2.trans m4).trans m5).trans (Sm.of s58 _)).trans m9
      have fin : ∀ t : Pr, (t.2 = (1 + i, d) ∨ t.2 = (d, 1 + i)) → v = .ref t.1 → H9 t.1 = some (.tup [.int (t.2.1 : Int), .int (t.2.2 : Int)]) → ∀ H10, Sm [l] H9 H10 → H10 l = some (.lst ((prV L).take k ++ [v] ++ (prV L).drop k)) → PrAt H10 (insP L k t) ∧ H10 l = some (.lst (prV (insP L k t))) ∧ PrGd n (insP L k t) ∧ JnL (i + 1 + 1) (insP L k t) := fun t ht hvt ht9 H10 m10 e10 => by
        have t10 := Tp.sm m10 e9
        refine ⟨fun x hx => ?_, ?_, fun x hx => ?_, fun χ h0 hχ j hj => ?_⟩
        · rcases mem_ins.mp hx with z | z
          · exact t10 _ _ (t29 _ _ (pa x z))
          · rw [z]; exact t10 _ _ ht9
        · rw [e10, hvt, prV_ins]
        · rcases mem_ins.mp hx with z | z
          · exact gd x z
          · rw [z]
            rcases ht with q | q <;> rw [q] <;> (show _ < n ∧ _ < n ∧ _ ≠ _; simp only; omega)
        · have old : ∀ j, j < i + 1 → χ j := jn χ h0 fun x hx => hχ x (mem_ins.mpr (.inl hx))
          by_cases c : j < i + 1
          · exact old j c
          · have hj' : j = 1 + i := by omega
            have ht' := hχ t (mem_ins.mpr (.inr rfl))
            rw [hj']
            rcases ht with q | q <;> rw [q] at ht'
            · exact ht'.mpr (old d (by omega))
            · exact ht'.mp (old d (by omega))
      walk_at "go"
      refine w_ins e9 (by omega) (by omega) fun H10 m10 e10 => ?_
      walk_at "go"
      have bT := b9.keep m10 nlb nld
      have mT := smb m29 m10 nl
      rcases List.mem_cons.mp hv with z | z
      · obtain ⟨f1, f2, f3, f4⟩ := fin (p1, 1 + i, d) (.inl rfl) z (t9 _ _ (s8 _ _ (s7 _ _ e6))) H10 m10 e10
        exact ⟨_, _, _, _, _, insP L k (p1, 1 + i, d), rfl, mT, bT, f2, f1, by rw [ins_len (by omega), ll], f3, f4⟩
      · obtain ⟨f1, f2, f3, f4⟩ := fin (p2, d, 1 + i) (.inr rfl) (List.mem_singleton.mp z) (t9 _ _ (s8 _ _ e7)) H10 m10 e10
        exact ⟨_, _, _, _, _, insP L k (p2, d, 1 + i), rfl, mT, bT, f2, f1, by rw [ins_len (by omega), ll], f3, f4⟩
    · rintro σ H2 ⟨x4, x5, x6, x7, x8, L0, rfl, m2, b2, e2, pa0, ll0, gd0, jn0⟩
      rw [show n - 1 + 1 = n by omega] at jn0
      walk_at "go"
      refine ⟨(e : Int), rfl, by omega, by omega, ?_⟩
      rw [Int.toNat_natCast]
      refine fo walk_r0 (fun i σ H' => ∃ x4 x5 x6 x7 x8, ∃ L : List Pr, σ = [some (.ref b), some (.int (n : Int)), some (.int (e : Int)), some (.ref l), x4, x5, x6, x7, x8] ∧ Sm [b] H H' ∧ BoxAt H' b dp ds ∧ H' l = some (.lst (prV L)) ∧ PrAt H' L ∧ L.length = n - 1 + i ∧ PrGd n L ∧ JnL n L)
        ⟨x4, x5, x6, x7, x8, L0, rfl, m2, b2, e2, pa0, ll0, gd0, jn0⟩ (fun _ _ _ _ _ => trivial) ?_ ?_
      · rintro i x σ H3 H4 hi ⟨y4, y5, y6, y7, y8, L, rfl, m3, b3, e3, pa, ll, gd, jn⟩ ⟨rfl, rfl⟩
        walk_at "go"
        refine ⟨b, dp, ds, n, rfl, b3, by omega, fun st H5 hst m5 b5 t5 => ?_⟩
        walk_at "go"
        refine ⟨b, dp, ds, n - 1, by rw [show ((n : Int) - 1) = ((n - 1 : Nat) : Int) by omega]; rfl, b5, by omega, fun d H6 hd m6 b6 t6 => ?_⟩
        walk_at "go"
        refine w_I (by omega) ?_
        have em : (((st : Int) + 1 + (d : Int)) % (n : Int)) = (((st + 1 + d) % n : Nat) : Int) := by rw [Int.natCast_emod]; rfl
        rw [em]
        have hne := mod_ne hst hd
        have hlt : (st + 1 + d) % n < n := Nat.mod_lt _ (by omega)
        generalize (st + 1 + d) % n = en at *
        have e6 := m6 _ _ (fun hm => nlb (List.mem_singleton.mp hm)) (m5 _ _ (fun hm => nlb (List.mem_singleton.mp hm)) e3)
        have lv : (prV L).length = n - 1 + i := by unfold prV; rw [List.length_map, ll]
        walk_at "go"
        refine ⟨tyL e6, ?_⟩
        walk_at "go"
        refine w_lenL e6 ?_
        rw [lv]
        walk_at "go"
        refine ⟨b, dp, ds, n - 1 + i + 1, rfl, b6, by omega, fun k H7 hk m7 b7 t7 => ?_⟩
        have e7 := m7 _ _ (fun hm => nlb (List.mem_singleton.mp hm)) e6
        walk_at "go"
        refine w_newT (sz rfl) fun p H8 n8 s8 e8 => ?_
        walk_at "go"
        refine w_ins (s8 _ _ e7) (by omega) (by omega) fun H9 m9 e9 => ?_
        have t9 := Tp.sm m9 (s8 _ _ e7)
        have t39 := (((t5.trans t6).trans t7).trans (Tp.of s8)).trans t9
        walk_at "go"
        refine ⟨_, _, _, _, _, insP L k (p, st, en), rfl, smb (((m3.trans m5).trans (m6.trans m7)).trans (Sm.of s8 _)) m9 nl, (b7.same s8).keep m9 nlb nld, ?_, fun x hx => ?_, by rw [ins_len (by omega), ll]; omega, fun x hx => ?_, fun χ h0 hχ j hj => jn χ h0 (fun x hx => hχ x (mem_ins.mpr (.inl hx))) j hj⟩
        · rw [e9, ← prV_ins]
        · rcases mem_ins.mp hx with z | z
          · exact t39 _ _ (pa x z)
          · rw [z]; exact t9 _ _ e8
        · rcases mem_ins.mp hx with z | z
          · exact gd x z
          · rw [z]; exact ⟨hst, hlt, fun q => hne q.symm⟩
      · rintro σ H3 ⟨y4, y5, y6, y7, y8, L, rfl, m3, b3, e3, pa, ll, gd, jn⟩
        walk_at "go"
        exact q l L H3 m3 b3 nl e3 pa ll gd jn
end
end TW

namespace TW
open PySem L2
/-- one step of a reading -/
local macro_rules | `(tactic| walk_at "st") => `(tactic| first
  | with_reducible refine w_seq ?_ | with_reducible refine w_next ?_ | with_reducible refine w_nx ?_ | with_reducible refine w_rt ?_ | with_reducible refine w_asg ?_ | with_reducible refine w_name ?_
  | with_reducible refine w_op ?_ | with_reducible refine w_un ?_ | with_reducible refine w_var rfl ?_ | with_reducible refine w_c ?_ | with_reducible refine w_ret ?_ | with_reducible refine w_drop ?_
  | with_reducible refine w_if ?_ | with_reducible refine w_test ?_ | with_reducible refine w_tB ?_ | with_reducible refine w_k ?_ | with_reducible refine w_and ?_ | with_reducible refine w_or ?_ | with_reducible refine w_yes ?_
  | with_reducible refine w_nil ?_ | with_reducible refine w_cons ?_ | with_reducible refine w_cb ?_ | with_reducible refine w_call ?_ | with_reducible refine w_I0 ?_ | with_reducible refine w_neg ?_
  | with_reducible refine w_eqI ?_ | with_reducible refine w_neI ?_ | with_reducible refine w_abs ?_ | with_reducible refine w_min2 ?_ | with_reducible refine w_intI ?_ | with_reducible refine w_intB ?_
  | with_reducible refine w_isN0 ?_ | with_reducible refine w_isN1 ?_ | with_reducible refine w_isN2 ?_ | with_reducible refine w_noN0 ?_ | with_reducible refine w_noN1 ?_ | with_reducible refine w_noN2 ?_
  | with_reducible refine w_sub ?_ | with_reducible refine w_for ?_ | with_reducible refine w_lc ?_ | with_reducible refine w_iT ?_ | with_reducible refine w_iL ?_ | with_reducible refine w_iE ?_ | with_reducible refine w_iEl ?_
  | with_reducible refine w_iZ ?_ | with_reducible refine w_iR1 ?_ | with_reducible refine w_iR2 ?_ | with_reducible refine w_gc ?_ | with_reducible refine w_gn ?_ | with_reducible refine w_bm ?_ | with_reducible refine w_sfld ?_ | with_reducible refine w_tfld ?_ | with_reducible refine w_meth ?_ | with_reducible refine w_make ?_ | with_reducible refine w_tup ?_ | with_reducible refine w_lst ?_)
local macro_rules | `(tactic| walk_at "go") => `(tactic| repeat walk_at "st")
local macro_rules | `(tactic| walk_at "nx") => `(tactic| repeat (first | with_reducible refine w_next ?_ | with_reducible refine w_nx ?_ | with_reducible refine w_name ?_ | with_reducible refine w_gc ?_ | with_reducible refine w_gn ?_))

open TL (Rd rat miss gi absI Stp BF go PW Le SS AW VW WW)
section
variable {P : Program} {w : World} {K : PySem.W.Frag} {mg : Str → Option Value} {base : Heap}
/-! ### heights, names, a net -/
def spHeights : Sp := fun vs H Q _ => ∃ (b dp : Addr) (ds : List Int) (n : Nat), vs = [.ref b, .int (n : Int)] ∧ BoxAt H b dp ds ∧ 2 ≤ n ∧ n ≤ 4 ∧
  ∀ p, ∀ (hs : List Int) H', Sm [b] H H' → BoxAt H' b dp ds → H' p = some (.tup (hs.map V.int)) → hs.length = n → (∀ j, j < n → -20 ≤ gi hs j ∧ gi hs j ≤ 20) → Q (.ref p) H'
theorem ok_law_heights (A : All K mg) : FnOk P w K mg base CX0 2 A.a_law_heights A.d_law_heights ["_law_box", "_law_many"] spHeights := by
  refine A.F_law_heights.ok sc_law_heights (fun vs H Q E h => ?_) (fun cdv A' outer s H vs Q E hr h => ?_)
  · obtain ⟨b, dp, ds, n, rfl, _⟩ := h
    rfl
  · obtain ⟨b, dp, ds, n, rfl, bx, n2, n4, q⟩ := h
    refine ⟨_, (pss_one (ps_ret (pe_op (op_catA1 K rfl) (pe_tup (pa_cons pe_int pa_nil)) (pe_callTy (call_tupA K rfl) (by rfl) A.z_tuple (by decide +kernel) (pa_cons (pe_lc (own := [("_law_k", 2)]) (g := (gName 2)) (tt := tYes) rfl sc_law_heights.nd (pi_range1 rfl A.z_range (pa_cons (pe_op op_sub (pv 1) pe_int) pa_nil)) (blkOk_by (own := [("_law_k", 2)]) (N := ["_law_box", "_law_many", "_law_k"]) (sc := defScope s_law_heights) (by decide +kernel)) (fun _ _ _ _ _ => (pg_name (i := 2) sc_law_heights.nd rfl (by first | exact Or.inl rfl | exact Or.inr rfl))) (fun _ _ _ _ _ => pts_nil) (fun _ _ _ _ _ => (pe_op op_sub (pe_call (ok_law_draw A) hr (by rfl) A.g_law_draw A.F_law_draw.kp A.b_law_draw .nil pass0 (pa_cons (pv 0) (pa_cons pe_int pa_nil))) pe_int))) pa_nil))))), ?_⟩
    walk_at "go"
    refine w_newT (sz rfl) fun zp H1 nz s1 e1 => ?_
    walk_at "go"
    refine ⟨(n : Int) - 1, rfl, by omega, by omega, fun L nL => ?_⟩
    rw [show ((n : Int) - 1).toNat = n - 1 by omega]
    refine lcM walk_r0 (by omega) nL (bx.same s1) (fun i acc _ => ∃ hs : List Int, acc = hs.map V.int ∧ hs.length = i ∧ ∀ x ∈ hs, -20 ≤ x ∧ x ≤ 20) (fun _ _ _ => ⟨[], rfl, rfl, fun x hx => (by cases hx)⟩) (fun _ _ _ _ _ => trivial) ?_ ?_
    · rintro i acc x H2 H3 F No hi m2 b2 eL ⟨hs, rfl, lh, bd⟩ ⟨rfl, rfl⟩ hF
      walk_at "go"
      refine ⟨rfl, ?_⟩
      walk_at "go"
      rw [if_pos rfl]
      walk_at "go"
      refine ⟨b, dp, ds, 41, rfl, b2, by decide, fun d H4 hd m4 b4 t4 => ?_⟩
      walk_at "go"
      refine hF _ _ m4 b4 fun H5 _ _ _ _ => ⟨hs ++ [(d : Int) - 20], ints_snoc, by rw [List.length_append, lh]; rfl, fun x hx => ?_⟩
      rcases List.mem_append.mp hx with z | z
      · exact bd x z
      · rw [List.mem_singleton.mp z]; omega
    · rintro acc H2 m2 b2 eL _ ⟨hs, rfl, lh, bd⟩
      walk_at "go"
      refine w_tupA eL fun tp H3 n3 s3 e3 => ?_
      have ez := s3 _ _ (m2 _ _ (fun hm => (bx.nb nz).1 (List.mem_singleton.mp hm)) e1)
      refine ⟨zp, tp, _, _, rfl, rfl, SqT.of ez, SqT.of e3, ?_, fun z => (by cases z), fun _ z => ?_, fun _ _ p np => ?_⟩
      · rw [List.length_map, lh]
        exact Nat.le_trans (show 1 + (n - 1) ≤ 1000 by omega) (by decide)
      · have := congrArg List.length z
        rw [List.length_map, lh] at this
        simp at this
        omega
      · have s4 : Same H3 (upd H3 p (.tup ([.int 0] ++ hs.map V.int))) := same_new np
        walk_at "go"
        refine q p (0 :: hs) _ ((((Sm.of s1 _).trans m2).trans (Sm.of s3 _)).trans (Sm.of s4 _)) ((b2.same s3).same s4) upd_same (by rw [List.length_cons, lh]; omega) fun j hj => ?_
        cases j with
        | zero => show -20 ≤ (0 : Int) ∧ (0 : Int) ≤ 20; omega
        | succ j =>
          have e : gi (0 :: hs) (j + 1) = gi hs j := rfl
          rw [e]
          have hl : j < hs.length := by omega
          unfold gi
          rw [List.getD_eq_getElem?_getD, List.getElem?_eq_getElem hl]
          exact bd _ (List.getElem_mem hl)
def spNames : Sp := fun vs H Q _ => ∃ n : Nat, vs = [.int (n : Int)] ∧ n ≤ 4 ∧ ∀ p, ∀ (nm : List Str) H', Same H H' → H' p = some (.tup (nm.map V.str)) → nm.length = n → (∀ s ∈ nm, s.length ≤ 10) → Q (.ref p) H'
theorem litm : (("m" : Str)).length ≤ 1 := by decide +kernel
theorem lita : (("abcdefghijklmnop" : Str)).cps.toList.length = 16 := by decide +kernel
theorem lita2 : (("abcdefghijklmnop" : Str)).length ≤ sizeLine := by decide +kernel
theorem ok_law_names (A : All K mg) : FnOk P w K mg base CX0 1 A.a_law_names A.d_law_names ["_law_many"] spNames := by
  refine A.F_law_names.ok sc_law_names (fun vs H Q E h => ?_) (fun cdv A' outer s H vs Q E hr h => ?_)
  · obtain ⟨n, rfl, _⟩ := h
    rfl
  · obtain ⟨n, rfl, n4, q⟩ := h
    refine ⟨_, (pss_one (ps_ret (pe_callTy (call_tupA K rfl) (by rfl) A.z_tuple (by decide +kernel) (pa_cons (pe_lc (own := [("_law_k", 1)]) (g := (gName 1)) (tt := tYes) rfl sc_law_names.nd (pi_range1 rfl A.z_range (pa_cons (pv 0) pa_nil)) (blkOk_by (own := [("_law_k", 1)]) (N := ["_law_many", "_law_k"]) (sc := defScope s_law_names) (by decide +kernel)) (fun _ _ _ _ _ => (pg_name (i := 1) sc_law_names.nd rfl (by first | exact Or.inl rfl | exact Or.inr rfl))) (fun _ _ _ _ _ => pts_nil) (fun _ _ _ _ _ => (pe_op op_addS pe_str (pe_ix ix_str pe_str (pv 1) (fun _ _ => rfl))))) pa_nil)))), ?_⟩
    walk_at "go"
    refine ⟨(n : Int), rfl, by omega, by omega, fun L nL => ?_⟩
    rw [Int.toNat_natCast]
    refine lc walk_r0 (by omega) nL (fun i acc _ => ∃ nm : List Str, acc = nm.map V.str ∧ nm.length = i ∧ ∀ s ∈ nm, s.length ≤ 10) (fun _ _ _ => ⟨[], rfl, rfl, fun x hx => (by cases hx)⟩) (fun _ _ _ _ _ => trivial) ?_ ?_
    · rintro i acc x H2 H3 F No hi s2 eL ⟨nm, rfl, ln, bd⟩ ⟨rfl, rfl⟩ hF _
      walk_at "go"
      refine ⟨rfl, ?_⟩
      walk_at "go"
      rw [if_pos rfl]
      walk_at "go"
      have hl : i < (("abcdefghijklmnop" : Str)).cps.toList.length := by rw [lita]; omega
      refine ⟨_, (i : Int), _, rfl, rfl, lita2, atI_nat (List.getElem?_eq_getElem hl), ?_⟩
      refine w_addS litm (show (⟨#[_]⟩ : Str).length ≤ 1 from Nat.le_refl _) rfl fun z1 => ?_
      refine hF _ _ (Same.refl _) fun H5 _ _ _ _ => ⟨nm ++ [_], strs_snoc, by rw [List.length_append, ln]; rfl, fun x hx => ?_⟩
      rcases List.mem_append.mp hx with z | z
      · exact bd x z
      · rw [List.mem_singleton.mp z]; omega
    · rintro acc H2 s2 eL _ ⟨nm, rfl, ln, bd⟩
      walk_at "go"
      refine w_tupA eL fun tp H3 n3 s3 e3 => ?_
      walk_at "go"
      exact q tp nm H3 (s2.trans s3) e3 ln bd
def rdOf (hs : List Int) (t : Pr) : Rd := ⟨t.2.1, t.2.2, gi hs t.2.2 - gi hs t.2.1⟩
/-- readings in the heap -/
structure RdsAt (H : Hp) (ps : List Addr) (rs : List Rd) : Prop where
  l : ps.length = rs.length
  r : ∀ i, i < rs.length → H (ps.getD i 0) = some (.tup (rdV (rat rs i)))
theorem RdsAt.tp {H H' : Hp} {ps : List Addr} {rs : List Rd} (a : RdsAt H ps rs) (t : Tp H H') : RdsAt H' ps rs := ⟨a.l, fun i hi => t _ _ (a.r i hi)⟩
theorem RdsAt.nil {H : Hp} : RdsAt H [] [] := ⟨rfl, fun i hi => absurd hi (Nat.not_lt_zero i)⟩
theorem RdsAt.snoc {H : Hp} {ps : List Addr} {rs : List Rd} {p : Addr} {r : Rd} (a : RdsAt H ps rs) (h : H p = some (.tup (rdV r))) : RdsAt H (ps ++ [p]) (rs ++ [r]) := by
  refine ⟨by rw [List.length_append, List.length_append, a.l]; rfl, fun i hi => ?_⟩
  rw [List.length_append] at hi
  have len := a.l
  by_cases c : i < rs.length
  · rw [List.getD_eq_getElem?_getD, List.getElem?_append_left (by omega), ← List.getD_eq_getElem?_getD]
    have e : rat (rs ++ [r]) i = rat rs i := by
      unfold rat
      rw [List.getD_eq_getElem?_getD, List.getD_eq_getElem?_getD, List.getElem?_append_left c]
    rw [e]
    exact a.r i c
  · have hi : i < rs.length + 1 := hi
    have e1 : i = rs.length := by omega
    subst e1
    have e : rat (rs ++ [r]) rs.length = r := by
      unfold rat
      rw [List.getD_eq_getElem?_getD, List.getElem?_append_right (Nat.le_refl _), Nat.sub_self]
      rfl
    rw [e, List.getD_eq_getElem?_getD, List.getElem?_append_right (by omega), ← len, Nat.sub_self]
    exact h
def spKeptNet : Sp := fun vs H Q _ => ∃ (l hp : Addr) (L : List Pr) (hs : List Int), vs = [.ref l, .ref hp] ∧ H l = some (.lst (prV L)) ∧ PrAt H L ∧ H hp = some (.tup (hs.map V.int)) ∧ hs.length ≤ 4 ∧ L.length ≤ 9 ∧ PrGd hs.length L ∧
  ∀ N H', Same H H' → NetAt H' N → N.n = hs.length → N.rs = L.map (rdOf hs) → (∀ s ∈ N.nm, s.length ≤ 10) → Q (.ref N.a) H'
theorem ok_law_kept_net (A : All K mg) : FnOk P w K mg base CX0 2 A.a_law_kept_net A.d_law_kept_net ["_law_pairs_here", "_law_heights_here"] spKeptNet := by
  refine A.F_law_kept_net.ok sc_law_kept_net (fun vs H Q E h => ?_) (fun cdv A' outer s H vs Q E hr h => ?_)
  · obtain ⟨l, hp, L, hs, rfl, _⟩ := h
    rfl
  · obtain ⟨l, hp, L, hs, rfl, el, pa, eh, l4, l9, gd, q⟩ := h
    refine ⟨_, (pss_cons (ps_set (i := 2) sc_law_kept_net.nd rfl (by first | exact Or.inl rfl | exact Or.inr rfl) (pe_callTy (call_tupA K rfl) (by rfl) A.z_tuple (by decide +kernel) (pa_cons (pe_lc (own := [("_law_a", 3), ("_law_b", 4)]) (g := (gTup K 2 (gCons (gName 3) (gCons (gName 4) gNil)))) (tt := tYes) rfl sc_law_kept_net.nd (pi_list (pv 0)) (blkOk_by (own := [("_law_a", 3), ("_law_b", 4)]) (N := ["_law_pairs_here", "_law_heights_here", "_law_readings", "_law_a", "_law_b"]) (sc := defScope s_law_kept_net) (by decide +kernel)) (fun _ _ _ _ _ => (pg_tupA K rfl rfl (pgs_cons (pg_name (i := 3) sc_law_kept_net.nd rfl (by first | exact Or.inl rfl | exact Or.inr rfl)) (pgs_cons (pg_name (i := 4) sc_law_kept_net.nd rfl (by first | exact Or.inl rfl | exact Or.inr rfl)) pgs_nil)))) (fun _ _ _ _ _ => pts_nil) (fun _ _ _ _ _ => (pe_tup (pa_cons (pv 3) (pa_cons (pv 4) (pa_cons (pe_op op_sub (pe_ix (ix_A K rfl) (pv 1) (pv 4) (fun _ _ => rfl)) (pe_ix (ix_A K rfl) (pv 1) (pv 3) (fun _ _ => rfl))) pa_nil)))))) pa_nil))) (pss_one (ps_ret (pe_tup (pa_cons pe_str (pa_cons (pe_call (ok_law_names A) hr (by rfl) A.g_law_names A.F_law_names.kp A.b_law_names .nil pass0 (pa_cons (pe_callB (call_lenA K rfl) (by rfl) A.z_len (by decide +kernel) (pa_cons (pv 1) pa_nil)) pa_nil)) (pa_cons (pv 2) pa_nil))))))), ?_⟩
    have lL : (prV L).length = L.length := by unfold prV; rw [List.length_map]
    walk_at "go"
    refine ⟨l, rfl, ⟨_, SqL.of el⟩, fun C nC => ?_⟩
    refine lc walk_list (by omega) nC (fun i acc H' => ∃ ps : List Addr, acc = ps.map V.ref ∧ RdsAt H' ps ((L.take i).map (rdOf hs))) (fun _ _ _ => ⟨[], rfl, RdsAt.nil⟩) (fun i acc H' s' _ => s'.lst el) ?_ ?_
    · rintro i acc x H2 H3 F No hi s2 eC ⟨ps, rfl, ra⟩ ⟨rfl, hx⟩ hF _
      rw [lL] at hi
      unfold prV at hx
      rw [List.getElem?_map, List.getElem?_eq_getElem hi] at hx
      cases hx
      have hm := List.getElem_mem hi
      have er := s2 _ _ (pa _ hm)
      obtain ⟨g1, g2, g3⟩ := gd _ hm
      refine w_gT er rfl ?_
      walk_at "go"
      refine ⟨rfl, ?_⟩
      walk_at "go"
      rw [if_pos rfl]
      walk_at "go"
      refine w_ixT (s2 _ _ eh) (at_int g2) ?_
      walk_at "go"
      refine w_ixT (s2 _ _ eh) (at_int g1) ?_
      walk_at "go"
      refine w_newT (sz rfl) fun p H4 n4 s4 e4 => ?_
      refine hF _ _ s4 fun H5 m5 t5 s5 e5 => ⟨ps ++ [p], refs_snoc, ?_⟩
      rw [take_map (List.getElem?_eq_getElem hi)]
      exact ((ra.tp (Tp.of s4)).tp t5).snoc (t5 _ _ e4)
    · rintro acc H2 s2 eC _ ⟨ps, rfl, ra⟩
      rw [lL, take_all] at ra
      walk_at "go"
      refine w_tupA eC fun tp H3 n3 s3 e3 => ?_
      walk_at "go"
      refine w_lenT (s3 _ _ (s2 _ _ eh)) ?_
      rw [List.length_map]
      refine ⟨hs.length, rfl, l4, fun mp nm H4 s4 e4 ln bn => ?_⟩
      walk_at "go"
      refine w_newT (sz rfl) fun p H5 n5 s5 e5 => ?_
      walk_at "go"
      have ra5 := ra.tp (Tp.of (s3.trans (s4.trans s5)))
      exact q ⟨p, mp, tp, ps, nm, L.map (rdOf hs)⟩ H5 ((s2.trans s3).trans (s4.trans s5)) ⟨e5, s5 _ _ e4, s5 _ _ (s4 _ _ e3), ra5.l, ra5.r⟩ ln rfl bn
end
end TW

namespace TW
open PySem L2
/-- one step of a reading -/
local macro_rules | `(tactic| walk_at "st") => `(tactic| first
  | with_reducible refine w_seq ?_ | with_reducible refine w_next ?_ | with_reducible refine w_nx ?_ | with_reducible refine w_rt ?_ | with_reducible refine w_asg ?_ | with_reducible refine w_name ?_
  | with_reducible refine w_op ?_ | with_reducible refine w_un ?_ | with_reducible refine w_var rfl ?_ | with_reducible refine w_c ?_ | with_reducible refine w_ret ?_ | with_reducible refine w_drop ?_
  | with_reducible refine w_if ?_ | with_reducible refine w_test ?_ | with_reducible refine w_tB ?_ | with_reducible refine w_k ?_ | with_reducible refine w_and ?_ | with_reducible refine w_or ?_ | with_reducible refine w_yes ?_
  | with_reducible refine w_nil ?_ | with_reducible refine w_cons ?_ | with_reducible refine w_cb ?_ | with_reducible refine w_call ?_ | with_reducible refine w_I0 ?_ | with_reducible refine w_neg ?_
  | with_reducible refine w_eqI ?_ | with_reducible refine w_neI ?_ | with_reducible refine w_abs ?_ | with_reducible refine w_min2 ?_ | with_reducible refine w_intI ?_ | with_reducible refine w_intB ?_
  | with_reducible refine w_isN0 ?_ | with_reducible refine w_isN1 ?_ | with_reducible refine w_isN2 ?_ | with_reducible refine w_noN0 ?_ | with_reducible refine w_noN1 ?_ | with_reducible refine w_noN2 ?_
  | with_reducible refine w_sub ?_ | with_reducible refine w_for ?_ | with_reducible refine w_lc ?_ | with_reducible refine w_iT ?_ | with_reducible refine w_iL ?_ | with_reducible refine w_iE ?_ | with_reducible refine w_iEl ?_
  | with_reducible refine w_iZ ?_ | with_reducible refine w_iR1 ?_ | with_reducible refine w_iR2 ?_ | with_reducible refine w_gc ?_ | with_reducible refine w_gn ?_ | with_reducible refine w_bm ?_ | with_reducible refine w_sfld ?_ | with_reducible refine w_tfld ?_ | with_reducible refine w_meth ?_ | with_reducible refine w_make ?_ | with_reducible refine w_tup ?_ | with_reducible refine w_lst ?_)
local macro_rules | `(tactic| walk_at "go") => `(tactic| repeat walk_at "st")
local macro_rules | `(tactic| walk_at "nx") => `(tactic| repeat (first | with_reducible refine w_next ?_ | with_reducible refine w_nx ?_ | with_reducible refine w_name ?_ | with_reducible refine w_gc ?_ | with_reducible refine w_gn ?_))

open TL (Rd rat miss gi absI Stp BF go PW Le SS AW VW WW)
section
variable {P : Program} {w : World} {K : PySem.W.Frag} {mg : Str → Option Value} {base : Heap}
/-! ### a net with lies -/
abbrev Ch := Addr × Nat × Int
def chV (R : List Ch) : List V := R.map fun t => V.ref t.1
def ChAt (H : Hp) (R : List Ch) : Prop := ∀ t ∈ R, H t.1 = some (.tup [.int (t.2.1 : Int), .int t.2.2])
theorem ChAt.tp {H H' : Hp} {R : List Ch} (a : ChAt H R) (t : Tp H H') : ChAt H' R := fun x hx => t _ _ (a x hx)
/-- of the same marks, its values not far -/
structure Near (d : Int) (rs rs' : List Rd) : Prop where
  l : rs'.length = rs.length
  r : ∀ i, i < rs.length → (rat rs' i).a = (rat rs i).a ∧ (rat rs' i).b = (rat rs i).b ∧ -d ≤ (rat rs' i).v - (rat rs i).v ∧ (rat rs' i).v - (rat rs i).v ≤ d
theorem rat_set {rs : List Rd} {i j : Nat} {r : Rd} (h : i < rs.length) : rat (rs.set i r) j = if j = i then r else rat rs j := by
  unfold rat
  simp only [List.getD_eq_getElem?_getD, List.getElem?_set]
  by_cases e : i = j
  · subst e; simp [h]
  · rw [if_neg e, if_neg (Ne.symm e)]
theorem RdsAt.set {H : Hp} {ps : List Addr} {rs : List Rd} {i : Nat} {p : Addr} {r : Rd} (a : RdsAt H ps rs) (hi : i < rs.length) (h : H p = some (.tup (rdV r))) : RdsAt H (ps.set i p) (rs.set i r) := by
  refine ⟨by rw [List.length_set, List.length_set, a.l], fun j hj => ?_⟩
  rw [List.length_set] at hj
  have al := a.l
  rw [rat_set hi]
  by_cases c : j = i
  · subst c
    rw [if_pos rfl, List.getD_eq_getElem?_getD, List.getElem?_set_self (by omega)]
    exact h
  · rw [if_neg c, List.getD_eq_getElem?_getD, List.getElem?_set_ne (Ne.symm c), ← List.getD_eq_getElem?_getD]
    exact a.r j hj
theorem set_refs {ps : List Addr} {i : Nat} {p : Addr} : (ps.map V.ref).set i (.ref p) = (ps.set i p).map V.ref := List.map_set.symm
def spChanged : Sp := fun vs H Q _ => ∃ (N : Net) (rl : Addr) (R : List Ch), vs = [.ref N.a, .ref rl] ∧ NetAt H N ∧ H rl = some (.lst (chV R)) ∧ ChAt H R ∧ (∀ t ∈ R, t.2.1 < N.rs.length ∧ -30 ≤ t.2.2 ∧ t.2.2 ≤ 30) ∧
  ∀ N' H', Same H H' → NetAt H' N' → N'.nm = N.nm → Near (30 * R.length) N.rs N'.rs → Q (.ref N'.a) H'
theorem ok_law_changed (A : All K mg) : FnOk P w K mg base CX0 1 A.a_law_changed A.d_law_changed ["_law_net_here", "_law_rows"] spChanged := by
  refine A.F_law_changed.ok sc_law_changed (fun vs H Q E h => ?_) (fun cdv A' outer s H vs Q E hr h => ?_)
  · obtain ⟨N, rl, R, rfl, _⟩ := h
    rfl
  · obtain ⟨N, rl, R, rfl, hNt, er, ca, cb, q⟩ := h
    refine ⟨_, (pss_cons (ps_set (i := 2) sc_law_changed.nd rfl (by first | exact Or.inl rfl | exact Or.inr rfl) (pe_callTy (call_listA K rfl) (by rfl) A.z_list (by decide +kernel) (pa_cons (pe_ix (ix_A K rfl) (pv 0) pe_int (fun _ _ => rfl)) pa_nil))) (pss_cons (ps_for PassesOwn.never rfl (pi_list (pv 1)) (pg_tupA K rfl rfl (pgs_cons (pg_name (i := 3) sc_law_changed.nd rfl (by first | exact Or.inl rfl | exact Or.inr rfl)) (pgs_cons (pg_name (i := 4) sc_law_changed.nd rfl (by first | exact Or.inl rfl | exact Or.inr rfl)) pgs_nil))) (pss_cons (ps_asg (pe_ix (ix_A K rfl) (pv 2) (pv 3) (fun _ _ => rfl)) (pg_tupA K rfl rfl (pgs_cons (pg_name (i := 5) sc_law_changed.nd rfl (by first | exact Or.inl rfl | exact Or.inr rfl)) (pgs_cons (pg_name (i := 6) sc_law_changed.nd rfl (by first | exact Or.inl rfl | exact Or.inr rfl)) (pgs_cons (pg_name (i := 7) sc_law_changed.nd rfl (by first | exact Or.inl rfl | exact Or.inr rfl)) pgs_nil))))) (pss_one (ps_asg (pe_tup (pa_cons (pv 5) (pa_cons (pv 6) (pa_cons (pe_op op_add (pv 7) (pv 4)) pa_nil)))) (pg_sub (pv 2) (pv 3) set_list))))) (pss_one (ps_ret (pe_tup (pa_cons pe_str (pa_cons (pe_ix (ix_A K rfl) (pv 0) pe_int (fun _ _ => rfl)) (pa_cons (pe_callTy (call_tupA K rfl) (by rfl) A.z_tuple (by decide +kernel) (pa_cons (pv 2) pa_nil)) pa_nil)))))))), ?_⟩
    have lR : (chV R).length = R.length := by unfold chV; rw [List.length_map]
    walk_at "go"
    refine w_ixT hNt.a (atI_nat (j := 2) rfl) ?_
    walk_at "go"
    refine ⟨N.t, _, rfl, .inr (SqT.of hNt.t), fun l nl => ?_⟩
    have s1 : Same H (upd H l (.lst (N.ps.map V.ref))) := same_new nl
    have e1 : (upd H l (.lst (N.ps.map V.ref))) l = some (.lst (N.ps.map V.ref)) := upd_same
    generalize upd H l (.lst (N.ps.map V.ref)) = H1 at *
    walk_at "go"
    refine ⟨rl, rfl, ⟨_, SqL.of (s1 _ _ er)⟩, ?_⟩
    refine fo walk_list (fun i σ H' => ∃ x3 x4 x5 x6 x7, ∃ (ps : List Addr) (rs : List Rd), σ = [some (.ref N.a), some (.ref rl), some (.ref l), x3, x4, x5, x6, x7] ∧ Same H H' ∧ H' l = some (.lst (ps.map V.ref)) ∧ RdsAt H' ps rs ∧ Near (30 * i) N.rs rs)
      ⟨none, none, none, none, none, N.ps, N.rs, rfl, s1, e1, ⟨hNt.pl, fun i hi => s1 _ _ (hNt.r i hi)⟩, rfl, fun i hi => ⟨rfl, rfl, by omega, by omega⟩⟩ (fun i σ H' _ ⟨_, _, _, _, _, _, _, _, s', _⟩ => s'.lst er) ?_ ?_
    · rintro i x σ H2 H3 hi ⟨x3, x4, x5, x6, x7, ps, rs, rfl, s2, e2, ra, nr⟩ ⟨rfl, hx⟩
      rw [lR] at hi
      unfold chV at hx
      rw [List.getElem?_map, List.getElem?_eq_getElem hi] at hx
      cases hx
      have hm := List.getElem_mem hi
      have et := s2 _ _ (ca _ hm)
      obtain ⟨c1, c2, c3⟩ := cb _ hm
      generalize R[i] = t at *
      have hlt : t.2.1 < rs.length := by rw [nr.l]; exact c1
      have nr' := nr.r _ c1
      have er' := ra.r _ hlt
      refine w_gT et rfl ?_
      walk_at "go"
      refine w_ixL e2 (at_ref (by rw [ra.l]; exact hlt)) ?_
      walk_at "go"
      refine w_gT er' rfl ?_
      unfold rdV
      walk_at "go"
      refine w_newT (sz rfl) fun p H4 n4 s4 e4 => ?_
      walk_at "go"
      refine w_setL (s4 _ _ e2) (by rw [List.length_map, ra.l]; exact hlt) fun H5 m5 e5 => ?_
      rw [set_refs] at e5
      have t5 := Tp.sm m5 (s4 _ _ e2)
      walk_at "go"
      refine ⟨_, _, _, _, _, ps.set t.2.1 p, rs.set t.2.1 ⟨(rat rs t.2.1).a, (rat rs t.2.1).b, (rat rs t.2.1).v + t.2.2⟩, rfl, same_sm (s2.trans s4) m5 nl, e5, ((ra.tp (Tp.of s4)).tp t5).set hlt (t5 _ _ e4), by rw [List.length_set]; exact nr.l, fun j hj => ?_⟩
      rw [rat_set hlt]
      have nj := nr.r j hj
      by_cases c : j = t.2.1
      · rw [if_pos c, c]
        refine ⟨nr'.1, nr'.2.1, ?_, ?_⟩
        · show _ ≤ (rat rs t.2.1).v + t.2.2 - _
          omega
        · show (rat rs t.2.1).v + t.2.2 - _ ≤ _
          omega
      · rw [if_neg c]
        exact ⟨nj.1, nj.2.1, by omega, by omega⟩
    · rintro σ H2 ⟨x3, x4, x5, x6, x7, ps, rs, rfl, s2, e2, ra, nr⟩
      rw [lR] at nr
      walk_at "go"
      refine w_ixT (s2 _ _ hNt.a) (atI_nat (j := 1) rfl) ?_
      walk_at "go"
      refine w_tupA e2 fun tp H3 n3 s3 e3 => ?_
      walk_at "go"
      refine w_newT (sz rfl) fun p H4 n4 s4 e4 => ?_
      walk_at "go"
      have ra4 := ra.tp (Tp.of (s3.trans s4))
      exact q ⟨p, N.m, tp, ps, N.nm, rs⟩ H4 (s2.trans (s3.trans s4)) ⟨e4, (s2.trans (s3.trans s4)) _ _ hNt.m, s4 _ _ e3, ra4.l, ra4.r⟩ rfl nr
/-! ### some places -/
def spSome : Sp := fun vs H Q _ => ∃ (b dp : Addr) (ds : List Int) (n k : Nat), vs = [.ref b, .int (n : Int), .int (k : Int)] ∧ BoxAt H b dp ds ∧ 0 < n ∧ k ≤ 4 ∧
  ∀ l, ∀ (is : List Nat) H', Sm [b] H H' → BoxAt H' b dp ds → H l = none → H' l = some (.lst (nqV is)) → is.length ≤ 4 → (∀ x ∈ is, x < n) → Q (.ref l) H'
theorem nq_snoc {q : List Nat} {i : Nat} : nqV q ++ [.int (i : Int)] = nqV (q ++ [i]) := by unfold nqV; rw [List.map_append]; rfl
theorem ok_law_some (A : All K mg) : FnOk P w K mg base CX0 2 A.a_law_some A.d_law_some ["_law_box", "_law_many", "_law_most"] spSome := by
  refine A.F_law_some.ok sc_law_some (fun vs H Q E h => ?_) (fun cdv A' outer s H vs Q E hr h => ?_)
  · obtain ⟨b, dp, ds, n, k, rfl, _⟩ := h
    rfl
  · obtain ⟨b, dp, ds, n, k, rfl, bx, hn, k4, q⟩ := h
    refine ⟨_, (pss_cons (ps_set (i := 3) sc_law_some.nd rfl (by first | exact Or.inl rfl | exact Or.inr rfl) (pe_lst pa_nil)) (pss_cons (ps_for PassesOwn.never rfl (pi_range1 rfl A.z_range (pa_cons (pe_callB (call_min2A rfl) (by rfl) A.z_min (by decide +kernel) (pa_cons (pv 2) (pa_cons (pv 1) pa_nil))) pa_nil)) (pg_name (i := 4) sc_law_some.nd rfl (by first | exact Or.inl rfl | exact Or.inr rfl)) (pss_cons (ps_set (i := 5) sc_law_some.nd rfl (by first | exact Or.inl rfl | exact Or.inr rfl) (pe_call (ok_law_draw A) hr (by rfl) A.g_law_draw A.F_law_draw.kp A.b_law_draw .nil pass0 (pa_cons (pv 0) (pa_cons (pv 1) pa_nil)))) (pss_one (ps_if (pt_cmpR (op_niA K rfl) (pv 5) (pv 3) rfl) (pss_one (ps_expr (pe_bm PySem.F.plainAttrs_list PySem.F.slot_list_append PySem.F.type_list_append mt_append (pv 3) (pa_cons (pv 5) pa_nil)))) pss_nil)))) (pss_one (ps_ret (pe_callB cr_sorted (by rfl) A.z_sorted (by decide +kernel) (pa_cons (pv 3) pa_nil)))))), ?_⟩
    walk_at "go"
    refine w_newL (sz rfl) fun l H1 nl s1 e1 => ?_
    obtain ⟨nlb, nld⟩ := bx.nb nl
    walk_at "go"
    obtain ⟨m, hm, hm4⟩ : ∃ m : Nat, TL.minI (k : Int) (n : Int) = (m : Int) ∧ m ≤ 4 := by
      unfold TL.minI
      split
      · exact ⟨n, rfl, by omega⟩
      · exact ⟨k, rfl, k4⟩
    rw [hm]
    refine ⟨(m : Int), rfl, by omega, by omega, ?_⟩
    rw [Int.toNat_natCast]
    refine fo walk_r0 (fun i σ H' => ∃ x4 x5, ∃ is : List Nat, σ = [some (.ref b), some (.int (n : Int)), some (.int (k : Int)), some (.ref l), x4, x5] ∧ Sm [b] H H' ∧ BoxAt H' b dp ds ∧ H' l = some (.lst (nqV is)) ∧ is.length ≤ i ∧ ∀ x ∈ is, x < n)
      ⟨none, none, [], rfl, Sm.of s1 _, bx.same s1, e1, Nat.le_refl _, fun x hx => (by cases hx)⟩ (fun _ _ _ _ _ => trivial) ?_ ?_
    · rintro i x σ H2 H3 hi ⟨x4, x5, is, rfl, m2, b2, e2, li, bi⟩ ⟨rfl, rfl⟩
      walk_at "go"
      refine ⟨b, dp, ds, n, rfl, b2, hn, fun d H4 hd m4 b4 t4 => ?_⟩
      have e4 := m4 _ _ (fun hm => nlb (List.mem_singleton.mp hm)) e2
      walk_at "go"
      refine ⟨l, _, rfl, .inl (SqL.of e4), rfl, flat_nV is, ?_⟩
      walk_at "go"
      cases (if true = true then !inV (V.int (d : Int)) (nqV is) else inV (V.int (d : Int)) (nqV is)) with
      | true =>
        rw [if_pos rfl]
        walk_at "go"
        refine ⟨tyL e4, ?_⟩
        walk_at "go"
        refine w_app e4 (by unfold nqV; rw [List.length_map]; omega) fun H5 m5 e5 => ?_
        rw [nq_snoc] at e5
        walk_at "go"
        refine ⟨_, _, is ++ [d], rfl, smb (m2.trans m4) m5 nl, b4.keep m5 nlb nld, e5, by rw [List.length_append, List.length_singleton]; omega, fun x hx => ?_⟩
        rcases List.mem_append.mp hx with z | z
        · exact bi x z
        · rw [List.mem_singleton.mp z]; exact hd
      | false =>
        rw [if_neg Bool.false_ne_true]
        walk_at "go"
        exact ⟨_, _, is, rfl, m2.trans m4, b4, e4, by omega, bi⟩
    · rintro σ H2 ⟨x4, x5, is, rfl, m2, b2, e2, li, bi⟩
      walk_at "go"
      rw [nqV_ints] at e2
      refine ⟨l, _, rfl, SqL.of e2, by rw [List.length_map]; omega, fun ns p pm _ np => ?_⟩
      have mem : ∀ y ∈ ns, ∃ j : Nat, y = (j : Int) ∧ j < n := fun y hy => by
        obtain ⟨j, hj, e⟩ := List.mem_map.mp (pm.mem_iff.mp hy)
        exact ⟨j, e.symm, bi j hj⟩
      have en : ns.map V.int = nqV (ns.map Int.toNat) := by
        unfold nqV
        rw [List.map_map]
        refine List.map_congr_left fun y hy => ?_
        obtain ⟨j, rfl, _⟩ := mem y hy
        rfl
      have s3 : Same H2 (upd H2 p (.lst (ns.map V.int))) := same_new np
      have hp : H p = none := smb_free m2 (b2.nb np).1 np
      walk_at "go"
      refine q p (ns.map Int.toNat) _ (m2.trans (Sm.of s3 _)) (b2.same s3) hp (by rw [← en]; exact upd_same) (by rw [List.length_map, pm.length_eq, List.length_map]; omega) fun x hx => ?_
      obtain ⟨y, hy, e⟩ := List.mem_map.mp hx
      obtain ⟨j, rfl, hj⟩ := mem y hy
      rw [← e]
      exact hj
/-! ### lies -/
def spLied : Sp := fun vs H Q _ => ∃ (b dp : Addr) (ds : List Int) (N : Net) (k : Nat), vs = [.ref b, .ref N.a, .int (k : Int)] ∧ BoxAt H b dp ds ∧ NetAt H N ∧ 0 < N.rs.length ∧ k ≤ 4 ∧
  ∀ N' H', Sm [b] H H' → BoxAt H' b dp ds → NetAt H' N' → N'.nm = N.nm → Near 120 N.rs N'.rs → Q (.ref N'.a) H'
theorem ok_law_lied (A : All K mg) : FnOk P w K mg base CX0 3 A.a_law_lied A.d_law_lied ["_law_box", "_law_net_here", "_law_most"] spLied := by
  refine A.F_law_lied.ok sc_law_lied (fun vs H Q E h => ?_) (fun cdv A' outer s H vs Q E hr h => ?_)
  · obtain ⟨b, dp, ds, N, k, rfl, _⟩ := h
    rfl
  · obtain ⟨b, dp, ds, N, k, rfl, bx, hNt, hr0, k4, q⟩ := h
    refine ⟨_, (pss_cons (ps_setLc (i := 3) (hc := rfl) (hN := sc_law_lied.nd) (hy := rfl) (hyl := rfl) (hsw := sw_true rfl rfl rfl (by decide +kernel)) (own := [("_law_index", 4)]) (g := (gName 4)) (tt := tYes) (pi_list (pe_call (ok_law_some A) hr (by rfl) A.g_law_some A.F_law_some.kp A.b_law_some .nil pass0 (pa_cons (pv 0) (pa_cons (pe_callB (call_lenA K rfl) (by rfl) A.z_len (by decide +kernel) (pa_cons (pe_ix (ix_A K rfl) (pv 1) pe_int (fun _ _ => rfl)) pa_nil)) (pa_cons (pv 2) pa_nil))))) (blkOk_by (own := [("_law_index", 4)]) (N := ["_law_box", "_law_net_here", "_law_most", "_law_rows", "_law_index"]) (sc := defScope s_law_lied) (by decide +kernel)) (fun _ _ _ _ _ => (pg_name (i := 4) sc_law_lied.nd rfl (by first | exact Or.inl rfl | exact Or.inr rfl))) (fun _ _ _ _ _ => pts_nil) (fun _ _ _ _ _ => (pe_tup (pa_cons (pv 4) (pa_cons (pe_op op_mul (pe_op op_add pe_int (pe_call (ok_law_draw A) (hr.mono (by decide)) (by rfl) A.g_law_draw A.F_law_draw.kp A.b_law_draw .nil pass0 (pa_cons (pv 0) (pa_cons pe_int pa_nil)))) (pe_op op_sub (pe_op op_mul pe_int (pe_call (ok_law_draw A) (hr.mono (by decide)) (by rfl) A.g_law_draw A.F_law_draw.kp A.b_law_draw .nil pass0 (pa_cons (pv 0) (pa_cons pe_int pa_nil)))) pe_int)) pa_nil))))) (pss_one (ps_ret (pe_call (ok_law_changed A) (hr.mono (by decide)) (by rfl) A.g_law_changed A.F_law_changed.kp A.b_law_changed .nil pass0 (pa_cons (pv 1) (pa_cons (pv 3) pa_nil)))))), ?_⟩
    walk_at "go"
    refine w_ixT hNt.a (atI_nat (j := 2) rfl) ?_
    walk_at "go"
    refine w_lenT hNt.t ?_
    rw [List.length_map, hNt.pl]
    walk_at "go"
    refine ⟨b, dp, ds, N.rs.length, k, rfl, bx, hr0, k4, fun l is H1 m1 b1 nl e1 li bi => ?_⟩
    have lv : (nqV is).length = is.length := by unfold nqV; rw [List.length_map]
    have nlb := (bx.nb nl).1
    refine ⟨l, rfl, ⟨_, SqL.of e1⟩, fun L nL => ?_⟩
    refine lcM walk_list (by omega) nL b1 (fun i acc H' => ∃ R : List Ch, acc = chV R ∧ R.length = i ∧ ChAt H' R ∧ ∀ t ∈ R, t.2.1 < N.rs.length ∧ -30 ≤ t.2.2 ∧ t.2.2 ≤ 30) (fun _ _ _ => ⟨[], rfl, rfl, fun t h => (by cases h), fun t h => (by cases h)⟩) (fun i acc H' m' _ => SqL.of (m' _ _ (fun hm => nlb (List.mem_singleton.mp hm)) e1)) ?_ ?_
    · rintro i acc x H2 H3 F No hi m2 b2 eL ⟨R, rfl, lR, ca, cb⟩ ⟨rfl, hx⟩ hF
      rw [lv] at hi
      unfold nqV at hx
      rw [List.getElem?_map, List.getElem?_eq_getElem hi] at hx
      cases hx
      have hj := bi _ (List.getElem_mem hi)
      generalize is[i] = j at *
      walk_at "go"
      refine ⟨rfl, ?_⟩
      walk_at "go"
      rw [if_pos rfl]
      walk_at "go"
      refine ⟨b, dp, ds, 30, rfl, b2, by decide, fun d H4 hd m4 b4 t4 => ?_⟩
      walk_at "go"
      refine ⟨b, dp, ds, 2, rfl, b4, by decide, fun f H5 hf m5 b5 t5 => ?_⟩
      walk_at "go"
      refine w_I (.inl ⟨by decide, by decide⟩) ?_
      walk_at "go"
      refine w_I (.inl ⟨by omega, by omega⟩) ?_
      walk_at "go"
      refine w_newT (sz rfl) fun p H6 n6 s6 e6 => ?_
      have m26 := (m4.trans m5).trans (Sm.of s6 [b])
      have t26 := (t4.trans t5).trans (Tp.of s6)
      refine hF _ _ m26 (b5.same s6) fun H7 m7 t7 _ e7 => ⟨R ++ [(p, j, (1 + (d : Int)) * (2 * (f : Int) - 1))], by unfold chV; rw [List.map_append]; rfl, by rw [List.length_append, lR]; rfl, fun t ht => ?_, fun t ht => ?_⟩
      · rcases List.mem_append.mp ht with z | z
        · exact t7 _ _ (t26 _ _ (ca t z))
        · rw [List.mem_singleton.mp z]; exact t7 _ _ e6
      · rcases List.mem_append.mp ht with z | z
        · exact cb t z
        · rw [List.mem_singleton.mp z]
          refine ⟨hj, ?_⟩
          show -30 ≤ (1 + (d : Int)) * (2 * (f : Int) - 1) ∧ (1 + (d : Int)) * (2 * (f : Int) - 1) ≤ 30
          have : f = 0 ∨ f = 1 := by omega
          rcases this with z | z
          · rw [z]
            have : (2 * ((0 : Nat) : Int) - 1) = -1 := by decide
            rw [this]
            omega
          · rw [z]
            have : (2 * ((1 : Nat) : Int) - 1) = 1 := by decide
            rw [this]
            omega
    · rintro acc H2 m2 b2 eL _ ⟨R, rfl, lR, ca, cb⟩
      rw [lv] at lR
      walk_at "go"
      refine ⟨N, L, R, rfl, hNt.tp (bx.tp (m1.trans m2)), eL, ca, cb, fun N' H3 s3 a3 e3 nr => ?_⟩
      refine q N' H3 ((m1.trans m2).trans (Sm.of s3 _)) (b2.same s3) a3 e3 ⟨nr.l, fun i hi => ?_⟩
      have := nr.r i hi
      exact ⟨this.1, this.2.1, by omega, by omega⟩
/-! ### a net -/
theorem NG.mk_net {N' : Net} {L : List Pr} {hs : List Int} {rs : List Rd} (n2 : 2 ≤ N'.n) (n4 : N'.n ≤ 4) (l9 : L.length ≤ 9) (gd : PrGd N'.n L) (jn : JnL N'.n L) (hb : ∀ j, j < N'.n → -20 ≤ gi hs j ∧ gi hs j ≤ 20) (er : rs = L.map (rdOf hs)) (nr : Near 120 rs N'.rs) (nm : ∀ s ∈ N'.nm, s.length ≤ 10) : NG N' := by
  have lr : N'.rs.length = L.length := by rw [nr.l, er, List.length_map]
  have base : ∀ i (h : i < L.length), rat rs i = rdOf hs L[i] := fun i h => by
    rw [er]
    unfold rat
    rw [List.getD_eq_getElem?_getD, List.getElem?_map, List.getElem?_eq_getElem h]
    rfl
  have at_ : ∀ i (h : i < L.length), (rat N'.rs i).a = L[i].2.1 ∧ (rat N'.rs i).b = L[i].2.2 ∧ -160 ≤ (rat N'.rs i).v ∧ (rat N'.rs i).v ≤ 160 := fun i h => by
    have := nr.r i (by rw [er, List.length_map]; exact h)
    rw [base i h] at this
    obtain ⟨q1, q2, q3⟩ := gd _ (List.getElem_mem h)
    have b1 := hb _ q1
    have b2 := hb _ q2
    unfold rdOf at this
    simp only at this
    exact ⟨this.1, this.2.1, by omega, by omega⟩
  have mem : ∀ r ∈ N'.rs, ∃ i, ∃ h : i < L.length, r = rat N'.rs i := fun r hr => by
    obtain ⟨i, hi⟩ := List.getElem?_of_mem hr
    have hlt : i < N'.rs.length := (List.getElem?_eq_some_iff.mp hi).1
    exact ⟨i, by omega, by simp [rat, List.getD_eq_getElem?_getD, hi]⟩
  refine ⟨⟨by omega, n4, by omega, ⟨fun r hr => ?_, fun r hr => ?_, fun r hr => ?_⟩⟩, fun χ h0 hχ => jn χ h0 fun t ht => ?_, nm, fun r hr => ?_⟩
  · obtain ⟨i, h, rfl⟩ := mem r hr
    rw [(at_ i h).1]
    exact (gd _ (List.getElem_mem h)).1
  · obtain ⟨i, h, rfl⟩ := mem r hr
    rw [(at_ i h).2.1]
    exact (gd _ (List.getElem_mem h)).2.1
  · obtain ⟨i, h, rfl⟩ := mem r hr
    rw [(at_ i h).1, (at_ i h).2.1]
    exact (gd _ (List.getElem_mem h)).2.2
  · obtain ⟨i, hi⟩ := List.getElem?_of_mem ht
    obtain ⟨hlt, e⟩ := List.getElem?_eq_some_iff.mp hi
    have := hχ (rat N'.rs i) (TL.rat_mem (by omega))
    rw [(at_ i hlt).1, (at_ i hlt).2.1, e] at this
    exact this
  · obtain ⟨i, h, rfl⟩ := mem r hr
    have := (at_ i h).2.2
    omega
def spNet : Sp := fun vs H Q _ => ∃ (b dp : Addr) (ds : List Int), vs = [.ref b, .int 4, .int 6] ∧ BoxAt H b dp ds ∧ ∀ N H', Sm [b] H H' → BoxAt H' b dp ds → NetAt H' N → NG N → Q (.ref N.a) H'
theorem ok_law_net (A : All K mg) : FnOk P w K mg base CX0 4 A.a_law_net A.d_law_net ["_law_box", "_law_most_marks", "_law_most_extra"] spNet := by
  refine A.F_law_net.ok sc_law_net (fun vs H Q E h => ?_) (fun cdv A' outer s H vs Q E hr h => ?_)
  · obtain ⟨b, dp, ds, rfl, _⟩ := h
    rfl
  · obtain ⟨b, dp, ds, rfl, bx, q⟩ := h
    refine ⟨_, (pss_cons (ps_set (i := 3) sc_law_net.nd rfl (by first | exact Or.inl rfl | exact Or.inr rfl) (pe_op op_add pe_int (pe_call (ok_law_draw A) (hr.mono (by decide)) (by rfl) A.g_law_draw A.F_law_draw.kp A.b_law_draw .nil pass0 (pa_cons (pv 0) (pa_cons (pe_op op_sub (pv 1) pe_int) pa_nil))))) (pss_cons (ps_set (i := 4) sc_law_net.nd rfl (by first | exact Or.inl rfl | exact Or.inr rfl) (pe_call (ok_law_pairs A) hr (by rfl) A.g_law_pairs A.F_law_pairs.kp A.b_law_pairs .nil pass0 (pa_cons (pv 0) (pa_cons (pv 3) (pa_cons (pe_call (ok_law_draw A) (hr.mono (by decide)) (by rfl) A.g_law_draw A.F_law_draw.kp A.b_law_draw .nil pass0 (pa_cons (pv 0) (pa_cons (pe_op op_add (pv 2) pe_int) pa_nil))) pa_nil))))) (pss_cons (ps_set (i := 5) sc_law_net.nd rfl (by first | exact Or.inl rfl | exact Or.inr rfl) (pe_call (ok_law_kept_net A) (hr.mono (by decide)) (by rfl) A.g_law_kept_net A.F_law_kept_net.kp A.b_law_kept_net .nil pass0 (pa_cons (pv 4) (pa_cons (pe_call (ok_law_heights A) (hr.mono (by decide)) (by rfl) A.g_law_heights A.F_law_heights.kp A.b_law_heights .nil pass0 (pa_cons (pv 0) (pa_cons (pv 3) pa_nil))) pa_nil)))) (pss_one (ps_ret (pe_call (ok_law_lied A) hr (by rfl) A.g_law_lied A.F_law_lied.kp A.b_law_lied .nil pass0 (pa_cons (pv 0) (pa_cons (pv 5) (pa_cons (pe_call (ok_law_draw A) (hr.mono (by decide)) (by rfl) A.g_law_draw A.F_law_draw.kp A.b_law_draw .nil pass0 (pa_cons (pv 0) (pa_cons pe_int pa_nil))) pa_nil))))))))), ?_⟩
    walk_at "go"
    refine ⟨b, dp, ds, 3, rfl, bx, by decide, fun d H1 hd m1 b1 t1 => ?_⟩
    walk_at "go"
    refine ⟨b, dp, ds, 7, rfl, b1, by decide, fun e H2 he m2 b2 t2 => ?_⟩
    have en : ((2 : Int) + (d : Int)) = ((2 + d : Nat) : Int) := by omega
    rw [en]
    refine ⟨b, dp, ds, 2 + d, e, rfl, b2, by omega, by omega, by omega, fun l L H3 m3 b3 nl e3 pa ll gd jn => ?_⟩
    have nlb := (b2.nb nl).1
    walk_at "go"
    refine ⟨b, dp, ds, 2 + d, rfl, b3, by omega, by omega, fun hp hs H4 m4 b4 e4 lh hb => ?_⟩
    have t34 := b3.tp m4
    walk_at "go"
    refine ⟨l, hp, L, hs, rfl, m4 _ _ (fun hm => nlb (List.mem_singleton.mp hm)) e3, pa.tp t34, e4, by omega, by omega, by rw [lh]; exact gd, fun N H5 s5 a5 ln er bn => ?_⟩
    walk_at "go"
    refine ⟨b, dp, ds, 5, rfl, b4.same s5, by decide, fun k H6 hk m6 b6 t6 => ?_⟩
    walk_at "go"
    refine ⟨b, dp, ds, N, k, rfl, b6, a5.tp t6, by rw [er, List.length_map]; omega, by omega, fun N' H7 m7 b7 a7 e7 nr => ?_⟩
    have hn' : N'.n = 2 + d := by
      have : N'.n = N.n := congrArg List.length e7
      rw [this, ln, lh]
    refine q N' H7 ((((m1.trans m2).trans (m3.trans m4)).trans (Sm.of s5 _)).trans (m6.trans m7)) b7 a7 (NG.mk_net (L := L) (hs := hs) (rs := N.rs) (by omega) (by omega) (by omega) (by rw [hn']; exact gd) (by rw [hn']; exact jn) (by rw [hn']; exact hb) er nr (by rw [e7]; exact bn))
def spAnyNet : Sp := spNet
theorem litl : (("lone" : Str)).length ≤ 10 := by decide +kernel
theorem ok_law_any_net (A : All K mg) : FnOk P w K mg base CX0 5 A.a_law_any_net A.d_law_any_net ["_law_box", "_law_most_marks", "_law_most_extra"] spAnyNet := by
  refine A.F_law_any_net.ok sc_law_any_net (fun vs H Q E h => ?_) (fun cdv A' outer s H vs Q E hr h => ?_)
  · obtain ⟨b, dp, ds, rfl, _⟩ := h
    rfl
  · obtain ⟨b, dp, ds, rfl, bx, q⟩ := h
    refine ⟨_, (pss_cons (ps_if (pt_cmpR op_eq (pe_call (ok_law_draw A) (hr.mono (by decide)) (by rfl) A.g_law_draw A.F_law_draw.kp A.b_law_draw .nil pass0 (pa_cons (pv 0) (pa_cons pe_int pa_nil))) pe_int (nomark _)) (pss_one (ps_ret (pe_tup (pa_cons pe_str (pa_cons (pe_tup (pa_cons pe_str pa_nil)) (pa_cons (pe_tup pa_nil) pa_nil)))))) pss_nil) (pss_one (ps_ret (pe_call (ok_law_net A) hr (by rfl) A.g_law_net A.F_law_net.kp A.b_law_net .nil pass0 (pa_cons (pv 0) (pa_cons (pv 1) (pa_cons (pv 2) pa_nil))))))), ?_⟩
    walk_at "go"
    refine ⟨b, dp, ds, 12, rfl, bx, by decide, fun d H1 hd m1 b1 t1 => ?_⟩
    walk_at "go"
    refine w_ifd (fun c => ?_) (fun c => ?_)
    · walk_at "go"
      refine w_newT (sz rfl) fun mp H2 n2 s2 e2 => ?_
      walk_at "go"
      refine w_newT (sz rfl) fun tp H3 n3 s3 e3 => ?_
      walk_at "go"
      refine w_newT (sz rfl) fun p H4 n4 s4 e4 => ?_
      have s14 := (s2.trans s3).trans s4
      walk_at "go"
      refine q ⟨p, mp, tp, [], [("lone" : Str)], []⟩ H4 (m1.trans (Sm.of s14 _)) (b1.same s14) ⟨e4, s4 _ _ (s3 _ _ e2), s4 _ _ e3, rfl, fun i hi => absurd hi (Nat.not_lt_zero i)⟩ ⟨⟨Nat.le_refl _, by show 1 ≤ 4; decide, by show 0 ≤ 9; decide, ⟨fun r hr => (by cases hr), fun r hr => (by cases hr), fun r hr => (by cases hr)⟩⟩, fun χ h0 _ j hj => ?_, fun s hs => ?_, fun r hr => (by cases hr)⟩
      · have : j < 1 := hj
        rw [show j = 0 by omega]
        exact h0
      · rw [List.mem_singleton.mp hs]
        exact litl
    · walk_at "go"
      exact ⟨b, dp, ds, rfl, b1, fun N H2 m2 b2 a2 g2 => q N H2 (m1.trans m2) b2 a2 g2⟩
end
end TW

namespace TW
open PySem L2
/-- one step of a reading -/
local macro_rules | `(tactic| walk_at "st") => `(tactic| first
  | with_reducible refine w_seq ?_ | with_reducible refine w_next ?_ | with_reducible refine w_nx ?_ | with_reducible refine w_rt ?_ | with_reducible refine w_asg ?_ | with_reducible refine w_name ?_
  | with_reducible refine w_op ?_ | with_reducible refine w_un ?_ | with_reducible refine w_var rfl ?_ | with_reducible refine w_c ?_ | with_reducible refine w_ret ?_ | with_reducible refine w_drop ?_
  | with_reducible refine w_if ?_ | with_reducible refine w_test ?_ | with_reducible refine w_tB ?_ | with_reducible refine w_k ?_ | with_reducible refine w_and ?_ | with_reducible refine w_or ?_ | with_reducible refine w_yes ?_
  | with_reducible refine w_nil ?_ | with_reducible refine w_cons ?_ | with_reducible refine w_cb ?_ | with_reducible refine w_call ?_ | with_reducible refine w_I0 ?_ | with_reducible refine w_neg ?_
  | with_reducible refine w_eqI ?_ | with_reducible refine w_neI ?_ | with_reducible refine w_abs ?_ | with_reducible refine w_min2 ?_ | with_reducible refine w_intI ?_ | with_reducible refine w_intB ?_
  | with_reducible refine w_isN0 ?_ | with_reducible refine w_isN1 ?_ | with_reducible refine w_isN2 ?_ | with_reducible refine w_noN0 ?_ | with_reducible refine w_noN1 ?_ | with_reducible refine w_noN2 ?_
  | with_reducible refine w_sub ?_ | with_reducible refine w_for ?_ | with_reducible refine w_lc ?_ | with_reducible refine w_iT ?_ | with_reducible refine w_iL ?_ | with_reducible refine w_iE ?_ | with_reducible refine w_iEl ?_
  | with_reducible refine w_iZ ?_ | with_reducible refine w_iR1 ?_ | with_reducible refine w_iR2 ?_ | with_reducible refine w_gc ?_ | with_reducible refine w_gn ?_ | with_reducible refine w_bm ?_ | with_reducible refine w_sfld ?_ | with_reducible refine w_tfld ?_ | with_reducible refine w_meth ?_ | with_reducible refine w_make ?_ | with_reducible refine w_tup ?_ | with_reducible refine w_lst ?_)
local macro_rules | `(tactic| walk_at "go") => `(tactic| repeat walk_at "st")
local macro_rules | `(tactic| walk_at "nx") => `(tactic| repeat (first | with_reducible refine w_next ?_ | with_reducible refine w_nx ?_ | with_reducible refine w_name ?_ | with_reducible refine w_gc ?_ | with_reducible refine w_gn ?_))

open TL (Rd rat miss gi absI Stp BF go PW Le SS AW VW WW)
section
variable {P : Program} {w : World} {K : PySem.W.Frag} {mg : Str → Option Value} {base : Heap}
/-! ### the law's misses and cost -/
def spLMisses (K : PySem.W.Frag) : Sp := fun vs H Q _ => ∃ (N : Net) (q : Addr) (hs : List Int), vs = [.ref N.a, .ref q] ∧ NetAt H N ∧ NOk N ∧ Ints K H q hs ∧ hs.length = N.n ∧ ∀ l H', Same H H' → H l = none → H' l = some (.lst ((missesL N.rs hs).map V.int)) → Q (.ref l) H'
theorem ok_law_misses (A : All K mg) : FnOk P w K mg base CX0 1 A.a_law_misses A.d_law_misses ["_law_net_here", "_law_heights_here"] (spLMisses K) := by
  refine A.F_law_misses.ok sc_law_misses (fun vs H Q E h => ?_) (fun cdv A' outer s H vs Q E hr h => ?_)
  · obtain ⟨N, q, hs, rfl, _⟩ := h
    rfl
  · obtain ⟨N, q, hs, rfl, hNt, ok, hq, hl, k⟩ := h
    refine ⟨_, (pss_one (ps_ret (pe_lc (own := [("_law_a", 2), ("_law_b", 3), ("_law_value", 4)]) (g := (gTup K 3 (gCons (gName 2) (gCons (gName 3) (gCons (gName 4) gNil))))) (tt := tYes) rfl sc_law_misses.nd (pi_tup (pe_ix (ix_A K rfl) (pv 0) pe_int (fun _ _ => rfl))) (blkOk_by (own := [("_law_a", 2), ("_law_b", 3), ("_law_value", 4)]) (N := ["_law_net_here", "_law_heights_here", "_law_a", "_law_b", "_law_value"]) (sc := defScope s_law_misses) (by decide +kernel)) (fun _ _ _ _ _ => (pg_tupA K rfl rfl (pgs_cons (pg_name (i := 2) sc_law_misses.nd rfl (by first | exact Or.inl rfl | exact Or.inr rfl)) (pgs_cons (pg_name (i := 3) sc_law_misses.nd rfl (by first | exact Or.inl rfl | exact Or.inr rfl)) (pgs_cons (pg_name (i := 4) sc_law_misses.nd rfl (by first | exact Or.inl rfl | exact Or.inr rfl)) pgs_nil))))) (fun _ _ _ _ _ => pts_nil) (fun _ _ _ _ _ => (pe_op op_add (pe_op op_sub (pv 4) (pe_ix (ix_A K rfl) (pv 1) (pv 3) (fun _ _ => rfl))) (pe_ix (ix_A K rfl) (pv 1) (pv 2) (fun _ _ => rfl))))))), ?_⟩
    have r9 := ok.r9
    walk_at "go"
    refine w_ixT hNt.a (atI_nat (j := 2) rfl) ⟨N.t, rfl, ⟨_, SqT.of hNt.t⟩, fun L nL => ?_⟩
    refine lc walk_tup (by rw [List.length_map, hNt.pl]; omega) nL (fun i acc _ => acc = ((N.rs.take i).map fun r => miss r hs).map V.int) (fun _ _ _ => rfl) (fun i acc H' s' _ => s'.tup hNt.t) ?_ ?_
    · rintro i acc x H2 H3 F No hi s2 eL ea ⟨rfl, hx⟩ hF _
      rw [List.length_map, hNt.pl] at hi
      obtain ⟨rfl, er⟩ := rat_at (hNt.same s2) hi hx
      have hq2 : Ints K _ q hs := hq.same s2
      refine w_gT er rfl ?_
      unfold rdV
      walk_at "go"
      refine ⟨rfl, ?_⟩
      walk_at "go"
      rw [if_pos rfl]
      walk_at "go"
      refine hq2.ix (by rw [hl]; exact ok.ok.b _ (TL.rat_mem hi)) ?_
      walk_at "go"
      refine hq2.ix (by rw [hl]; exact ok.ok.a _ (TL.rat_mem hi)) ?_
      walk_at "go"
      refine hF _ _ (Same.refl _) fun H5 _ _ _ _ => ?_
      rw [ea, take_map (TL.rat_get hi), List.map_append]
      rfl
    · intro acc H2 s2 eL _ ea
      rw [List.length_map, hNt.pl, take_all] at ea
      walk_at "go"
      refine k L H2 s2 nL ?_
      rw [eL, ea]
      rfl
def spLCost (K : PySem.W.Frag) : Sp := fun vs H Q _ => ∃ (N : Net) (q : Addr) (hs : List Int), vs = [.ref N.a, .ref q] ∧ NetAt H N ∧ NOk N ∧ Ints K H q hs ∧ hs.length = N.n ∧ ∀ H', Same H H' → Q (.int (costL N.rs hs)) H'
theorem ok_law_cost (A : All K mg) : FnOk P w K mg base CX0 2 A.a_law_cost A.d_law_cost ["_law_net_here", "_law_heights_here"] (spLCost K) := by
  refine A.F_law_cost.ok sc_law_cost (fun vs H Q E h => ?_) (fun cdv A' outer s H vs Q E hr h => ?_)
  · obtain ⟨N, q, hs, rfl, _⟩ := h
    rfl
  · obtain ⟨N, q, hs, rfl, hNt, ok, hq, hl, k⟩ := h
    refine ⟨_, (pss_one (ps_ret (pe_callB (cr_sum rfl) (by rfl) A.z_sum (by decide +kernel) (pa_cons (pe_lc (own := [("_law_miss", 2)]) (g := (gName 2)) (tt := tYes) rfl sc_law_cost.nd (pi_list (pe_call (ok_law_misses A) hr (by rfl) A.g_law_misses A.F_law_misses.kp A.b_law_misses .nil pass0 (pa_cons (pv 0) (pa_cons (pv 1) pa_nil)))) (blkOk_by (own := [("_law_miss", 2)]) (N := ["_law_net_here", "_law_heights_here", "_law_miss"]) (sc := defScope s_law_cost) (by decide +kernel)) (fun _ _ _ _ _ => (pg_name (i := 2) sc_law_cost.nd rfl (by first | exact Or.inl rfl | exact Or.inr rfl))) (fun _ _ _ _ _ => pts_nil) (fun _ _ _ _ _ => (pe_callB call_absA (by rfl) A.z_abs (by decide +kernel) (pa_cons (pv 2) pa_nil)))) pa_nil)))), ?_⟩
    have r9 := ok.r9
    walk_at "go"
    refine ⟨N, q, hs, rfl, hNt, ok, hq, hl, fun p H1 s1 np ep => ?_⟩
    refine ⟨p, rfl, ⟨_, SqL.of ep⟩, fun L nL => ?_⟩
    have lm : (missesL N.rs hs).length = N.rs.length := by simp [missesL]
    refine lc walk_list (by rw [List.length_map, lm]; omega) nL (fun i acc _ => acc = (((missesL N.rs hs).take i).map absI).map V.int) (fun _ _ _ => rfl) (fun i acc H' s' _ => s'.lst ep) ?_ ?_
    · rintro i acc x H2 H3 F No hi s2 eL ea ⟨rfl, hx⟩ hF _
      rw [List.length_map] at hi
      rw [List.getElem?_map, List.getElem?_eq_getElem hi] at hx
      cases hx
      walk_at "go"
      refine ⟨rfl, ?_⟩
      walk_at "go"
      rw [if_pos rfl]
      walk_at "go"
      refine hF _ _ (Same.refl _) fun H5 _ _ _ _ => ?_
      rw [ea, take_map (List.getElem?_eq_getElem hi), List.map_append]
      rfl
    · intro acc H2 s2 eL _ ea
      rw [List.length_map, take_all] at ea
      walk_at "go"
      refine ⟨L, (missesL N.rs hs).map absI, rfl, SqL.of (by rw [eL, ea]), ?_⟩
      walk_at "go"
      exact k _ (s1.trans s2)
/-! ### sides, cuts, strength -/
abbrev Sd := Addr × List Nat
def sdV (L : List Sd) : List V := L.map fun t => V.ref t.1
def SdAt (H : Hp) (L : List Sd) : Prop := ∀ t ∈ L, H t.1 = some (.tup (nqV t.2))
theorem SdAt.tp {H H' : Hp} {L : List Sd} (a : SdAt H L) (t : Tp H H') : SdAt H' L := fun x hx => t _ _ (a x hx)
theorem SdAt.snoc {H : Hp} {L : List Sd} {t : Sd} (a : SdAt H L) (h : H t.1 = some (.tup (nqV t.2))) : SdAt H (L ++ [t]) := fun x hx => by
  rcases List.mem_append.mp hx with z | z
  · exact a x z
  · rw [List.mem_singleton.mp z]; exact h
theorem SdAt.app {H : Hp} {L M : List Sd} (a : SdAt H L) (b : SdAt H M) : SdAt H (L ++ M) := fun x hx => by
  rcases List.mem_append.mp hx with z | z
  · exact a x z
  · exact b x z
theorem sdV_snoc {L : List Sd} {t : Sd} : sdV L ++ [.ref t.1] = sdV (L ++ [t]) := by unfold sdV; rw [List.map_append]; rfl
theorem w_neNilT {H : Hp} {a b : Addr} {q : List Nat} {Q : VK} (h1 : H a = some (.tup (nqV q))) (h2 : H b = some (.tup [])) (k : Q (.bl (decide (q ≠ []))) H) : rNeD K (.ref a) (.ref b) H Q := by
  rw [nqV_ints] at h1
  refine ⟨_, _, .tup (SqT.of h1) (dp_ints _), .tup (SqT.of h2) .nil, sh_tup _, sh_tup [], ?_⟩
  have e : (!PyData.eqv (.tuple ((q.map fun j : Nat => (j : Int)).map PyData.int)) (.tuple [])) = decide (q ≠ []) := by
    show (!PyData.eqvAll _ []) = _
    rw [eqvAll_nil]
    cases q <;> simp
  rw [e]
  exact k
def spSides : Sp := fun vs H Q _ => ∃ n : Nat, vs = [.int (n : Int)] ∧ 1 ≤ n ∧ n ≤ 4 ∧ ∀ l, ∀ (L : List Sd) H', Same H H' → H' l = some (.lst (sdV L)) → SdAt H' L → L.map (·.2) = TL.sidesOf n → L.length ≤ 100 → Q (.ref l) H'
theorem ok_law_sides (A : All K mg) : FnOk P w K mg base CX0 1 A.a_law_sides A.d_law_sides ["_law_many"] spSides := by
  refine A.F_law_sides.ok sc_law_sides (fun vs H Q E h => ?_) (fun cdv A' outer s H vs Q E hr h => ?_)
  · obtain ⟨n, rfl, _⟩ := h
    rfl
  · obtain ⟨n, rfl, n1, n4, q⟩ := h
    refine ⟨_, (pss_cons (ps_set (i := 1) sc_law_sides.nd rfl (by first | exact Or.inl rfl | exact Or.inr rfl) (pe_lst (pa_cons (pe_tup pa_nil) pa_nil))) (pss_cons (ps_for PassesOwn.never rfl (pi_range2 rfl A.z_range (pa_cons pe_int (pa_cons (pv 0) pa_nil))) (pg_name (i := 2) sc_law_sides.nd rfl (by first | exact Or.inl rfl | exact Or.inr rfl)) (pss_one (ps_set (i := 1) sc_law_sides.nd rfl (by first | exact Or.inl rfl | exact Or.inr rfl) (pe_op op_cat (pv 1) (pe_lc (own := [("_law_side", 3)]) (g := (gName 3)) (tt := tYes) rfl sc_law_sides.nd (pi_list (pv 1)) (blkOk_by (own := [("_law_side", 3)]) (N := ["_law_many", "_law_sides_here", "_law_mark", "_law_side"]) (sc := defScope s_law_sides) (by decide +kernel)) (fun _ _ _ _ _ => (pg_name (i := 3) sc_law_sides.nd rfl (by first | exact Or.inl rfl | exact Or.inr rfl))) (fun _ _ _ _ _ => pts_nil) (fun _ _ _ _ _ => (pe_op (op_catA1 K rfl) (pv 3) (pe_tup (pa_cons (pv 2) pa_nil))))))))) (pss_one (ps_ret (pe_lc (own := [("_law_side", 3)]) (g := (gName 3)) (tt := _) rfl sc_law_sides.nd (pi_list (pv 1)) (blkOk_by (own := [("_law_side", 3)]) (N := ["_law_many", "_law_sides_here", "_law_mark", "_law_side"]) (sc := defScope s_law_sides) (by decide +kernel)) (fun _ _ _ _ _ => (pg_name (i := 3) sc_law_sides.nd rfl (by first | exact Or.inl rfl | exact Or.inr rfl))) (fun _ _ _ _ _ => pts_one (pt_cmpR (op_neDA K rfl hr.units) (pv 3) (pe_tup pa_nil) (nomark _))) (fun _ _ _ _ _ => (pv 3))))))), ?_⟩
    have len : ∀ k (L : List Sd), k ≤ 3 → L.map (·.2) = TL.sidesTo k → L.length ≤ 8 := fun k L hk e => by
      have := congrArg List.length e
      rw [List.length_map, TL.sides_len] at this
      have : k = 0 ∨ k = 1 ∨ k = 2 ∨ k = 3 := by omega
      rcases this with z | z | z | z <;> subst z <;> omega
    walk_at "go"
    refine w_newT (sz rfl) fun ep H1 nep s1 e1 => ?_
    walk_at "go"
    refine w_newL (sz rfl) fun l0 H2 n2 s2 e2 => ?_
    walk_at "go"
    refine ⟨((1 : Nat) : Int), (n : Int), rfl, by omega, ?_⟩
    rw [show ((n : Int) - ((1 : Nat) : Int)).toNat = n - 1 by omega]
    refine fo (walk_r1 (m := 1) (n := n - 1)) (fun i σ H' => ∃ x2, ∃ (l : Addr) (L : List Sd), σ = [some (.int (n : Int)), some (.ref l), x2, none] ∧ Same H H' ∧ H' l = some (.lst (sdV L)) ∧ SdAt H' L ∧ L.map (·.2) = TL.sidesTo i)
      ⟨none, l0, [(ep, [])], rfl, s1.trans s2, e2, fun t ht => (by rw [List.mem_singleton.mp ht]; exact s2 _ _ e1), rfl⟩ (fun _ _ _ _ _ => trivial) ?_ ?_
    · rintro i x σ H3 H4 hi ⟨x2, l, L, rfl, s3, e3, sa, es⟩ ⟨rfl, rfl⟩
      have l8 := len i L (by omega) es
      have lv : (sdV L).length = L.length := by unfold sdV; rw [List.length_map]
      walk_at "go"
      refine ⟨l, rfl, ⟨_, SqL.of e3⟩, fun C nC => ?_⟩
      refine lc walk_list (by omega) nC (fun j acc H' => ∃ M : List Sd, acc = sdV M ∧ SdAt H' M ∧ M.map (·.2) = (L.take j).map fun t => t.2 ++ [i + 1]) (fun _ _ _ => ⟨[], rfl, fun t h => (by cases h), rfl⟩) (fun j acc H' s' _ => s'.lst e3) ?_ ?_
      · rintro j acc x H5 H6 F No hj s5 eC ⟨M, rfl, ma, me⟩ ⟨rfl, hx⟩ hF _
        rw [lv] at hj
        unfold sdV at hx
        rw [List.getElem?_map, List.getElem?_eq_getElem hj] at hx
        cases hx
        have hm := List.getElem_mem hj
        have et := s5 _ _ (sa _ hm)
        have tk : (L.take (j + 1)).map (fun t => t.2 ++ [i + 1]) = (L.take j).map (fun t => t.2 ++ [i + 1]) ++ [L[j].2 ++ [i + 1]] := take_map (f := fun t : Sd => t.2 ++ [i + 1]) (List.getElem?_eq_getElem hj)
        rw [tk, ← me] at hF
        have lt3 : L[j].2.length ≤ 3 := by
          have : L[j].2 ∈ TL.sidesTo i := by rw [← es]; exact List.mem_map.mpr ⟨_, hm, rfl⟩
          have := (TL.sides_in i _ this).1
          omega
        generalize L[j] = t at *
        walk_at "go"
        refine ⟨rfl, ?_⟩
        walk_at "go"
        rw [if_pos rfl]
        walk_at "go"
        refine w_newT (sz rfl) fun p H7 n7 s7 e7 => ?_
        have e1i : ((1 + i : Nat) : Int) = ((i + 1 : Nat) : Int) := by omega
        refine ⟨t.1, p, _, _, rfl, rfl, SqT.of (s7 _ _ et), SqT.of e7, ?_, fun z => ?_, fun _ z => (by cases z), fun _ _ p2 np2 => ?_⟩
        · unfold nqV
          rw [List.length_map]
          exact Nat.le_trans (show t.2.length + 1 ≤ 1000 by omega) (by decide)
        · have z2 : t.2 = [] := by unfold nqV at z; simpa using z
          refine hF _ _ s7 fun H8 m8 t8 s8 e8 => ⟨M ++ [(p, [i + 1])], sdV_snoc (t := (p, [i + 1])), ?_, by rw [List.map_append, z2]; rfl⟩
          refine (((ma.tp (Tp.of s7)).tp t8)).snoc ?_
          show H8 p = some (.tup [.int ((i + 1 : Nat) : Int)])
          rw [← e1i]
          exact t8 _ _ e7
        · have s8 : Same H7 (upd H7 p2 (.tup (nqV t.2 ++ [.int ((1 + i : Nat) : Int)]))) := same_new np2
          refine hF _ _ (s7.trans s8) fun H8 m8 t8 _ e8 => ⟨M ++ [(p2, t.2 ++ [i + 1])], sdV_snoc (t := (p2, t.2 ++ [i + 1])), ?_, by rw [List.map_append]; rfl⟩
          refine (((ma.tp (Tp.of (s7.trans s8))).tp t8)).snoc ?_
          show H8 p2 = some (.tup (nqV (t.2 ++ [i + 1])))
          rw [← nq_snoc, ← e1i]
          exact t8 _ _ upd_same
      · rintro acc H5 s5 eC _ ⟨M, rfl, ma, me⟩
        rw [lv, take_all] at me
        have lM : M.length ≤ 8 := by
          have := congrArg List.length me
          rw [List.length_map, List.length_map] at this
          omega
        have lmv : (sdV M).length = M.length := by unfold sdV; rw [List.length_map]
        refine w_cat (s5 _ _ e3) eC (by omega) fun l7 H7 n7 s7 e7 => ?_
        walk_at "go"
        refine ⟨_, l7, L ++ M, rfl, s3.trans (s5.trans s7), ?_, ((sa.tp (Tp.of s5)).app ma).tp (Tp.of s7), ?_⟩
        · rw [e7]
          unfold sdV
          rw [List.map_append]
        · rw [List.map_append, me, es]
          show TL.sidesTo i ++ _ = TL.sidesTo i ++ (TL.sidesTo i).map fun s => s ++ [i + 1]
          rw [← es, List.map_map]
          rfl
    · rintro σ H3 ⟨x2, l, L, rfl, s3, e3, sa, es⟩
      have l8 := len (n - 1) L (by omega) es
      have lv : (sdV L).length = L.length := by unfold sdV; rw [List.length_map]
      walk_at "go"
      refine ⟨l, rfl, ⟨_, SqL.of e3⟩, fun C nC => ?_⟩
      refine lc walk_list (by omega) nC (fun j acc H' => ∃ M : List Sd, acc = sdV M ∧ SdAt H' M ∧ M = (L.take j).filter fun t => decide (t.2 ≠ [])) (fun _ _ _ => ⟨[], rfl, fun t h => (by cases h), rfl⟩) (fun j acc H' s' _ => s'.lst e3) ?_ ?_
      · rintro j acc x H5 H6 F No hj s5 eC ⟨M, rfl, ma, me⟩ ⟨rfl, hx⟩ hF hNo
        rw [lv] at hj
        unfold sdV at hx
        rw [List.getElem?_map, List.getElem?_eq_getElem hj] at hx
        cases hx
        have hm := List.getElem_mem hj
        have et := s5 _ _ (sa _ hm)
        have tk : (L.take (j + 1)).filter (fun t => decide (t.2 ≠ [])) = M ++ (if L[j].2 ≠ [] then [L[j]] else []) := by
          rw [List.take_add_one, List.getElem?_eq_getElem hj, List.filter_append, me]
          congr 1
          by_cases c : L[j].2 = []
          · simp [c]
          · simp [c]
        rw [tk] at hF hNo
        generalize L[j] = t at *
        walk_at "go"
        refine ⟨rfl, ?_⟩
        walk_at "go"
        refine w_newT (sz rfl) fun p H7 n7 s7 e7 => ?_
        refine w_neNilT (s7 _ _ et) e7 ?_
        walk_at "go"
        refine w_ifd (fun c => ?_) (fun c => ?_)
        · rw [if_pos c] at hF
          walk_at "go"
          refine hF _ _ s7 fun H8 m8 t8 _ e8 => ⟨M ++ [t], sdV_snoc, ((ma.tp (Tp.of s7)).tp t8).snoc (t8 _ _ (s7 _ _ et)), rfl⟩
        · rw [if_neg c, List.append_nil] at hNo
          exact hNo _ s7 ⟨M, rfl, ma.tp (Tp.of s7), rfl⟩
      · rintro acc H5 s5 eC _ ⟨M, rfl, ma, me⟩
        rw [lv, take_all] at me
        walk_at "go"
        refine q C M H5 (s3.trans s5) eC ma ?_ ?_
        · unfold TL.sidesOf
          rw [me, ← es, List.filter_map]
          rfl
        · rw [me]
          exact Nat.le_trans (List.length_filter_le _ _) (by omega)
end
end TW

namespace TW
open PySem L2
/-- one step of a reading -/
local macro_rules | `(tactic| walk_at "st") => `(tactic| first
  | with_reducible refine w_seq ?_ | with_reducible refine w_next ?_ | with_reducible refine w_nx ?_ | with_reducible refine w_rt ?_ | with_reducible refine w_asg ?_ | with_reducible refine w_name ?_
  | with_reducible refine w_op ?_ | with_reducible refine w_un ?_ | with_reducible refine w_var rfl ?_ | with_reducible refine w_c ?_ | with_reducible refine w_ret ?_ | with_reducible refine w_drop ?_
  | with_reducible refine w_if ?_ | with_reducible refine w_test ?_ | with_reducible refine w_tB ?_ | with_reducible refine w_k ?_ | with_reducible refine w_and ?_ | with_reducible refine w_or ?_ | with_reducible refine w_yes ?_
  | with_reducible refine w_nil ?_ | with_reducible refine w_cons ?_ | with_reducible refine w_cb ?_ | with_reducible refine w_call ?_ | with_reducible refine w_I0 ?_ | with_reducible refine w_neg ?_
  | with_reducible refine w_eqI ?_ | with_reducible refine w_neI ?_ | with_reducible refine w_abs ?_ | with_reducible refine w_min2 ?_ | with_reducible refine w_intI ?_ | with_reducible refine w_intB ?_
  | with_reducible refine w_isN0 ?_ | with_reducible refine w_isN1 ?_ | with_reducible refine w_isN2 ?_ | with_reducible refine w_noN0 ?_ | with_reducible refine w_noN1 ?_ | with_reducible refine w_noN2 ?_
  | with_reducible refine w_sub ?_ | with_reducible refine w_for ?_ | with_reducible refine w_lc ?_ | with_reducible refine w_iT ?_ | with_reducible refine w_iL ?_ | with_reducible refine w_iE ?_ | with_reducible refine w_iEl ?_
  | with_reducible refine w_iZ ?_ | with_reducible refine w_iR1 ?_ | with_reducible refine w_iR2 ?_ | with_reducible refine w_gc ?_ | with_reducible refine w_gn ?_ | with_reducible refine w_bm ?_ | with_reducible refine w_sfld ?_ | with_reducible refine w_tfld ?_ | with_reducible refine w_meth ?_ | with_reducible refine w_make ?_ | with_reducible refine w_tup ?_ | with_reducible refine w_lst ?_)
local macro_rules | `(tactic| walk_at "go") => `(tactic| repeat walk_at "st")
local macro_rules | `(tactic| walk_at "nx") => `(tactic| repeat (first | with_reducible refine w_next ?_ | with_reducible refine w_nx ?_ | with_reducible refine w_name ?_ | with_reducible refine w_gc ?_ | with_reducible refine w_gn ?_))

open TL (Rd rat miss gi absI Stp BF go PW Le SS AW VW WW)
section
variable {P : Program} {w : World} {K : PySem.W.Frag} {mg : Str → Option Value} {base : Heap}
theorem inV_nq (s : List Nat) (a : Nat) : inV (.int (a : Int)) (nqV s) = TL.inS s a := by
  unfold inV nqV TL.inS
  rw [List.any_map]
  induction s with
  | nil => rfl
  | cons x s ih =>
    rw [List.any_cons, ih]
    by_cases c : x = a
    · subst c; simp [eqV]
    · have : ¬ ((x : Int) = (a : Int)) := by omega
      have c' : ¬ a = x := fun z => c z.symm
      simp [eqV, this, c']
def spCut : Sp := fun vs H Q _ => ∃ (N : Net) (sp : Addr) (s : List Nat), vs = [.ref N.a, .ref sp] ∧ NetAt H N ∧ NOk N ∧ H sp = some (.tup (nqV s)) ∧ ∀ l H', Same H H' → H' l = some (.lst (nqV (TL.cutL N.rs s N.rs.length))) → Q (.ref l) H'
theorem w_ne2 {c d : Bool} {H : Hp} {Q : VK} (q : Q (.bl (c != d)) H) : rNe (.bl c) (.bl d) H Q := by
  refine w_neB ?_
  have e : (!decide (c = d)) = (c != d) := by cases c <;> cases d <;> rfl
  rw [e]
  exact q
theorem ok_law_cut (A : All K mg) : FnOk P w K mg base CX0 1 A.a_law_cut A.d_law_cut ["_law_net_here", "_law_side"] spCut := by
  refine A.F_law_cut.ok sc_law_cut (fun vs H Q E h => ?_) (fun cdv A' outer s H vs Q E hr h => ?_)
  · obtain ⟨N, sp, s, rfl, _⟩ := h
    rfl
  · obtain ⟨N, sp, sd, rfl, hNt, ok, es, k⟩ := h
    refine ⟨_, (pss_one (ps_ret (pe_lc (own := [("_law_k", 2)]) (g := (gName 2)) (tt := _) rfl sc_law_cut.nd (pi_range1 rfl A.z_range (pa_cons (pe_callB (call_lenA K rfl) (by rfl) A.z_len (by decide +kernel) (pa_cons (pe_ix (ix_A K rfl) (pv 0) pe_int (fun _ _ => rfl)) pa_nil)) pa_nil)) (blkOk_by (own := [("_law_k", 2)]) (N := ["_law_net_here", "_law_side", "_law_k"]) (sc := defScope s_law_cut) (by decide +kernel)) (fun _ _ _ _ _ => (pg_name (i := 2) sc_law_cut.nd rfl (by first | exact Or.inl rfl | exact Or.inr rfl))) (fun _ _ _ _ _ => pts_one (pt_cmpR op_ne (pe_cmpR (op_inA K rfl) (pe_ix (ix_A K rfl) (pe_ix (ix_A K rfl) (pe_ix (ix_A K rfl) (pv 0) pe_int (fun _ _ => rfl)) (pv 2) (fun _ _ => rfl)) pe_int (fun _ _ => rfl)) (pv 1) rfl) (pe_cmpR (op_inA K rfl) (pe_ix (ix_A K rfl) (pe_ix (ix_A K rfl) (pe_ix (ix_A K rfl) (pv 0) pe_int (fun _ _ => rfl)) (pv 2) (fun _ _ => rfl)) pe_int (fun _ _ => rfl)) (pv 1) rfl) (nomark _))) (fun _ _ _ _ _ => (pv 2))))), ?_⟩
    have r9 := ok.r9
    walk_at "go"
    refine w_ixT hNt.a (atI_nat (j := 2) rfl) ?_
    walk_at "go"
    refine w_lenT hNt.t ?_
    rw [List.length_map, hNt.pl]
    walk_at "go"
    refine ⟨(N.rs.length : Int), rfl, by omega, by omega, fun L nL => ?_⟩
    rw [Int.toNat_natCast]
    refine lc walk_r0 (by omega) nL (fun i acc _ => acc = nqV (TL.cutL N.rs sd i)) (fun _ _ _ => rfl) (fun _ _ _ _ _ => trivial) ?_ ?_
    · rintro i acc x H2 H3 F No hi s2 eL ea ⟨rfl, rfl⟩ hF hNo
      have hN2 := hNt.same s2
      have er := hN2.r i hi
      have es2 := s2 _ _ es
      have up : TL.cutL N.rs sd (i + 1) = if (TL.inS sd (rat N.rs i).a != TL.inS sd (rat N.rs i).b) = true then TL.cutL N.rs sd i ++ [i] else TL.cutL N.rs sd i := rfl
      rw [up, ea] at hF hNo
      walk_at "go"
      refine ⟨rfl, ?_⟩
      walk_at "go"
      refine w_ixT hN2.a (atI_nat (j := 2) rfl) ?_
      walk_at "go"
      refine w_ixT hN2.t (at_ref (by rw [hNt.pl]; exact hi)) ?_
      walk_at "go"
      refine w_ixT er (atI_nat (j := 0) rfl) ?_
      walk_at "go"
      refine ⟨sp, _, rfl, .inr (SqT.of es2), rfl, flat_nV sd, ?_⟩
      rw [if_neg Bool.false_ne_true, inV_nq]
      walk_at "go"
      refine w_ixT hN2.a (atI_nat (j := 2) rfl) ?_
      walk_at "go"
      refine w_ixT hN2.t (at_ref (by rw [hNt.pl]; exact hi)) ?_
      walk_at "go"
      refine w_ixT er (atI_nat (j := 1) rfl) ?_
      walk_at "go"
      refine ⟨sp, _, rfl, .inr (SqT.of es2), rfl, flat_nV sd, ?_⟩
      rw [if_neg Bool.false_ne_true, inV_nq]
      refine w_ne2 ?_
      walk_at "go"
      cases hcase : (TL.inS sd (rat N.rs i).a != TL.inS sd (rat N.rs i).b) with
      | true =>
        rw [if_pos rfl]
        rw [hcase, if_pos rfl] at hF
        walk_at "go"
        exact hF _ _ (Same.refl _) fun H5 _ _ _ _ => nq_snoc
      | false =>
        rw [if_neg Bool.false_ne_true]
        rw [hcase, if_neg Bool.false_ne_true] at hNo
        exact hNo _ (Same.refl _) rfl
    · intro acc H2 s2 eL _ ea
      rw [ea] at eL
      walk_at "go"
      exact k L H2 s2 eL
def spLStr : Sp := fun vs H Q _ => ∃ N : Net, vs = [.ref N.a] ∧ NetAt H N ∧ NOk N ∧ ∀ H', Same H H' → Q (.int (strV N)) H'
theorem min_ints {H : Hp} {l : Addr} {xs : List Int} {Q : VK} (e : H l = some (.lst (xs.map V.int))) (hn : 0 < xs.length) (k : ∀ m : Int, m ∈ xs → (∀ y ∈ xs, m ≤ y) → Q (.int m) H) : rMin K [.ref l] H Q :=
  ⟨l, xs, rfl, SqL.of e, hn, fun m hm h => k m hm h⟩
theorem max_ints2 {H : Hp} {l : Addr} {xs : List Int} {Q : VK} (e : H l = some (.lst (xs.map V.int))) (hn : 0 < xs.length) (k : ∀ m : Int, m ∈ xs → (∀ y ∈ xs, y ≤ m) → Q (.int m) H) : rMax K [.ref l] H Q :=
  ⟨l, xs, rfl, SqL.of e, hn, fun m hm h => k m hm h⟩
theorem ok_law_strength (A : All K mg) : FnOk P w K mg base CX0 2 A.a_law_strength A.d_law_strength ["_law_net_here"] spLStr := by
  refine A.F_law_strength.ok sc_law_strength (fun vs H Q E h => ?_) (fun cdv A' outer s H vs Q E hr h => ?_)
  · obtain ⟨N, rfl, _⟩ := h
    rfl
  · obtain ⟨N, rfl, hNt, ok, k⟩ := h
    refine ⟨_, (pss_cons (ps_if (pt_cmpR op_eq (pe_callB (call_lenA K rfl) (by rfl) A.z_len (by decide +kernel) (pa_cons (pe_ix (ix_A K rfl) (pv 0) pe_int (fun _ _ => rfl)) pa_nil)) pe_int (nomark _)) (pss_one (ps_ret (pe_un un_neg pe_int))) pss_nil) (pss_one (ps_ret (pe_callB (cr_min rfl) (by rfl) A.z_min (by decide +kernel) (pa_cons (pe_lc (own := [("_law_side", 1)]) (g := (gName 1)) (tt := tYes) rfl sc_law_strength.nd (pi_list (pe_call (ok_law_sides A) hr (by rfl) A.g_law_sides A.F_law_sides.kp A.b_law_sides .nil pass0 (pa_cons (pe_callB (call_lenA K rfl) (by rfl) A.z_len (by decide +kernel) (pa_cons (pe_ix (ix_A K rfl) (pv 0) pe_int (fun _ _ => rfl)) pa_nil)) pa_nil))) (blkOk_by (own := [("_law_side", 1)]) (N := ["_law_net_here", "_law_side"]) (sc := defScope s_law_strength) (by decide +kernel)) (fun _ _ _ _ _ => (pg_name (i := 1) sc_law_strength.nd rfl (by first | exact Or.inl rfl | exact Or.inr rfl))) (fun _ _ _ _ _ => pts_nil) (fun _ _ _ _ _ => (pe_callB (call_lenA K rfl) (by rfl) A.z_len (by decide +kernel) (pa_cons (pe_call (ok_law_cut A) hr (by rfl) A.g_law_cut A.F_law_cut.kp A.b_law_cut .nil pass0 (pa_cons (pv 0) (pa_cons (pv 1) pa_nil))) pa_nil)))) pa_nil))))), ?_⟩
    have n1 := ok.n1
    have n4 := ok.n4
    have r9 := ok.r9
    walk_at "go"
    refine w_ixT hNt.a (atI_nat (j := 1) rfl) ?_
    walk_at "go"
    refine w_lenT hNt.m ?_
    rw [List.length_map]
    walk_at "go"
    unfold strV at k
    refine w_ifd (fun c => ?_) (fun c => ?_)
    · rw [if_pos (show N.n = 1 by show N.nm.length = 1; omega)] at k
      walk_at "go"
      exact k _ (Same.refl _)
    · have c1 : ¬ N.n = 1 := by show ¬ N.nm.length = 1; omega
      rw [if_neg c1] at k
      walk_at "go"
      refine w_ixT hNt.a (atI_nat (j := 1) rfl) ?_
      walk_at "go"
      refine w_lenT hNt.m ?_
      rw [List.length_map]
      refine ⟨N.n, rfl, n1, n4, fun l L H1 s1 e1 sa es lL => ?_⟩
      have lv : (sdV L).length = L.length := by unfold sdV; rw [List.length_map]
      refine ⟨l, rfl, ⟨_, SqL.of e1⟩, fun C nC => ?_⟩
      refine lc walk_list (by omega) nC (fun i acc _ => acc = ((L.take i).map fun t => ((TL.cutL N.rs t.2 N.rs.length).length : Int)).map V.int) (fun _ _ _ => rfl) (fun i acc H' s' _ => s'.lst e1) ?_ ?_
      · rintro i acc x H2 H3 F No hi s2 eL ea ⟨rfl, hx⟩ hF _
        rw [lv] at hi
        unfold sdV at hx
        rw [List.getElem?_map, List.getElem?_eq_getElem hi] at hx
        cases hx
        have et := s2 _ _ (sa _ (List.getElem_mem hi))
        walk_at "go"
        refine ⟨rfl, ?_⟩
        walk_at "go"
        rw [if_pos rfl]
        walk_at "go"
        refine ⟨N, L[i].1, L[i].2, rfl, hNt.same (s1.trans s2), ok, et, fun cl H4 s4 e4 => ?_⟩
        refine w_lenL e4 ?_
        refine hF _ _ s4 fun H5 _ _ _ _ => ?_
        rw [ea, take_map (List.getElem?_eq_getElem hi), List.map_append]
        unfold nqV
        rw [List.length_map]
        rfl
      · intro acc H2 s2 eL _ ea
        rw [lv, take_all] at ea
        rw [ea] at eL
        have mem2 : ∀ t ∈ L, t.2 ∈ TL.sidesOf N.n := fun t ht => by rw [← es]; exact List.mem_map.mpr ⟨t, ht, rfl⟩
        have mem3 : ∀ d ∈ TL.sidesOf N.n, ∃ t ∈ L, t.2 = d := fun d hd => by rw [← es] at hd; exact List.mem_map.mp hd
        have hne : 0 < L.length := by
          obtain ⟨d, hd, i⟩ := TL.sides_all (fun _ => false) (N.n - 1)
          have : d ∈ TL.sidesOf N.n := List.mem_filter.mpr ⟨hd, decide_eq_true fun z => by
            have := (i 1).mpr ⟨by omega, by omega, rfl⟩
            rw [z] at this
            cases this⟩
          obtain ⟨t, ht, _⟩ := mem3 d this
          exact List.length_pos_of_mem ht
        walk_at "go"
        refine min_ints eL (by rw [List.length_map]; exact hne) fun m hm hle => ?_
        have is : TL.IsStr N.n N.rs m := by
          refine TL.sides_str ok.ok (by omega) ?_ fun d hd => ?_
          · obtain ⟨t, ht, e⟩ := List.mem_map.mp hm
            exact ⟨t.2, mem2 t ht, e⟩
          · obtain ⟨t, ht, rfl⟩ := mem3 d hd
            exact hle _ (List.mem_map.mpr ⟨t, ht, rfl⟩)
        rw [is.uniq (TL.strN_ok ok.ok (by omega))]
        walk_at "go"
        exact k _ (s1.trans s2)
end
end TW

namespace TW
open PySem L2
/-- one step of a reading -/
local macro_rules | `(tactic| walk_at "st") => `(tactic| first
  | with_reducible refine w_seq ?_ | with_reducible refine w_next ?_ | with_reducible refine w_nx ?_ | with_reducible refine w_rt ?_ | with_reducible refine w_asg ?_ | with_reducible refine w_name ?_
  | with_reducible refine w_op ?_ | with_reducible refine w_un ?_ | with_reducible refine w_var rfl ?_ | with_reducible refine w_c ?_ | with_reducible refine w_ret ?_ | with_reducible refine w_drop ?_
  | with_reducible refine w_if ?_ | with_reducible refine w_test ?_ | with_reducible refine w_tB ?_ | with_reducible refine w_k ?_ | with_reducible refine w_and ?_ | with_reducible refine w_or ?_ | with_reducible refine w_yes ?_
  | with_reducible refine w_nil ?_ | with_reducible refine w_cons ?_ | with_reducible refine w_cb ?_ | with_reducible refine w_call ?_ | with_reducible refine w_I0 ?_ | with_reducible refine w_neg ?_
  | with_reducible refine w_eqI ?_ | with_reducible refine w_neI ?_ | with_reducible refine w_abs ?_ | with_reducible refine w_min2 ?_ | with_reducible refine w_intI ?_ | with_reducible refine w_intB ?_
  | with_reducible refine w_isN0 ?_ | with_reducible refine w_isN1 ?_ | with_reducible refine w_isN2 ?_ | with_reducible refine w_noN0 ?_ | with_reducible refine w_noN1 ?_ | with_reducible refine w_noN2 ?_
  | with_reducible refine w_sub ?_ | with_reducible refine w_for ?_ | with_reducible refine w_lc ?_ | with_reducible refine w_iT ?_ | with_reducible refine w_iL ?_ | with_reducible refine w_iE ?_ | with_reducible refine w_iEl ?_
  | with_reducible refine w_iZ ?_ | with_reducible refine w_iR1 ?_ | with_reducible refine w_iR2 ?_ | with_reducible refine w_gc ?_ | with_reducible refine w_gn ?_ | with_reducible refine w_bm ?_ | with_reducible refine w_sfld ?_ | with_reducible refine w_tfld ?_ | with_reducible refine w_meth ?_ | with_reducible refine w_make ?_ | with_reducible refine w_tup ?_ | with_reducible refine w_lst ?_)
local macro_rules | `(tactic| walk_at "go") => `(tactic| repeat walk_at "st")
local macro_rules | `(tactic| walk_at "nx") => `(tactic| repeat (first | with_reducible refine w_next ?_ | with_reducible refine w_nx ?_ | with_reducible refine w_name ?_ | with_reducible refine w_gc ?_ | with_reducible refine w_gn ?_))

open TL (Rd rat miss gi absI Stp BF go PW Le SS AW VW WW)
section
variable {P : Program} {w : World} {K : PySem.W.Frag} {mg : Str → Option Value} {base : Heap}
/-! ### rows: dicts -/
theorem w_tt {c : Bool} {A B : Prop} (e : c = true) (h : A) : if c = true then A else B := by rw [if_pos e]; exact h
theorem w_ff {c : Bool} {A B : Prop} (e : c = false) (h : B) : if c = true then A else B := by rw [e, if_neg Bool.false_ne_true]; exact h
def rkV (d : TL.Row) : List (Key × V) := d.map fun p => (.inl (p.1 : Int), .int p.2)
abbrev Rw := Addr × TL.Row
def rwV (D : List Rw) : List V := D.map fun t => V.ref t.1
def RwAt (H : Hp) (D : List Rw) : Prop := ∀ t ∈ D, H t.1 = some (.dK (rkV t.2))
theorem RwAt.same {H H' : Hp} {D : List Rw} (a : RwAt H D) (s : Same H H') : RwAt H' D := fun x hx => s _ _ (a x hx)
theorem RwAt.sm {H H' : Hp} {D : List Rw} {l : Addr} {xs : List V} (a : RwAt H D) (m : Sm [l] H H') (e : H l = some (.lst xs)) : RwAt H' D := fun x hx => m _ _ (fun hm => by
  have := a x hx
  rw [List.mem_singleton.mp hm, e] at this
  cases this) (a x hx)
theorem valV_rk (d : TL.Row) (j : Nat) : valV (rkV d) (.inl (j : Int)) = (TL.lk d j).map V.int := by
  unfold valV rkV TL.lk
  induction d with
  | nil => rfl
  | cons p d ih =>
    rw [List.map_cons, List.find?_cons, List.find?_cons]
    by_cases c : p.1 = j
    · rw [decide_eq_true c, decide_eq_true (by rw [c])]
      rfl
    · rw [decide_eq_false c, decide_eq_false (fun z => c (Int.ofNat_inj.mp (Sum.inl.inj z)))]
      exact ih
theorem put_rk {d : TL.Row} {j : Nat} {x : Int} (h : TL.lk d j = none) : putK (rkV d) (.inl (j : Int)) (.int x) = rkV (d ++ [(j, x)]) := by
  have e : ((rkV d).any fun kv => decide (kv.1 = .inl (j : Int))) = false := by
    rw [List.any_eq_false]
    intro kv hm hd
    obtain ⟨p, hp, rfl⟩ := List.mem_map.mp hm
    have q := of_decide_eq_true hd
    have q : p.1 = j := Int.ofNat_inj.mp (Sum.inl.inj q)
    exact TL.lk_none.mp h (List.mem_map.mpr ⟨p, hp, q⟩)
  unfold putK
  rw [e, if_neg Bool.false_ne_true]
  unfold rkV
  rw [List.map_append]
  rfl
def rDg (x y : V) (H : Hp) (Q : VK) : Prop := ∃ a v, x = .ref a ∧ DGet H a y (some v) ∧ Q v H
def rDi (x y : V) (H : Hp) (Q : VK) : Prop := ∃ a o, x = .ref a ∧ DGet H a y o ∧ Q (.bl o.isSome) H
def rDn (x y : V) (H : Hp) (Q : VK) : Prop := ∃ a o, x = .ref a ∧ DGet H a y o ∧ Q (.bl (!o.isSome)) H
def rDp (x y v : V) (H : Hp) (q : Hp → Prop) : Prop := ∃ a H4, x = .ref a ∧ DPut H a y v H4 ∧ q H4
section
variable {td ty tv : TE} {σ : L2.St} {H : Hp} {Q : VK} {p : Addr} {d : TL.Row} {j : Nat} {x : Int}
theorem w_dget (h : td σ H fun x H1 => ty σ H1 fun y H2 => rDg x y H2 Q) : tDGet td ty σ H Q := h
theorem w_din (h : ty σ H fun y H1 => td σ H1 fun x H2 => rDi x y H2 Q) : tDIn ty td σ H Q := h
theorem w_dnin (h : ty σ H fun y H1 => td σ H1 fun x H2 => rDn x y H2 Q) : tDNotIn ty td σ H Q := h
theorem w_dput {D : Ends} (h : tv σ H fun v H1 => td σ H1 fun x H2 => ty σ H2 fun y H3 => rDp x y v H3 fun H4 => D.nx σ H4) : sDPut td ty tv D σ H := h
theorem w_dg (h : H p = some (.dK (rkV d))) (e : TL.lk d j = some x) (q : Q (.int x) H) : rDg (.ref p) (.int (j : Int)) H Q := ⟨p, .int x, rfl, by
  have := DGet.k (k := .inl (j : Int)) h
  rw [valV_rk, e] at this
  exact this, q⟩
theorem w_di (h : H p = some (.dK (rkV d))) (q : Q (.bl (TL.lk d j).isSome) H) : rDi (.ref p) (.int (j : Int)) H Q := ⟨p, _, rfl, by
  have := DGet.k (k := .inl (j : Int)) h
  rw [valV_rk] at this
  exact this, by rw [Option.isSome_map]; exact q⟩
theorem w_dn (h : H p = some (.dK (rkV d))) (q : Q (.bl (!(TL.lk d j).isSome)) H) : rDn (.ref p) (.int (j : Int)) H Q := ⟨p, _, rfl, by
  have := DGet.k (k := .inl (j : Int)) h
  rw [valV_rk] at this
  exact this, by rw [Option.isSome_map]; exact q⟩
theorem w_dp {q : Hp → Prop} (h : H p = some (.dK (rkV d))) (e : TL.lk d j = none) (hl : d.length ≤ 1000) (k : ∀ H1, Sm [p] H H1 → H1 p = some (.dK (rkV (d ++ [(j, x)]))) → q H1) : rDp (.ref p) (.int (j : Int)) (.int x) H q :=
  ⟨p, _, rfl, DPut.k (k := .inl (j : Int)) h (Nat.lt_of_le_of_lt (by unfold rkV; rw [List.length_map]; exact hl) (show 1000 < sizeLine by decide)), k _ sm_upd (by rw [put_rk e]; exact upd_same)⟩
end
theorem rk_len (d : TL.Row) : (rkV d).length = d.length := by unfold rkV; rw [List.length_map]
theorem rk_int (d : TL.Row) : AllInt (rkV d) := fun p hp => by
  obtain ⟨q, _, rfl⟩ := List.mem_map.mp hp
  exact ⟨_, rfl⟩
theorem rwV_snoc {D : List Rw} {t : Rw} : rwV D ++ [.ref t.1] = rwV (D ++ [t]) := by unfold rwV; rw [List.map_append]; rfl
def GoodR (n k : Nat) (D : List Rw) : Prop := ∀ x ∈ D, TL.RowOk n x.2 ∧ x.2.length = k
def CompR (n : Nat) (rs : List Rd) (D : List Rw) : Prop := ∀ h, TL.HK n rs h → ∃ x ∈ D, TL.agree x.2 h
abbrev Vc := Addr × List Int
def vcV (L : List Vc) : List V := L.map fun t => V.ref t.1
def VcAt (H : Hp) (L : List Vc) : Prop := ∀ t ∈ L, H t.1 = some (.tup (t.2.map V.int))
theorem VcAt.tp {H H' : Hp} {L : List Vc} (a : VcAt H L) (t : Tp H H') : VcAt H' L := fun x hx => t _ _ (a x hx)
theorem VcAt.snoc {H : Hp} {L : List Vc} {t : Vc} (a : VcAt H L) (h : H t.1 = some (.tup (t.2.map V.int))) : VcAt H (L ++ [t]) := fun x hx => by
  rcases List.mem_append.mp hx with z | z
  · exact a x z
  · rw [List.mem_singleton.mp z]; exact h
theorem vcV_snoc {L : List Vc} {t : Vc} : vcV L ++ [.ref t.1] = vcV (L ++ [t]) := by unfold vcV; rw [List.map_append]; rfl
def scIn : Scope := relS { kind := .function, names := [(".0", .local), ("_law_row", .cell), ("tuple", .globalImplicit), ("range", .globalImplicit), ("len", .globalImplicit), ("_law_net_here", .free)], isGenerator := false, isCoroutine := false } (defScope s_law_vertices)
def spVert : Sp := fun vs H Q _ => ∃ N : Net, vs = [.ref N.a] ∧ NetAt H N ∧ NOk N ∧ ∀ l, ∀ (L : List Vc) H', Same H H' → H' l = some (.lst (vcV L)) → VcAt H' L → TL.Rows N.n N.rs (L.map (·.2)) → L.length ≤ 1000 → Q (.ref l) H'
theorem ok_law_vertices (A : All K mg) : FnOk P w K mg base CX0 1 A.a_law_vertices A.d_law_vertices ["_law_net_here"] spVert := by
  refine A.F_law_vertices.ok sc_law_vertices (fun vs H Q E h => ?_) (fun cdv A' outer s H vs Q E hr h => ?_)
  · obtain ⟨N, rfl, _⟩ := h
    rfl
  · obtain ⟨N, rfl, hNt, ok, k⟩ := h
    refine ⟨_, (pss_cons (ps_set (i := 1) sc_law_vertices.nd rfl (by first | exact Or.inl rfl | exact Or.inr rfl) (pe_lst (pa_cons (pe_disp (pps_cons pe_int pe_int pps_nil) (by rfl) (by rfl) (fun z => by cases z) (by decide)) pa_nil))) (pss_cons (ps_for PassesOwn.never rfl (pi_range1 rfl A.z_range (pa_cons (pe_op op_sub (pe_callB (call_lenA K rfl) (by rfl) A.z_len (by decide +kernel) (pa_cons (pe_ix (ix_A K rfl) (pv 0) pe_int (fun _ _ => rfl)) pa_nil)) pe_int) pa_nil)) (pg_name (i := 2) sc_law_vertices.nd rfl (by first | exact Or.inl rfl | exact Or.inr rfl)) (pss_cons (ps_set (i := 3) sc_law_vertices.nd rfl (by first | exact Or.inl rfl | exact Or.inr rfl) (pe_lst pa_nil)) (pss_cons (ps_for PassesOwn.never rfl (pi_list (pv 1)) (pg_name (i := 4) sc_law_vertices.nd rfl (by first | exact Or.inl rfl | exact Or.inr rfl)) (pss_one (ps_for PassesOwn.never rfl (pi_tup (pe_ix (ix_A K rfl) (pv 0) pe_int (fun _ _ => rfl))) (pg_tupA K rfl rfl (pgs_cons (pg_name (i := 5) sc_law_vertices.nd rfl (by first | exact Or.inl rfl | exact Or.inr rfl)) (pgs_cons (pg_name (i := 6) sc_law_vertices.nd rfl (by first | exact Or.inl rfl | exact Or.inr rfl)) (pgs_cons (pg_name (i := 7) sc_law_vertices.nd rfl (by first | exact Or.inl rfl | exact Or.inr rfl)) pgs_nil)))) (pss_cons (ps_set (i := 8) sc_law_vertices.nd rfl (by first | exact Or.inl rfl | exact Or.inr rfl) (pe_callTy call_dictD (by rfl) A.z_dict (by decide +kernel) (pa_cons (pv 4) pa_nil))) (pss_cons (ps_if (PW.pt (pw_and (pt_cmp (pc_din (hu_of hr) (pv 5) (pv 4))) (pw_and1 (pt_cmp (pc_dnotin (hu_of hr) (pv 6) (pv 4)))))) (pss_one (ps_dput (hu_of hr) (pv 8) (pv 6) (pe_op op_add (pe_dget (hu_of hr) (pv 4) (pv 5) (fun _ _ => rfl)) (pv 7)) rfl)) (pss_one (ps_if (PW.pt (pw_and (pt_cmp (pc_din (hu_of hr) (pv 6) (pv 4))) (pw_and1 (pt_cmp (pc_dnotin (hu_of hr) (pv 5) (pv 4)))))) (pss_one (ps_dput (hu_of hr) (pv 8) (pv 5) (pe_op op_sub (pe_dget (hu_of hr) (pv 4) (pv 6) (fun _ _ => rfl)) (pv 7)) rfl)) pss_nil))) (pss_one (ps_if (PW.pt (pw_and (pt_cmpR op_gt (pe_callB call_lenDA (by rfl) A.z_len PySem.boot_len (pa_cons (pv 8) pa_nil)) (pe_callB call_lenDA (by rfl) A.z_len PySem.boot_len (pa_cons (pv 4) pa_nil)) (nomark _)) (pw_and1 (pt_cmpR (op_niRows hr.units) (pv 8) (pv 3) rfl)))) (pss_one (ps_expr (pe_bm PySem.F.plainAttrs_list PySem.F.slot_list_append PySem.F.type_list_append mt_append (pv 3) (pa_cons (pv 8) pa_nil)))) pss_nil))))))) (pss_one (ps_set (i := 1) sc_law_vertices.nd rfl (by first | exact Or.inl rfl | exact Or.inr rfl) (pv 3)))))) (pss_one (ps_ret (pe_lc (own := [("_law_row", 4)]) (g := (gName 4)) (tt := tYes) rfl sc_law_vertices.nd (pi_list (pv 1)) (blkOk_by (own := [("_law_row", 4)]) (N := ["_law_net_here", "_law_rows", "_law_turn", "_law_more", "_law_row", "_law_a", "_law_b", "_law_value", "_law_grown", "_law_mark"]) (sc := defScope s_law_vertices) (by decide +kernel)) (fun _ _ _ _ _ => (pg_name (i := 4) sc_law_vertices.nd rfl (by first | exact Or.inl rfl | exact Or.inr rfl))) (fun _ _ _ _ _ => pts_nil) (fun _ _ _ _ _ => (pe_callTy (call_tupA K rfl) (by rfl) A.z_tuple (by decide +kernel) (pa_cons (pe_lc (own := [("_law_mark", 9)]) (g := (gName 9)) (tt := tYes) rfl sc_law_vertices.nd (pi_range1 rfl A.z_range (pa_cons (pe_callB (call_lenA K rfl) (by rfl) A.z_len (by decide +kernel) (pa_cons (pe_ix (ix_A K rfl) (pv 0) pe_int (fun _ _ => rfl)) pa_nil)) pa_nil)) (blkOk_by (own := [("_law_mark", 9)]) (N := ["_law_net_here", "_law_rows", "_law_turn", "_law_more", "_law_row", "_law_a", "_law_b", "_law_value", "_law_grown", "_law_mark"]) (sc := scIn) (by decide +kernel)) (fun _ _ _ _ _ => (pg_name (i := 9) sc_law_vertices.nd rfl (by first | exact Or.inl rfl | exact Or.inr rfl))) (fun _ _ _ _ _ => pts_nil) (fun _ _ _ _ _ => (pe_dget (hu_of hr) (pv 4) (pv 9) (fun _ _ => rfl)))) pa_nil)))))))), ?_⟩
    have n1 := ok.n1
    have n4 := ok.n4
    have r9 := ok.r9
    -- rows = [{0: 0}]
    walk_at "go"
    intro d0 nd0
    unfold tPairs
    walk_at "go"
    unfold tPairs
    refine ⟨upd_same, [(.inl 0, .int 0)], rfl, by decide, ?_⟩
    have s1 : Same H (upd (upd H d0 (.dK [])) d0 (.dK (mergeK [] [(.inl 0, .int 0)]))) := fun b o e => by
      rw [upd_ne (ne_of_none e nd0), upd_ne (ne_of_none e nd0)]
      exact e
    have e1 : (upd (upd H d0 (.dK [])) d0 (.dK (mergeK [] [(.inl 0, .int 0)]))) d0 = some (.dK (rkV [(0, 0)])) := upd_same
    generalize upd (upd H d0 (.dK [])) d0 (.dK (mergeK [] [(.inl 0, .int 0)])) = H1 at *
    walk_at "go"
    refine w_newL (sz rfl) fun rl0 H2 n2 s2 e2 => ?_
    walk_at "go"
    refine w_ixT ((s1.trans s2) _ _ hNt.a) (atI_nat (j := 1) rfl) ?_
    walk_at "go"
    refine w_lenT ((s1.trans s2) _ _ hNt.m) ?_
    rw [List.length_map]
    walk_at "go"
    refine ⟨(N.n : Int) - 1, rfl, by omega, by omega, ?_⟩
    rw [show ((N.n : Int) - 1).toNat = N.n - 1 by omega]
    refine fo walk_r0 (fun t σ H' => ∃ x2 x3 x4 x5 x6 x7 x8 x9, ∃ (rl : Addr) (D : List Rw), σ = [some (.ref N.a), some (.ref rl), x2, x3, x4, x5, x6, x7, x8, x9] ∧ Same H H' ∧ H' rl = some (.lst (rwV D)) ∧ RwAt H' D ∧ GoodR N.n (t + 1) D ∧ CompR N.n N.rs D ∧ D.length ≤ 9 ^ t)
      ⟨none, none, none, none, none, none, none, none, rl0, [(d0, [(0, 0)])], rfl, s1.trans s2, e2, fun x hx => ?_, fun x hx => ?_, fun h hk => ⟨_, List.mem_cons_self, fun p hp => ?_⟩, by show 1 ≤ 9 ^ 0; decide⟩ (fun _ _ _ _ _ => trivial) ?_ ?_
    · rw [List.mem_singleton.mp hx]
      exact s2 _ _ e1
    · rw [List.mem_singleton.mp hx]
      exact ⟨⟨by simp, fun p hp => by rw [List.mem_singleton.mp hp]; exact n1, rfl⟩, rfl⟩
    · rw [List.mem_singleton.mp hp]
      exact hk.1.symm
    · rintro t x σ H3 H4 ht ⟨x2, x3, x4, x5, x6, x7, x8, x9, rl, D, rfl, s3, e3, ra, gd, cp, lD⟩ ⟨rfl, rfl⟩
      have l81 : D.length ≤ 81 := by
        have : t = 0 ∨ t = 1 ∨ t = 2 := by omega
        rcases this with z | z | z <;> subst z <;> omega
      have lv : (rwV D).length = D.length := by unfold rwV; rw [List.length_map]
      walk_at "go"
      refine w_newL (sz rfl) fun ml H5 n5 s5 e5 => ?_
      have nml : H ml = none := s3.free n5
      have nmr : ml ≠ rl := fun z => by rw [z, e3] at n5; cases n5
      walk_at "go"
      refine ⟨rl, rfl, ⟨_, SqL.of (s5 _ _ e3)⟩, ?_⟩
      refine fo walk_list (fun i σ H' => ∃ x4 x5 x6 x7 x8 x9, ∃ M : List Rw, σ = [some (.ref N.a), some (.ref rl), some (.int (t : Int)), some (.ref ml), x4, x5, x6, x7, x8, x9] ∧ Same H H' ∧ H' rl = some (.lst (rwV D)) ∧ RwAt H' D ∧ H' ml = some (.lst (rwV M)) ∧ RwAt H' M ∧ GoodR N.n (t + 2) M ∧ M.length ≤ 9 * i ∧ ∀ h, TL.HK N.n N.rs h → (∃ y ∈ D.take i, TL.agree y.2 h) → ∃ y ∈ M, TL.agree y.2 h)
        ⟨x4, x5, x6, x7, x8, x9, [], rfl, s3.trans s5, s5 _ _ e3, ra.same s5, e5, fun x hx => (by cases hx), fun x hx => (by cases hx), Nat.le_refl _, fun h hk ⟨y, hy, _⟩ => (by cases hy)⟩ (fun i σ H' _ ⟨_, _, _, _, _, _, _, _, _, e', _⟩ => SqL.of e') ?_ ?_
      · rintro i x σ H6 H7 hi ⟨y4, y5, y6, y7, y8, y9, M, rfl, s6, e6, ra6, em6, rm6, gm6, lM6, cv6⟩ ⟨rfl, hx⟩
        rw [lv] at hi
        unfold rwV at hx
        rw [List.getElem?_map, List.getElem?_eq_getElem hi] at hx
        cases hx
        have hmem := List.getElem_mem hi
        obtain ⟨rok, rlen⟩ := gd _ hmem
        have tk : ∀ h, (∃ y ∈ D.take (i + 1), TL.agree y.2 h) → (∃ y ∈ D.take i, TL.agree y.2 h) ∨ TL.agree D[i].2 h := fun h ⟨y, hy, ay⟩ => by
          rw [List.take_add_one, List.getElem?_eq_getElem hi] at hy
          rcases List.mem_append.mp hy with z | z
          · exact .inl ⟨y, z, ay⟩
          · have : y = D[i] := by simpa using z
            rw [← this]
            exact .inr ay
        generalize D[i] = row at *
        walk_at "go"
        refine w_ixT (s6 _ _ hNt.a) (atI_nat (j := 2) rfl) ?_
        refine ⟨N.t, rfl, ⟨_, SqT.of (s6 _ _ hNt.t)⟩, ?_⟩
        have lpt : (N.ps.map V.ref).length = N.rs.length := by rw [List.length_map, hNt.pl]
        refine fo walk_tup (fun j σ H' => ∃ x5 x6 x7 x8 x9, ∃ M : List Rw, σ = [some (.ref N.a), some (.ref rl), some (.int (t : Int)), some (.ref ml), some (.ref row.1), x5, x6, x7, x8, x9] ∧ Same H H' ∧ H' rl = some (.lst (rwV D)) ∧ RwAt H' D ∧ H' ml = some (.lst (rwV M)) ∧ RwAt H' M ∧ GoodR N.n (t + 2) M ∧ M.length ≤ 9 * i + j ∧ (∀ h, TL.HK N.n N.rs h → (∃ y ∈ D.take i, TL.agree y.2 h) → ∃ y ∈ M, TL.agree y.2 h) ∧
            ∀ h, TL.agree row.2 h → (∃ j', j' < j ∧ miss (rat N.rs j') h = 0 ∧ TL.crossR (rat N.rs j') row.2) → ∃ y ∈ M, TL.agree y.2 h)
          ⟨y5, y6, y7, y8, y9, M, rfl, s6, e6, ra6, em6, rm6, gm6, lM6, cv6, fun h _ ⟨j', hj', _⟩ => absurd hj' (Nat.not_lt_zero _)⟩ (fun j σ H' _ ⟨_, _, _, _, _, _, _, s', _⟩ => s'.tup hNt.t) ?_ ?_
        · rintro j x σ H8' H8 hj ⟨z5, z6, z7, z8, z9, M8, rfl, s8, e8, ra8, em8, rm8, gm8, lM8, cv8, cr8⟩ ⟨rfl, hx⟩
          rw [lpt] at hj
          obtain ⟨rfl, er⟩ := rat_at (hNt.same s8) hj hx
          have erow := ra8 _ hmem
          refine w_gT er rfl ?_
          unfold rdV
          have rmem := TL.rat_mem hj
          have gok := rok.grow ok.ok rmem
          have glen := TL.grow_len (rat N.rs j) row.2
          have gcr := TL.grow_cross (d := row.2) (r := rat N.rs j)
          have gag := fun h A hm => TL.agree_grow (h := h) (d := row.2) (r := rat N.rs j) A hm
          walk_at "go"
          refine ⟨row.1, _, rfl, .of erow, fun gp ngp => ?_⟩
          have s9 : Same H8 (upd H8 gp (.dK (rkV row.2))) := same_new ngp
          have e9 : (upd H8 gp (.dK (rkV row.2))) gp = some (.dK (rkV row.2)) := upd_same
          generalize upd H8 gp (.dK (rkV row.2)) = H9 at *
          have erow9 := s9 _ _ erow
          walk_at "nx"
          with_reducible refine w_cut (fun σ' H' => σ' = [some (.ref N.a), some (.ref rl), some (.int (t : Int)), some (.ref ml), some (.ref row.1), some (.int ((rat N.rs j).a : Int)), some (.int ((rat N.rs j).b : Int)), some (.int (rat N.rs j).v), some (.ref gp), z9] ∧ Same H8 H' ∧ H' gp = some (.dK (rkV (TL.grow (rat N.rs j) row.2)))) ?_ ?_
          · intro nk hnk
            have l9 : row.2.length ≤ 1000 := by omega
            refine w_if (t_and2 (b1 := (TL.lk row.2 (rat N.rs j).a).isSome) (b2 := !(TL.lk row.2 (rat N.rs j).b).isSome) (fun q kq => ?_) (fun q kq => ?_) ?_)
            · refine w_tB (w_din ?_)
              walk_at "go"
              exact w_di erow9 (w_k kq)
            · refine w_tB (w_dnin ?_)
              walk_at "go"
              exact w_dn erow9 (w_k kq)
            · cases e1 : TL.lk row.2 (rat N.rs j).a with
              | some x =>
                cases e2 : TL.lk row.2 (rat N.rs j).b with
                | none =>
                  have gv : TL.grow (rat N.rs j) row.2 = row.2 ++ [((rat N.rs j).b, x + (rat N.rs j).v)] := by unfold TL.grow; rw [e1, e2]
                  rw [gv] at hnk
                  refine w_tt rfl (w_dput ?_)
                  refine w_op (w_dget ?_)
                  walk_at "go"
                  refine w_dg erow9 e1 ?_
                  walk_at "go"
                  refine w_dp e9 e2 l9 fun H10 m10 e10 => ?_
                  walk_at "go"
                  exact hnk _ _ ⟨rfl, same_sm s9 m10 ngp, e10⟩
                | some y =>
                  have gv : TL.grow (rat N.rs j) row.2 = row.2 := by unfold TL.grow; rw [e1, e2]
                  rw [gv] at hnk
                  refine w_ff rfl ?_
                  refine w_if (t_and2 (b1 := (TL.lk row.2 (rat N.rs j).b).isSome) (b2 := !(TL.lk row.2 (rat N.rs j).a).isSome) (fun q kq => ?_) (fun q kq => ?_) ?_)
                  · refine w_tB (w_din ?_)
                    walk_at "go"
                    exact w_di erow9 (w_k kq)
                  · refine w_tB (w_dnin ?_)
                    walk_at "go"
                    exact w_dn erow9 (w_k kq)
                  · refine w_ff (by rw [e1, e2]; rfl) ?_
                    walk_at "go"
                    exact hnk _ _ ⟨rfl, s9, e9⟩
              | none =>
                refine w_ff rfl ?_
                refine w_if (t_and2 (b1 := (TL.lk row.2 (rat N.rs j).b).isSome) (b2 := !(TL.lk row.2 (rat N.rs j).a).isSome) (fun q kq => ?_) (fun q kq => ?_) ?_)
                · refine w_tB (w_din ?_)
                  walk_at "go"
                  exact w_di erow9 (w_k kq)
                · refine w_tB (w_dnin ?_)
                  walk_at "go"
                  exact w_dn erow9 (w_k kq)
                · cases e2 : TL.lk row.2 (rat N.rs j).b with
                  | none =>
                    have gv : TL.grow (rat N.rs j) row.2 = row.2 := by unfold TL.grow; rw [e1, e2]
                    rw [gv] at hnk
                    refine w_ff (by rw [e1]; rfl) ?_
                    walk_at "go"
                    exact hnk _ _ ⟨rfl, s9, e9⟩
                  | some y =>
                    have gv : TL.grow (rat N.rs j) row.2 = row.2 ++ [((rat N.rs j).a, y - (rat N.rs j).v)] := by unfold TL.grow; rw [e1, e2]
                    rw [gv] at hnk
                    refine w_tt (by rw [e1]; rfl) (w_dput ?_)
                    refine w_op (w_dget ?_)
                    walk_at "go"
                    refine w_dg erow9 e2 ?_
                    walk_at "go"
                    refine w_dp e9 e1 l9 fun H10 m10 e10 => ?_
                    walk_at "go"
                    exact hnk _ _ ⟨rfl, same_sm s9 m10 ngp, e10⟩
          · rintro σ' H10 ⟨rfl, s10, e10⟩
            have erow10 := s10 _ _ erow
            have em10 := s10 _ _ em8
            have rm10 := rm8.same s10
            have ra10 := ra8.same s10
            have e810 := s10 _ _ e8
            have s010 := s8.trans s10
            have nrm : rl ≠ ml := fun z => nmr z.symm
            generalize TL.grow (rat N.rs j) row.2 = gw at *
            refine w_if (w_and ?_)
            walk_at "go"
            refine ⟨gp, _, rfl, e10, ?_⟩
            walk_at "go"
            refine ⟨row.1, _, rfl, erow10, ?_⟩
            rw [rk_len, rk_len]
            walk_at "go"
            refine w_ifd (fun c => ?_) (fun c => ?_)
            · have gl : gw.length = row.2.length + 1 := by rcases glen with z | z <;> omega
              walk_at "go"
              refine ⟨gp, rkV gw, ml, M8.map (·.1), rfl, e10, rfl, by rw [em10]; unfold rwV; rw [List.map_map]; rfl, rk_int _, fun p hp => ?_, fun bb hbb => ?_⟩
              · obtain ⟨y, hy, rfl⟩ := List.mem_map.mp hp
                refine ⟨fun z => ?_, _, rm10 y hy, rk_int _⟩
                have := rm8 y hy
                rw [z, ngp] at this
                cases this
              · walk_at "go"
                cases bb with
                | false =>
                  refine w_tt rfl ?_
                  walk_at "go"
                  refine ⟨tyL em10, ?_⟩
                  walk_at "go"
                  refine w_app em10 (by unfold rwV; rw [List.length_map]; omega) fun H11 m11 e11 => ?_
                  walk_at "go"
                  refine ⟨_, _, _, _, _, M8 ++ [(gp, gw)], rfl, same_sm s010 m11 nml, m11 _ _ (fun hm => nrm (List.mem_singleton.mp hm)) e810, ra10.sm m11 em10, by rw [e11, ← rwV_snoc], fun x hx => ?_, fun x hx => ?_, by rw [List.length_append, List.length_singleton]; omega, fun h hk hy => ?_, fun h ag hj' => ?_⟩
                  · rcases List.mem_append.mp hx with z | z
                    · exact rm10.sm m11 em10 x z
                    · rw [List.mem_singleton.mp z]
                      refine m11 _ _ (fun hm => ?_) e10
                      have z : gp = ml := List.mem_singleton.mp hm
                      rw [z, em10] at e10
                      cases e10
                  · rcases List.mem_append.mp hx with z | z
                    · exact gm8 x z
                    · rw [List.mem_singleton.mp z]
                      exact ⟨gok, by show gw.length = t + 2; omega⟩
                  · obtain ⟨y, hy, ay⟩ := cv8 h hk hy
                    exact ⟨y, List.mem_append_left _ hy, ay⟩
                  · obtain ⟨j', hj', hm, hc⟩ := hj'
                    by_cases z : j' = j
                    · subst z
                      exact ⟨(gp, gw), List.mem_append_right _ (List.mem_singleton.mpr rfl), gag h ag hm⟩
                    · obtain ⟨y, hy, ay⟩ := cr8 h ag ⟨j', by omega, hm, hc⟩
                      exact ⟨y, List.mem_append_left _ hy, ay⟩
                | true =>
                  refine w_ff rfl ?_
                  walk_at "go"
                  refine ⟨_, _, _, _, _, M8, rfl, s010, e810, ra10, em10, rm10, gm8, by omega, cv8, fun h ag hj' => ?_⟩
                  obtain ⟨j', hj', hm, hc⟩ := hj'
                  by_cases z : j' = j
                  · subst z
                    obtain ⟨p, hp, kb, hkb, _, hall⟩ := hbb rfl
                    obtain ⟨y, hy, rfl⟩ := List.mem_map.mp hp
                    rw [rm10 y hy] at hkb
                    cases hkb
                    refine ⟨y, hy, fun q hq => ?_⟩
                    have := hall (.inl (q.1 : Int), .int q.2) (List.mem_map.mpr ⟨q, hq, rfl⟩)
                    rw [valV_rk] at this
                    obtain ⟨x, ex, eq⟩ := Option.map_eq_some_iff.mp this
                    have eq : x = q.2 := V.int.inj eq
                    rw [← eq]
                    exact gag h ag hm _ (TL.lk_some ex)
                  · exact cr8 h ag ⟨j', by omega, hm, hc⟩
            · rw [if_neg Bool.false_ne_true]
              walk_at "go"
              refine ⟨_, _, _, _, _, M8, rfl, s010, e810, ra10, em10, rm10, gm8, by omega, cv8, fun h ag hj' => ?_⟩
              obtain ⟨j', hj', hm, hc⟩ := hj'
              by_cases z : j' = j
              · subst z
                have := gcr.mp hc
                omega
              · exact cr8 h ag ⟨j', by omega, hm, hc⟩
        · rintro σ H8 ⟨z5, z6, z7, z8, z9, M8, rfl, s8, e8, ra8, em8, rm8, gm8, lM8, cv8, cr8⟩
          rw [lpt] at lM8 cr8
          walk_at "go"
          refine ⟨_, _, _, _, _, _, M8, rfl, s8, e8, ra8, em8, rm8, gm8, by omega, fun h hk hy => ?_⟩
          rcases tk h hy with z | z
          · exact cv8 h hk z
          · exact cr8 h z (TL.cross_ex rok (by omega) hk.2)
      · rintro σ H6 ⟨y4, y5, y6, y7, y8, y9, M, rfl, s6, e6, ra6, em6, rm6, gm6, lM6, cv6⟩
        rw [lv] at lM6 cv6
        rw [take_all] at cv6
        walk_at "go"
        refine ⟨_, _, _, _, _, _, _, _, ml, M, rfl, s6, em6, rm6, gm6, fun h hk => ?_, by rw [Nat.pow_succ]; omega⟩
        exact cv6 h hk (cp h hk)
    · rintro σ H3 ⟨x2, x3, x4, x5, x6, x7, x8, x9, rl, D, rfl, s3, e3, ra, gd, cp, lD⟩
      rw [show N.n - 1 + 1 = N.n by omega] at gd
      have l729 : D.length ≤ 729 := by
        have : N.n - 1 = 0 ∨ N.n - 1 = 1 ∨ N.n - 1 = 2 ∨ N.n - 1 = 3 := by omega
        rcases this with z | z | z | z <;> rw [z] at lD <;> omega
      have lv : (rwV D).length = D.length := by unfold rwV; rw [List.length_map]
      walk_at "go"
      refine ⟨rl, rfl, ⟨_, SqL.of e3⟩, fun L nL => ?_⟩
      refine lc walk_list (by omega) nL (fun i acc H' => ∃ V' : List Vc, acc = vcV V' ∧ VcAt H' V' ∧ V'.map (·.2) = (D.take i).map fun x => TL.vec N.n x.2) (fun _ _ _ => ⟨[], rfl, fun x hx => (by cases hx), rfl⟩) (fun i acc H' s' _ => s'.lst e3) ?_ ?_
      · rintro i acc x H4 H5 F No hi s4 eL ⟨V', rfl, va, ve⟩ ⟨rfl, hx⟩ hF _
        rw [lv] at hi
        unfold rwV at hx
        rw [List.getElem?_map, List.getElem?_eq_getElem hi] at hx
        cases hx
        have hmem := List.getElem_mem hi
        obtain ⟨rok, rlen⟩ := gd _ hmem
        have tk : (D.take (i + 1)).map (fun x => TL.vec N.n x.2) = (D.take i).map (fun x => TL.vec N.n x.2) ++ [TL.vec N.n D[i].2] := take_map (f := fun x : Rw => TL.vec N.n x.2) (List.getElem?_eq_getElem hi)
        rw [tk, ← ve] at hF
        generalize D[i] = row at *
        have erow := s4 _ _ (ra _ hmem)
        have hN4 := hNt.same (s3.trans s4)
        walk_at "go"
        refine ⟨rfl, ?_⟩
        walk_at "go"
        rw [if_pos rfl]
        walk_at "go"
        refine w_ixT hN4.a (atI_nat (j := 1) rfl) ?_
        walk_at "go"
        refine w_lenT hN4.m ?_
        rw [List.length_map]
        walk_at "go"
        refine ⟨(N.n : Int), rfl, by omega, by omega, fun C nC => ?_⟩
        rw [Int.toNat_natCast]
        refine lc walk_r0 (by omega) nC (fun j acc _ => acc = (((List.range N.n).take j).map fun i => (TL.lk row.2 i).getD 0).map V.int) (fun _ _ _ => rfl) (fun _ _ _ _ _ => trivial) ?_ ?_
        · rintro j acc x H6 H7 F' No' hj s6 eC ea ⟨rfl, rfl⟩ hF' _
          obtain ⟨y, ey⟩ := TL.row_full rok rlen hj
          walk_at "go"
          refine ⟨rfl, ?_⟩
          walk_at "go"
          rw [if_pos rfl]
          refine w_dget ?_
          walk_at "go"
          refine w_dg (s6 _ _ erow) ey ?_
          refine hF' _ _ (Same.refl _) fun H8 _ _ _ _ => ?_
          rw [ea, take_map (List.getElem?_range hj), List.map_append]
          show _ = _ ++ [V.int ((TL.lk row.2 j).getD 0)]
          rw [ey]
          rfl
        · intro acc H6 s6 eC _ ea
          have tr : (List.range N.n).take N.n = List.range N.n := by
            have := @take_all Nat (List.range N.n)
            rw [List.length_range] at this
            exact this
          rw [tr] at ea
          have ea : acc = (TL.vec N.n row.2).map V.int := ea
          walk_at "go"
          refine w_tupA eC fun p H7 n7 s7 e7 => ?_
          rw [ea] at e7
          refine hF _ _ (s6.trans s7) fun H8 m8 t8 _ e8 => ⟨V' ++ [(p, TL.vec N.n row.2)], vcV_snoc (t := (p, TL.vec N.n row.2)), ((va.tp (Tp.of (s6.trans s7))).tp t8).snoc (t8 _ _ e7), by rw [List.map_append]; rfl⟩
      · rintro acc H4 s4 eL _ ⟨V', rfl, va, ve⟩
        rw [lv, take_all] at ve
        walk_at "go"
        refine k L V' H4 (s3.trans s4) eL va ⟨fun v hv => ?_, fun h hk => ?_⟩ ?_
        · rw [ve] at hv
          obtain ⟨x, hx, rfl⟩ := List.mem_map.mp hv
          refine ⟨by simp [TL.vec], ?_⟩
          rw [TL.vec_at n1, (gd x hx).1.h0]
          rfl
        · obtain ⟨x, hx, ax⟩ := cp h hk
          rw [ve]
          exact ⟨_, List.mem_map.mpr ⟨x, hx, rfl⟩, fun j hj => TL.vec_agree (gd x hx).1 (gd x hx).2 ax hj⟩
        · have := congrArg List.length ve
          rw [List.length_map, List.length_map] at this
          omega
end
end TW

namespace TW
open PySem L2
/-- one step of a reading -/
local macro_rules | `(tactic| walk_at "st") => `(tactic| first
  | with_reducible refine w_seq ?_ | with_reducible refine w_next ?_ | with_reducible refine w_nx ?_ | with_reducible refine w_rt ?_ | with_reducible refine w_asg ?_ | with_reducible refine w_name ?_
  | with_reducible refine w_op ?_ | with_reducible refine w_un ?_ | with_reducible refine w_var rfl ?_ | with_reducible refine w_c ?_ | with_reducible refine w_ret ?_ | with_reducible refine w_drop ?_
  | with_reducible refine w_if ?_ | with_reducible refine w_test ?_ | with_reducible refine w_tB ?_ | with_reducible refine w_k ?_ | with_reducible refine w_and ?_ | with_reducible refine w_or ?_ | with_reducible refine w_yes ?_
  | with_reducible refine w_nil ?_ | with_reducible refine w_cons ?_ | with_reducible refine w_cb ?_ | with_reducible refine w_call ?_ | with_reducible refine w_I0 ?_ | with_reducible refine w_neg ?_
  | with_reducible refine w_eqI ?_ | with_reducible refine w_neI ?_ | with_reducible refine w_abs ?_ | with_reducible refine w_min2 ?_ | with_reducible refine w_intI ?_ | with_reducible refine w_intB ?_
  | with_reducible refine w_isN0 ?_ | with_reducible refine w_isN1 ?_ | with_reducible refine w_isN2 ?_ | with_reducible refine w_noN0 ?_ | with_reducible refine w_noN1 ?_ | with_reducible refine w_noN2 ?_
  | with_reducible refine w_sub ?_ | with_reducible refine w_for ?_ | with_reducible refine w_lc ?_ | with_reducible refine w_iT ?_ | with_reducible refine w_iL ?_ | with_reducible refine w_iE ?_ | with_reducible refine w_iEl ?_
  | with_reducible refine w_iZ ?_ | with_reducible refine w_iR1 ?_ | with_reducible refine w_iR2 ?_ | with_reducible refine w_gc ?_ | with_reducible refine w_gn ?_ | with_reducible refine w_bm ?_ | with_reducible refine w_sfld ?_ | with_reducible refine w_tfld ?_ | with_reducible refine w_meth ?_ | with_reducible refine w_make ?_ | with_reducible refine w_tup ?_ | with_reducible refine w_lst ?_)
local macro_rules | `(tactic| walk_at "go") => `(tactic| repeat walk_at "st")
local macro_rules | `(tactic| walk_at "nx") => `(tactic| repeat (first | with_reducible refine w_next ?_ | with_reducible refine w_nx ?_ | with_reducible refine w_name ?_ | with_reducible refine w_gc ?_ | with_reducible refine w_gn ?_))

open TL (Rd rat miss gi absI Stp BF go PW Le SS AW VW WW)
section
variable {P : Program} {w : World} {K : PySem.W.Frag} {mg : Str → Option Value} {base : Heap}
/-! ### the best rows -/
structure BestW (N : Net) (W : List Vc) : Prop where
  ok : ∀ t ∈ W, t.2.length = N.n ∧ costL N.rs t.2 = TL.worth N.rs (bestF N) ∧ ∀ j, j < N.n → gi (loN N) j ≤ gi t.2 j ∧ gi t.2 j ≤ gi (hiN N) j
  lo : ∃ t ∈ W, ∀ j, j < N.n → gi t.2 j = gi (loN N) j
  hi : ∃ t ∈ W, ∀ j, j < N.n → gi t.2 j = gi (hiN N) j
theorem best_rows {N : Net} (g : NG N) {L : List Vc} (R : TL.Rows N.n N.rs (L.map (·.2))) : BestW N (L.filter fun t => decide (costL N.rs t.2 = TL.worth N.rs (bestF N))) := by
  have b := best_ok g.ok
  have s := spans_N g.ok g.jn
  have hit : ∀ h, TL.HK N.n N.rs h → TL.CS N.rs h (bestF N) → ∃ t ∈ L.filter (fun t => decide (costL N.rs t.2 = TL.worth N.rs (bestF N))), ∀ j, j < N.n → gi t.2 j = gi h j := fun h hk hc => by
    obtain ⟨v, hv, e, ej⟩ := TL.rows_hit g.ok.ok b.fb b.ev R hk hc
    obtain ⟨t, ht, rfl⟩ := List.mem_map.mp hv
    exact ⟨t, List.mem_filter.mpr ⟨ht, decide_eq_true (by rw [costL_eq]; exact e)⟩, ej⟩
  refine ⟨fun t ht => ?_, hit _ ⟨s.l0, s.lk⟩ s.lc, hit _ ⟨s.h0, s.hk⟩ s.hc⟩
  obtain ⟨h1, h2⟩ := List.mem_filter.mp ht
  have h2 := of_decide_eq_true h2
  have hm : t.2 ∈ L.map (·.2) := List.mem_map.mpr ⟨t, h1, rfl⟩
  exact ⟨(R.ok _ hm).1, h2, fun j hj => TL.rows_in g.ok.ok b.fb b.ev R s hm (by rw [← costL_eq]; exact h2) hj⟩
def spAllBest : Sp := fun vs H Q _ => ∃ N : Net, vs = [.ref N.a] ∧ NetAt H N ∧ NG N ∧ ∀ l, ∀ (W : List Vc) H', Same H H' → H' l = some (.lst (vcV W)) → VcAt H' W → BestW N W → W.length ≤ 1000 → Q (.ref l) H'
theorem ok_law_all_best (A : All K mg) : FnOk P w K mg base CX0 3 A.a_law_all_best A.d_law_all_best ["_law_net_here"] spAllBest := by
  refine A.F_law_all_best.ok sc_law_all_best (fun vs H Q E h => ?_) (fun cdv A' outer s H vs Q E hr h => ?_)
  · obtain ⟨N, rfl, _⟩ := h
    rfl
  · obtain ⟨N, rfl, hNt, g, k⟩ := h
    refine ⟨_, (pss_cons (ps_set (i := 1) sc_law_all_best.nd rfl (by first | exact Or.inl rfl | exact Or.inr rfl) (pe_call (ok_law_vertices A) (hr.mono (by decide)) (by rfl) A.g_law_vertices A.F_law_vertices.kp A.b_law_vertices .nil pass0 (pa_cons (pv 0) pa_nil))) (pss_cons (ps_set (i := 2) sc_law_all_best.nd rfl (by first | exact Or.inl rfl | exact Or.inr rfl) (pe_callB (cr_min rfl) (by rfl) A.z_min (by decide +kernel) (pa_cons (pe_lc (own := [("_law_heights_here", 3)]) (g := (gName 3)) (tt := tYes) rfl sc_law_all_best.nd (pi_list (pv 1)) (blkOk_by (own := [("_law_heights_here", 3)]) (N := ["_law_net_here", "_law_rows", "_law_least", "_law_heights_here"]) (sc := defScope s_law_all_best) (by decide +kernel)) (fun _ _ _ _ _ => (pg_name (i := 3) sc_law_all_best.nd rfl (by first | exact Or.inl rfl | exact Or.inr rfl))) (fun _ _ _ _ _ => pts_nil) (fun _ _ _ _ _ => (pe_call (ok_law_cost A) hr (by rfl) A.g_law_cost A.F_law_cost.kp A.b_law_cost .nil pass0 (pa_cons (pv 0) (pa_cons (pv 3) pa_nil))))) pa_nil))) (pss_one (ps_ret (pe_lc (own := [("_law_heights_here", 3)]) (g := (gName 3)) (tt := _) rfl sc_law_all_best.nd (pi_list (pv 1)) (blkOk_by (own := [("_law_heights_here", 3)]) (N := ["_law_net_here", "_law_rows", "_law_least", "_law_heights_here"]) (sc := defScope s_law_all_best) (by decide +kernel)) (fun _ _ _ _ _ => (pg_name (i := 3) sc_law_all_best.nd rfl (by first | exact Or.inl rfl | exact Or.inr rfl))) (fun _ _ _ _ _ => pts_one (pt_cmpR op_eq (pe_call (ok_law_cost A) hr (by rfl) A.g_law_cost A.F_law_cost.kp A.b_law_cost .nil pass0 (pa_cons (pv 0) (pa_cons (pv 3) pa_nil))) (pv 2) (nomark _))) (fun _ _ _ _ _ => (pv 3))))))), ?_⟩
    have b := best_ok g.ok
    have sN := spans_N g.ok g.jn
    walk_at "go"
    refine ⟨N, rfl, hNt, g.ok, fun rl L H1 s1 e1 va R lL => ?_⟩
    have lv : (vcV L).length = L.length := by unfold vcV; rw [List.length_map]
    walk_at "go"
    refine ⟨rl, rfl, ⟨_, SqL.of e1⟩, fun C nC => ?_⟩
    refine lc walk_list (by omega) nC (fun i acc _ => acc = ((L.take i).map fun t => costL N.rs t.2).map V.int) (fun _ _ _ => rfl) (fun i acc H' s' _ => s'.lst e1) ?_ ?_
    · rintro i acc x H2 H3 F No hi s2 eC ea ⟨rfl, hx⟩ hF _
      rw [lv] at hi
      unfold vcV at hx
      rw [List.getElem?_map, List.getElem?_eq_getElem hi] at hx
      cases hx
      have hm := List.getElem_mem hi
      have et := s2 _ _ (va _ hm)
      walk_at "go"
      refine ⟨rfl, ?_⟩
      walk_at "go"
      rw [if_pos rfl]
      walk_at "go"
      refine ⟨N, _, L[i].2, rfl, hNt.same (s1.trans s2), g.ok, .inr (SqT.of et), (R.ok _ (List.mem_map.mpr ⟨_, hm, rfl⟩)).1, fun H4 s4 => ?_⟩
      refine hF _ _ s4 fun H5 _ _ _ _ => ?_
      rw [ea, take_map (List.getElem?_eq_getElem hi), List.map_append]
      rfl
    · intro acc H2 s2 eC _ ea
      rw [lv, take_all] at ea
      rw [ea] at eC
      obtain ⟨v0, hv0, ev0, _⟩ := TL.rows_hit g.ok.ok b.fb b.ev R ⟨sN.l0, sN.lk⟩ sN.lc
      obtain ⟨t0, ht0, rfl⟩ := List.mem_map.mp hv0
      walk_at "go"
      refine min_ints eC (by rw [List.length_map]; exact List.length_pos_of_mem ht0) fun m hm hle => ?_
      have em : m = TL.worth N.rs (bestF N) := by
        have h1 := hle _ (List.mem_map.mpr ⟨t0, ht0, rfl⟩)
        rw [costL_eq, ev0] at h1
        obtain ⟨t1, ht1, e1⟩ := List.mem_map.mp hm
        have h2 := TL.rows_low g.ok.ok b.fb b.ev t1.2
        rw [← costL_eq, e1] at h2
        omega
      subst em
      walk_at "go"
      refine ⟨rl, rfl, ⟨_, SqL.of (s2 _ _ e1)⟩, fun C2 nC2 => ?_⟩
      refine lc walk_list (by omega) nC2 (fun i acc H' => ∃ M : List Vc, acc = vcV M ∧ VcAt H' M ∧ M = (L.take i).filter fun t => decide (costL N.rs t.2 = TL.worth N.rs (bestF N))) (fun _ _ _ => ⟨[], rfl, fun t h => (by cases h), rfl⟩) (fun i acc H' s' _ => (s2.trans s').lst e1) ?_ ?_
      · rintro i acc x H4 H5 F No hi s4 eC2 ⟨M, rfl, ma, me⟩ ⟨rfl, hx⟩ hF hNo
        rw [lv] at hi
        unfold vcV at hx
        rw [List.getElem?_map, List.getElem?_eq_getElem hi] at hx
        cases hx
        have hm := List.getElem_mem hi
        have tk : (L.take (i + 1)).filter (fun t => decide (costL N.rs t.2 = TL.worth N.rs (bestF N))) = M ++ (if costL N.rs L[i].2 = TL.worth N.rs (bestF N) then [L[i]] else []) := by
          rw [List.take_add_one, List.getElem?_eq_getElem hi, List.filter_append, me]
          congr 1
          by_cases c : costL N.rs L[i].2 = TL.worth N.rs (bestF N)
          · simp [c]
          · simp [c]
        rw [tk] at hF hNo
        have et := s4 _ _ (s2 _ _ (va _ hm))
        have hl := (R.ok _ (List.mem_map.mpr ⟨_, hm, rfl⟩)).1
        generalize L[i] = t at *
        walk_at "go"
        refine ⟨rfl, ?_⟩
        walk_at "go"
        refine ⟨N, _, t.2, rfl, hNt.same ((s1.trans s2).trans s4), g.ok, .inr (SqT.of et), hl, fun H6 s6 => ?_⟩
        walk_at "go"
        refine w_ifd (fun c => ?_) (fun c => ?_)
        · rw [if_pos c] at hF
          walk_at "go"
          exact hF _ _ s6 fun H7 m7 t7 _ e7 => ⟨M ++ [t], vcV_snoc, ((ma.tp (Tp.of s6)).tp t7).snoc (t7 _ _ (s6 _ _ et)), rfl⟩
        · rw [if_neg c, List.append_nil] at hNo
          exact hNo _ s6 ⟨M, rfl, ma.tp (Tp.of s6), rfl⟩
      · rintro acc H4 s4 eC2 _ ⟨M, rfl, ma, me⟩
        rw [lv, take_all] at me
        walk_at "go"
        exact k C2 M H4 ((s1.trans s2).trans s4) eC2 ma (by rw [me]; exact best_rows g R) (by rw [me]; exact Nat.le_trans (List.length_filter_le _ _) lL)
/-! ### a mark's line -/
theorem col_lo {N : Net} {W : List Vc} (b : BestW N W) {j : Nat} (hj : j < N.n) {m : Int} (hm : m ∈ W.map fun t => gi t.2 j) (hle : ∀ y ∈ W.map (fun t => gi t.2 j), m ≤ y) : m = gi (loN N) j := by
  obtain ⟨t, ht, e⟩ := List.mem_map.mp hm
  obtain ⟨t', ht', e'⟩ := b.lo
  have h1 := ((b.ok t ht).2.2 j hj).1
  have h2 := hle _ (List.mem_map.mpr ⟨t', ht', rfl⟩)
  have h3 := e' j hj
  have e : gi t.2 j = m := e
  omega
theorem col_hi {N : Net} {W : List Vc} (b : BestW N W) {j : Nat} (hj : j < N.n) {m : Int} (hm : m ∈ W.map fun t => gi t.2 j) (hle : ∀ y ∈ W.map (fun t => gi t.2 j), y ≤ m) : m = gi (hiN N) j := by
  obtain ⟨t, ht, e⟩ := List.mem_map.mp hm
  obtain ⟨t', ht', e'⟩ := b.hi
  have h1 := ((b.ok t ht).2.2 j hj).2
  have h2 := hle _ (List.mem_map.mpr ⟨t', ht', rfl⟩)
  have h3 := e' j hj
  have e : gi t.2 j = m := e
  omega
def spMarkLine (K : PySem.W.Frag) : Sp := fun vs H Q _ => ∃ (N : Net) (hp wl : Addr) (h : List Int) (W : List Vc) (j : Nat), vs = [.ref N.a, .ref hp, .ref wl, .int (j : Int)] ∧ NetAt H N ∧ NG N ∧ Ints K H hp h ∧ h.length = N.n ∧ Sml (gi h j) ∧ H wl = some (.lst (vcV W)) ∧ VcAt H W ∧ BestW N W ∧ W.length ≤ 1000 ∧ j < N.n ∧
  ∀ H', Same H H' → (markLine N (gi h j) (gi (loN N) j) (gi (hiN N) j) j).length ≤ 20000 → Q (.str (markLine N (gi h j) (gi (loN N) j) (gi (hiN N) j) j)) H'
theorem ok_law_mark_line (A : All K mg) : FnOk P w K mg base CX0 1 A.a_law_mark_line A.d_law_mark_line ["_law_net_here", "_law_heights_here", "_law_best", "_law_mark"] (spMarkLine K) := by
  refine A.F_law_mark_line.ok sc_law_mark_line (fun vs H Q E h => ?_) (fun cdv A' outer s H vs Q E hr h => ?_)
  · obtain ⟨N, hp, wl, h, W, j, rfl, _⟩ := h
    rfl
  · obtain ⟨N, hp, wl, h, W, j, rfl, hNt, g, ih, lh, hx, ew, wa, bw, lW, hj, k⟩ := h
    refine ⟨_, (pss_cons (ps_set (i := 4) sc_law_mark_line.nd rfl (by first | exact Or.inl rfl | exact Or.inr rfl) (pe_op op_addS (pe_op op_addS (pe_ix (ix_A K rfl) (pe_ix (ix_A K rfl) (pv 0) pe_int (fun _ _ => rfl)) (pv 3) (fun _ _ => rfl)) pe_str) (pe_callTy call_strA (by rfl) A.z_str (by decide +kernel) (pa_cons (pe_ix (ix_A K rfl) (pv 1) (pv 3) (fun _ _ => rfl)) pa_nil)))) (pss_cons (ps_set (i := 5) sc_law_mark_line.nd rfl (by first | exact Or.inl rfl | exact Or.inr rfl) (pe_callB (cr_min rfl) (by rfl) A.z_min (by decide +kernel) (pa_cons (pe_lc (own := [("_law_row", 7)]) (g := (gName 7)) (tt := tYes) rfl sc_law_mark_line.nd (pi_list (pv 2)) (blkOk_by (own := [("_law_row", 7)]) (N := ["_law_net_here", "_law_heights_here", "_law_best", "_law_mark", "_law_line", "_law_least", "_law_most", "_law_row"]) (sc := defScope s_law_mark_line) (by decide +kernel)) (fun _ _ _ _ _ => (pg_name (i := 7) sc_law_mark_line.nd rfl (by first | exact Or.inl rfl | exact Or.inr rfl))) (fun _ _ _ _ _ => pts_nil) (fun _ _ _ _ _ => (pe_ix (ix_A K rfl) (pv 7) (pv 3) (fun _ _ => rfl)))) pa_nil))) (pss_cons (ps_set (i := 6) sc_law_mark_line.nd rfl (by first | exact Or.inl rfl | exact Or.inr rfl) (pe_callB (cr_max rfl) (by rfl) A.z_max (by decide +kernel) (pa_cons (pe_lc (own := [("_law_row", 7)]) (g := (gName 7)) (tt := tYes) rfl sc_law_mark_line.nd (pi_list (pv 2)) (blkOk_by (own := [("_law_row", 7)]) (N := ["_law_net_here", "_law_heights_here", "_law_best", "_law_mark", "_law_line", "_law_least", "_law_most", "_law_row"]) (sc := defScope s_law_mark_line) (by decide +kernel)) (fun _ _ _ _ _ => (pg_name (i := 7) sc_law_mark_line.nd rfl (by first | exact Or.inl rfl | exact Or.inr rfl))) (fun _ _ _ _ _ => pts_nil) (fun _ _ _ _ _ => (pe_ix (ix_A K rfl) (pv 7) (pv 3) (fun _ _ => rfl)))) pa_nil))) (pss_cons (ps_if (pt_cmpR op_ne (pv 5) (pv 6) (nomark _)) (pss_one (ps_set (i := 4) sc_law_mark_line.nd rfl (by first | exact Or.inl rfl | exact Or.inr rfl) (pe_op op_addS (pe_op op_addS (pe_op op_addS (pe_op op_addS (pv 4) pe_str) (pe_callTy call_strA (by rfl) A.z_str (by decide +kernel) (pa_cons (pv 5) pa_nil))) pe_str) (pe_callTy call_strA (by rfl) A.z_str (by decide +kernel) (pa_cons (pv 6) pa_nil))))) pss_nil) (pss_one (ps_ret (pv 4))))))), ?_⟩
    have lv : (vcV W).length = W.length := by unfold vcV; rw [List.length_map]
    have hn := g.nl hj
    obtain ⟨b1, b2⟩ := g.sp hj
    have hlo : Sml (gi (loN N) j) := by unfold Sml; omega
    have hhi : Sml (gi (hiN N) j) := by unfold Sml; omega
    have wpos : 0 < W.length := by
      obtain ⟨t, ht, _⟩ := bw.lo
      exact List.length_pos_of_mem ht
    walk_at "go"
    refine w_ixT hNt.a (atI_nat (j := 1) rfl) ?_
    walk_at "go"
    refine w_ixT hNt.m (at_nm hj) ?_
    walk_at "go"
    refine w_addS hn lit1 rfl fun z1 => ?_
    walk_at "go"
    refine ih.ix (by omega) ?_
    walk_at "go"
    refine w_str hx ?_
    refine w_addS z1 (sI_len hx) rfl fun z2 => ?_
    walk_at "go"
    refine ⟨wl, rfl, ⟨_, SqL.of ew⟩, fun C nC => ?_⟩
    refine lc walk_list (by omega) nC (fun i acc _ => acc = ((W.take i).map fun t => gi t.2 j).map V.int) (fun _ _ _ => rfl) (fun i acc H' s' _ => s'.lst ew) ?_ ?_
    · rintro i acc x H2 H3 F No hi s2 eC ea ⟨rfl, hx⟩ hF _
      rw [lv] at hi
      unfold vcV at hx
      rw [List.getElem?_map, List.getElem?_eq_getElem hi] at hx
      cases hx
      have hm := List.getElem_mem hi
      have et := s2 _ _ (wa _ hm)
      walk_at "go"
      refine ⟨rfl, ?_⟩
      walk_at "go"
      rw [if_pos rfl]
      walk_at "go"
      refine w_ixT et (at_int (by rw [(bw.ok _ hm).1]; exact hj)) ?_
      refine hF _ _ (Same.refl _) fun H5 _ _ _ _ => ?_
      rw [ea, take_map (List.getElem?_eq_getElem hi), List.map_append]
      rfl
    · intro acc H2 s2 eC _ ea
      rw [lv, take_all] at ea
      rw [ea] at eC
      walk_at "go"
      refine min_ints eC (by rw [List.length_map]; exact wpos) fun m hm hle => ?_
      rw [col_lo bw hj hm hle]
      clear hm hle
      walk_at "go"
      refine ⟨wl, rfl, ⟨_, SqL.of (s2 _ _ ew)⟩, fun C2 nC2 => ?_⟩
      refine lc walk_list (by omega) nC2 (fun i acc _ => acc = ((W.take i).map fun t => gi t.2 j).map V.int) (fun _ _ _ => rfl) (fun i acc H' s' _ => (s2.trans s').lst ew) ?_ ?_
      · rintro i acc x H4 H5 F No hi s4 eC2 ea2 ⟨rfl, hx⟩ hF _
        rw [lv] at hi
        unfold vcV at hx
        rw [List.getElem?_map, List.getElem?_eq_getElem hi] at hx
        cases hx
        have hm := List.getElem_mem hi
        have et := s4 _ _ (s2 _ _ (wa _ hm))
        walk_at "go"
        refine ⟨rfl, ?_⟩
        walk_at "go"
        rw [if_pos rfl]
        walk_at "go"
        refine w_ixT et (at_int (by rw [(bw.ok _ hm).1]; exact hj)) ?_
        refine hF _ _ (Same.refl _) fun H5 _ _ _ _ => ?_
        rw [ea2, take_map (List.getElem?_eq_getElem hi), List.map_append]
        rfl
      · intro acc H4 s4 eC2 _ ea2
        rw [lv, take_all] at ea2
        rw [ea2] at eC2
        walk_at "go"
        refine max_ints2 eC2 (by rw [List.length_map]; exact wpos) fun m hm hle => ?_
        rw [col_hi bw hj hm hle]
        clear hm hle
        have k := k H4 (s2.trans s4)
        unfold markLine at k
        walk_at "go"
        refine w_ifn (fun c => ?_) (fun c => ?_)
        · rw [if_neg c] at k
          walk_at "go"
          refine w_addS z2 lit1 rfl fun z3 => ?_
          walk_at "go"
          refine w_str hlo ?_
          refine w_addS z3 (sI_len hlo) rfl fun z4 => ?_
          walk_at "go"
          refine w_addS z4 lit2 rfl fun z5 => ?_
          walk_at "go"
          refine w_str hhi ?_
          refine w_addS z5 (sI_len hhi) rfl fun z6 => ?_
          walk_at "go"
          exact k (by omega)
        · rw [if_pos c] at k
          walk_at "go"
          exact k (by omega)
end
end TW

namespace TW
open PySem L2
/-- one step of a reading -/
local macro_rules | `(tactic| walk_at "st") => `(tactic| first
  | with_reducible refine w_seq ?_ | with_reducible refine w_next ?_ | with_reducible refine w_nx ?_ | with_reducible refine w_rt ?_ | with_reducible refine w_asg ?_ | with_reducible refine w_name ?_
  | with_reducible refine w_op ?_ | with_reducible refine w_un ?_ | with_reducible refine w_var rfl ?_ | with_reducible refine w_c ?_ | with_reducible refine w_ret ?_ | with_reducible refine w_drop ?_
  | with_reducible refine w_if ?_ | with_reducible refine w_test ?_ | with_reducible refine w_tB ?_ | with_reducible refine w_k ?_ | with_reducible refine w_and ?_ | with_reducible refine w_or ?_ | with_reducible refine w_yes ?_
  | with_reducible refine w_nil ?_ | with_reducible refine w_cons ?_ | with_reducible refine w_cb ?_ | with_reducible refine w_call ?_ | with_reducible refine w_I0 ?_ | with_reducible refine w_neg ?_
  | with_reducible refine w_eqI ?_ | with_reducible refine w_neI ?_ | with_reducible refine w_abs ?_ | with_reducible refine w_min2 ?_ | with_reducible refine w_intI ?_ | with_reducible refine w_intB ?_
  | with_reducible refine w_isN0 ?_ | with_reducible refine w_isN1 ?_ | with_reducible refine w_isN2 ?_ | with_reducible refine w_noN0 ?_ | with_reducible refine w_noN1 ?_ | with_reducible refine w_noN2 ?_
  | with_reducible refine w_sub ?_ | with_reducible refine w_for ?_ | with_reducible refine w_lc ?_ | with_reducible refine w_iT ?_ | with_reducible refine w_iL ?_ | with_reducible refine w_iE ?_ | with_reducible refine w_iEl ?_
  | with_reducible refine w_iZ ?_ | with_reducible refine w_iR1 ?_ | with_reducible refine w_iR2 ?_ | with_reducible refine w_gc ?_ | with_reducible refine w_gn ?_ | with_reducible refine w_bm ?_ | with_reducible refine w_sfld ?_ | with_reducible refine w_tfld ?_ | with_reducible refine w_meth ?_ | with_reducible refine w_make ?_ | with_reducible refine w_tup ?_ | with_reducible refine w_lst ?_)
local macro_rules | `(tactic| walk_at "go") => `(tactic| repeat walk_at "st")
local macro_rules | `(tactic| walk_at "nx") => `(tactic| repeat (first | with_reducible refine w_next ?_ | with_reducible refine w_nx ?_ | with_reducible refine w_name ?_ | with_reducible refine w_gc ?_ | with_reducible refine w_gn ?_))

open TL (Rd rat miss gi absI Stp BF go PW Le SS AW VW WW)
section
variable {P : Program} {w : World} {K : PySem.W.Frag} {mg : Str → Option Value} {base : Heap}
/-! ### the law -/
def spLaw (K : PySem.W.Frag) : Sp := fun vs H Q _ => ∃ (a : Addr) (ns : List Int), vs = [.ref a] ∧ SqL K H a (ns.map V.int) ∧ ∀ H', Q (.bl true) H'
theorem w_neS {a : Str} {H : Hp} {Q : VK} (q : Q (.bl false) H) : rNe (.str a) (.str a) H Q := ⟨rfl, by
  rw [decide_eq_true rfl]
  exact q⟩
theorem ok_law (A : All K mg) : FnOk P w K mg base CX0 12 A.a_law A.d_law ["_law_script"] (spLaw K) := by
  refine A.F_law.ok sc_law (fun vs H Q E h => ?_) (fun cdv A' outer s H vs Q E hr h => ?_)
  · obtain ⟨a, ns, rfl, _⟩ := h
    rfl
  · obtain ⟨a, ns, rfl, hs, k⟩ := h
    refine ⟨_, (pss_cons (ps_set (i := 1) sc_law.nd rfl (by first | exact Or.inl rfl | exact Or.inr rfl) (pe_lst (pa_cons (pe_call (ok_law_digits A) (hr.mono (by decide)) (by rfl) A.g_law_digits A.F_law_digits.kp A.b_law_digits .nil pass0 (pa_cons (pv 0) (pa_cons pe_int (pa_cons pe_int pa_nil)))) (pa_cons pe_int pa_nil)))) (pss_cons (ps_for PassesOwn.never rfl (pi_range1 rfl A.z_range (pa_cons pe_int pa_nil)) (pg_name (i := 2) sc_law.nd rfl (by first | exact Or.inl rfl | exact Or.inr rfl)) (pss_cons (ps_set (i := 3) sc_law.nd rfl (by first | exact Or.inl rfl | exact Or.inr rfl) (pe_call (ok_law_any_net A) (hr.mono (by decide)) (by rfl) A.g_law_any_net A.F_law_any_net.kp A.b_law_any_net .nil pass0 (pa_cons (pv 1) (pa_cons pe_int (pa_cons pe_int pa_nil))))) (pss_cons (ps_set (i := 4) sc_law.nd rfl (by first | exact Or.inl rfl | exact Or.inr rfl) (pe_ix (ix_A K rfl) (pe_call (ok_best_paper A) (hr.mono (by decide)) (by rfl) A.g_best_paper A.F_best_paper.kp A.b_best_paper .nil pass0 (pa_cons (pv 3) pa_nil)) pe_int (fun _ _ => rfl))) (pss_cons (ps_set (i := 5) sc_law.nd rfl (by first | exact Or.inl rfl | exact Or.inr rfl) (pe_call (ok_law_all_best A) (hr.mono (by decide)) (by rfl) A.g_law_all_best A.F_law_all_best.kp A.b_law_all_best .nil pass0 (pa_cons (pv 3) pa_nil))) (pss_cons (ps_set (i := 6) sc_law.nd rfl (by first | exact Or.inl rfl | exact Or.inr rfl) (pe_call (ok_law_cost A) (hr.mono (by decide)) (by rfl) A.g_law_cost A.F_law_cost.kp A.b_law_cost .nil pass0 (pa_cons (pv 3) (pa_cons (pv 4) pa_nil)))) (pss_cons (ps_if (pt_cmpR op_ne (pv 6) (pe_call (ok_law_cost A) (hr.mono (by decide)) (by rfl) A.g_law_cost A.F_law_cost.kp A.b_law_cost .nil pass0 (pa_cons (pv 3) (pa_cons (pe_ix (ix_A K rfl) (pv 5) pe_int (fun _ _ => rfl)) pa_nil))) (nomark _)) (pss_one (ps_ret pe_bl)) pss_nil) (pss_cons (ps_setLc (i := 7) (hc := rfl) (hN := sc_law.nd) (hy := rfl) (hyl := rfl) (hsw := sw_true rfl rfl rfl (by decide +kernel)) (own := [("_law_mark", 14)]) (g := (gName 14)) (tt := tYes) (pi_range1 rfl A.z_range (pa_cons (pe_callB (call_lenA K rfl) (by rfl) A.z_len (by decide +kernel) (pa_cons (pe_ix (ix_A K rfl) (pv 3) pe_int (fun _ _ => rfl)) pa_nil)) pa_nil)) (blkOk_by (own := [("_law_mark", 14)]) (N := ["_law_script", "_law_box", "_law_turn", "_law_net_here", "_law_heights_here", "_law_best", "_law_cost_here", "_law_lines", "_law_misses_here", "_law_index", "_law_a", "_law_b", "_law_value", "_law_line", "_law_mark"]) (sc := defScope s_law) (by decide +kernel)) (fun _ _ _ _ _ => (pg_name (i := 14) sc_law.nd rfl (by first | exact Or.inl rfl | exact Or.inr rfl))) (fun _ _ _ _ _ => pts_nil) (fun _ _ _ _ _ => (pe_call (ok_law_mark_line A) (hr.mono (by decide)) (by rfl) A.g_law_mark_line A.F_law_mark_line.kp A.b_law_mark_line .nil pass0 (pa_cons (pv 3) (pa_cons (pv 4) (pa_cons (pv 5) (pa_cons (pv 14) pa_nil))))))) (pss_cons (ps_set (i := 8) sc_law.nd rfl (by first | exact Or.inl rfl | exact Or.inr rfl) (pe_call (ok_law_misses A) (hr.mono (by decide)) (by rfl) A.g_law_misses A.F_law_misses.kp A.b_law_misses .nil pass0 (pa_cons (pv 3) (pa_cons (pv 4) pa_nil)))) (pss_cons (ps_for PassesOwn.never rfl (pi_range1 rfl A.z_range (pa_cons (pe_callB (call_lenA K rfl) (by rfl) A.z_len (by decide +kernel) (pa_cons (pe_ix (ix_A K rfl) (pv 3) pe_int (fun _ _ => rfl)) pa_nil)) pa_nil)) (pg_name (i := 9) sc_law.nd rfl (by first | exact Or.inl rfl | exact Or.inr rfl)) (pss_cons (ps_asg (pe_ix (ix_A K rfl) (pe_ix (ix_A K rfl) (pv 3) pe_int (fun _ _ => rfl)) (pv 9) (fun _ _ => rfl)) (pg_tupA K rfl rfl (pgs_cons (pg_name (i := 10) sc_law.nd rfl (by first | exact Or.inl rfl | exact Or.inr rfl)) (pgs_cons (pg_name (i := 11) sc_law.nd rfl (by first | exact Or.inl rfl | exact Or.inr rfl)) (pgs_cons (pg_name (i := 12) sc_law.nd rfl (by first | exact Or.inl rfl | exact Or.inr rfl)) pgs_nil))))) (pss_cons (ps_set (i := 13) sc_law.nd rfl (by first | exact Or.inl rfl | exact Or.inr rfl) (pe_op op_addS (pe_op op_addS (pe_op op_addS (pe_op op_addS (pe_ix (ix_A K rfl) (pe_ix (ix_A K rfl) (pv 3) pe_int (fun _ _ => rfl)) (pv 10) (fun _ _ => rfl)) pe_str) (pe_ix (ix_A K rfl) (pe_ix (ix_A K rfl) (pv 3) pe_int (fun _ _ => rfl)) (pv 11) (fun _ _ => rfl))) pe_str) (pe_callTy call_strA (by rfl) A.z_str (by decide +kernel) (pa_cons (pv 12) pa_nil)))) (pss_cons (ps_if (pt_cmpR op_ne (pe_ix (ix_A K rfl) (pv 8) (pv 9) (fun _ _ => rfl)) pe_int (nomark _)) (pss_one (ps_set (i := 13) sc_law.nd rfl (by first | exact Or.inl rfl | exact Or.inr rfl) (pe_op op_addS (pe_op op_addS (pv 13) pe_str) (pe_callTy call_strA (by rfl) A.z_str (by decide +kernel) (pa_cons (pe_ix (ix_A K rfl) (pv 8) (pv 9) (fun _ _ => rfl)) pa_nil))))) pss_nil) (pss_one (ps_expr (pe_bm PySem.F.plainAttrs_list PySem.F.slot_list_append PySem.F.type_list_append mt_append (pv 7) (pa_cons (pv 13) pa_nil)))))))) (pss_cons (ps_expr (pe_bm PySem.F.plainAttrs_list PySem.F.slot_list_append PySem.F.type_list_append mt_append (pv 7) (pa_cons (pe_op op_addS pe_str (pe_callTy call_strA (by rfl) A.z_str (by decide +kernel) (pa_cons (pv 6) pa_nil))) pa_nil))) (pss_cons (ps_if (pt_cmpR op_eq (pe_callB (call_lenA K rfl) (by rfl) A.z_len (by decide +kernel) (pa_cons (pe_ix (ix_A K rfl) (pv 3) pe_int (fun _ _ => rfl)) pa_nil)) pe_int (nomark _)) (pss_one (ps_set (i := 7) sc_law.nd rfl (by first | exact Or.inl rfl | exact Or.inr rfl) (pe_op op_cat (pv 7) (pe_lst (pa_cons pe_str (pa_cons pe_str pa_nil)))))) (pss_one (ps_set (i := 7) sc_law.nd rfl (by first | exact Or.inl rfl | exact Or.inr rfl) (pe_op op_cat (pv 7) (pe_lst (pa_cons (pe_op op_addS pe_str (pe_callTy call_strA (by rfl) A.z_str (by decide +kernel) (pa_cons (pe_call (ok_law_strength A) (hr.mono (by decide)) (by rfl) A.g_law_strength A.F_law_strength.kp A.b_law_strength .nil pass0 (pa_cons (pv 3) pa_nil)) pa_nil))) (pa_cons (pe_op op_addS pe_str (pe_callTy call_strA (by rfl) A.z_str (by decide +kernel) (pa_cons (pe_op op_fdiv (pe_op op_sub (pe_call (ok_law_strength A) (hr.mono (by decide)) (by rfl) A.g_law_strength A.F_law_strength.kp A.b_law_strength .nil pass0 (pa_cons (pv 3) pa_nil)) pe_int) pe_int) pa_nil))) pa_nil))))))) (pss_one (ps_if (pt_cmpR op_ne (pe_call (ok_report A) hr (by rfl) A.g_report A.F_report.kp A.b_report .nil pass0 (pa_cons (pv 3) pa_nil)) (pe_join pe_str (pe_lc (own := [("_law_line", 13)]) (g := (gName 13)) (tt := tYes) rfl sc_law.nd (pi_list (pv 7)) (blkOk_by (own := [("_law_line", 13)]) (N := ["_law_script", "_law_box", "_law_turn", "_law_net_here", "_law_heights_here", "_law_best", "_law_cost_here", "_law_lines", "_law_misses_here", "_law_index", "_law_a", "_law_b", "_law_value", "_law_line", "_law_mark"]) (sc := defScope s_law) (by decide +kernel)) (fun _ _ _ _ _ => (pg_name (i := 13) sc_law.nd rfl (by first | exact Or.inl rfl | exact Or.inr rfl))) (fun _ _ _ _ _ => pts_nil) (fun _ _ _ _ _ => (pe_op op_addS (pv 13) pe_str)))) (nomark _)) (pss_one (ps_ret pe_bl)) pss_nil))))))))))))) (pss_one (ps_ret pe_bl)))), ?_⟩
    -- the box
    walk_at "go"
    refine ⟨a, ns, rfl, hs, fun dp ds H1 s1 nd e1 => ?_⟩
    walk_at "go"
    refine w_newL (sz rfl) fun b H2 n2 s2 e2 => ?_
    have bx2 : BoxAt H2 b dp ds := ⟨⟨0, e2⟩, s2 _ _ e1, fun z => by rw [z, n2] at e1; cases e1⟩
    walk_at "go"
    refine ⟨((2 : Nat) : Int), rfl, by decide, by decide, ?_⟩
    refine fo (walk_r0 (n := 2)) (fun i σ H' => ∃ x2 x3 x4 x5 x6 x7 x8 x9 x10 x11 x12 x13, σ = [some (.ref a), some (.ref b), x2, x3, x4, x5, x6, x7, x8, x9, x10, x11, x12, x13, none] ∧ BoxAt H' b dp ds)
      ⟨none, none, none, none, none, none, none, none, none, none, none, none, rfl, bx2⟩ (fun _ _ _ _ _ => trivial) ?_ ?_
    · rintro i x σ H3' H3 hi ⟨x2, x3, x4, x5, x6, x7, x8, x9, x10, x11, x12, x13, rfl, b3⟩ ⟨rfl, rfl⟩
      -- the net
      walk_at "go"
      refine ⟨b, dp, ds, rfl, b3, fun N H4 m4 b4 hNt g => ?_⟩
      clear b3 m4
      have n1 := g.ok.n1
      have n4 := g.ok.n4
      have r9 := g.ok.r9
      have bo := best_ok g.ok
      have hb : ∀ j, j < N.n → -4000000 ≤ gi (bestH N) j ∧ gi (bestH N) j ≤ 4000000 := fun j hj => g.bh hj
      have hsm : ∀ j, j < N.n → Sml (gi (bestH N) j) := fun j hj => by have := hb j hj; unfold Sml; omega
      have hc := g.co hb
      have hst : Sml (strV N) := by have := g.st; unfold Sml; omega
      have hli : Sml (liesV N) := by have := g.li; unfold Sml; omega
      obtain ⟨shs, lss⟩ := strL_sh hst hli N.n
      walk_at "go"
      refine ⟨N, rfl, hNt, g.ok, fun bp hp fp H5 s5 eb eh ef => ?_⟩
      walk_at "go"
      refine w_ixT eb (atI_nat (j := 1) rfl) ?_
      walk_at "go"
      refine ⟨N, rfl, hNt.same s5, g, fun wl W H6 s6 ew wa bw lW => ?_⟩
      have s06 := s5.trans s6
      have eh6 := s6 _ _ eh
      walk_at "go"
      refine ⟨N, hp, _, rfl, hNt.same s06, g.ok, .inr (SqT.of eh6), bo.lh, fun H7 s7 => ?_⟩
      have s07 := s06.trans s7
      walk_at "go"
      obtain ⟨t0, ht0, _⟩ := bw.lo
      have wpos : 0 < W.length := List.length_pos_of_mem ht0
      have ew7 := s7 _ _ ew
      have w0 : atI (vcV W) (0 : Int) = some (.ref W[0].1) := atI_nat (j := 0) (by unfold vcV; rw [List.getElem?_map, List.getElem?_eq_getElem wpos]; rfl)
      have wm0 := List.getElem_mem wpos
      refine w_ixL ew7 w0 ?_
      walk_at "go"
      refine ⟨N, _, W[0].2, rfl, hNt.same s07, g.ok, .inr (SqT.of (s7 _ _ (wa _ wm0))), (bw.ok _ wm0).1, fun H8 s8 => ?_⟩
      have ec : costL N.rs (bestH N) = costL N.rs W[0].2 := by
        rw [(bw.ok _ wm0).2.1, costL_eq]
        exact (TL.cost_iff g.ok.ok bo.fb bo.ev (bestH N)).mpr bo.cs
      have s08 := s07.trans s8
      walk_at "go"
      refine w_ifn (fun c => absurd ec c) (fun _ => ?_)
      walk_at "go"
      -- the marks' lines
      have hN8 := hNt.same s08
      refine w_ixT hN8.a (atI_nat (j := 1) rfl) ?_
      walk_at "go"
      refine w_lenT hN8.m ?_
      rw [List.length_map]
      walk_at "go"
      refine ⟨(N.n : Int), rfl, by omega, by omega, fun L nL => ?_⟩
      rw [Int.toNat_natCast]
      have ew8 := s8 _ _ ew7
      have wa8 := wa.tp (Tp.of (s7.trans s8))
      have eh8 := s8 _ _ (s7 _ _ eh6)
      refine lc walk_r0 (by omega) nL (fun i acc _ => acc = (marksTo N (bestH N) (loN N) (hiN N) i).map V.str ∧ Sh (marksTo N (bestH N) (loN N) (hiN N) i)) (fun _ _ _ => ⟨rfl, Sh.nil⟩) (fun _ _ _ _ _ => trivial) ?_ ?_
      · rintro j acc x H9 H10 F No hj s9 eL ⟨ea, sh⟩ ⟨rfl, rfl⟩ hF _
        walk_at "go"
        refine ⟨rfl, ?_⟩
        walk_at "go"
        rw [if_pos rfl]
        walk_at "go"
        refine ⟨N, hp, wl, bestH N, W, j, rfl, hNt.same (s08.trans s9), g, .inr (SqT.of (s9 _ _ eh8)), bo.lh, hsm j hj, s9 _ _ ew8, wa8.tp (Tp.of s9), bw, lW, hj, fun H11 s11 ll => ?_⟩
        refine hF _ _ s11 fun H12 _ _ _ _ => ⟨?_, sh.snoc ll⟩
        rw [ea, strs_snoc]
        rfl
      · rintro acc H9 s9 eL _ ⟨rfl, shm⟩
        have s09 := s08.trans s9
        have nL0 : H4 L = none := s08.free nL
        have eh9 := s9 _ _ eh8
        have ml := marks_len N (bestH N) (loN N) (hiN N) N.n
        walk_at "go"
        refine ⟨N, hp, _, rfl, hNt.same s09, g.ok, .inr (SqT.of eh9), bo.lh, fun mp H10 s10 nmp emp => ?_⟩
        have s010 := s09.trans s10
        have nmL : mp ≠ L := fun z => by rw [z, eL] at nmp; cases nmp
        have eL10 := s10 _ _ eL
        have hN10 := hNt.same s010
        walk_at "go"
        refine w_ixT hN10.a (atI_nat (j := 2) rfl) ?_
        walk_at "go"
        refine w_lenT hN10.t ?_
        rw [List.length_map, hNt.pl]
        walk_at "go"
        refine ⟨(N.rs.length : Int), rfl, by omega, by omega, ?_⟩
        rw [Int.toNat_natCast]
        generalize hmk : marksTo N (bestH N) (loN N) (hiN N) N.n = mk at *
        have lm : (missesL N.rs (bestH N)).length = N.rs.length := by simp [missesL]
        refine fo walk_r0 (fun j σ H' => ∃ x9 x10 x11 x12 x13, σ = [some (.ref a), some (.ref b), some (.int (i : Int)), some (.ref N.a), some (.ref hp), some (.ref wl), some (.int (costL N.rs (bestH N))), some (.ref L), some (.ref mp), x9, x10, x11, x12, x13, none] ∧ Same H4 H' ∧ H' mp = some (.lst ((missesL N.rs (bestH N)).map V.int)) ∧ H' L = some (.lst ((mk ++ readsTo N (bestH N) j).map V.str)) ∧ Sh (readsTo N (bestH N) j))
          ⟨x9, x10, x11, x12, x13, rfl, s010, emp, by rw [eL10]; show _ = some (HO.lst ((mk ++ []).map V.str)); rw [List.append_nil], Sh.nil⟩ (fun _ _ _ _ _ => trivial) ?_ ?_
        · rintro j x σ H11' H11 hj ⟨y9, y10, y11, y12, y13, rfl, s11, emp11, eL11, sh11⟩ ⟨rfl, rfl⟩
          have hN11 := hNt.same s11
          have er := hN11.r j hj
          have l11 := reads_len N (bestH N) j
          have up : readsTo N (bestH N) (j + 1) = readsTo N (bestH N) j ++ [readLine N (rat N.rs j) (miss (rat N.rs j) (bestH N))] := rfl
          rw [up]
          generalize readsTo N (bestH N) j = ms at *
          have ha := g.ok.ok.a _ (TL.rat_mem hj)
          have hb' := g.ok.ok.b _ (TL.rat_mem hj)
          have hv1 := g.vb _ (TL.rat_mem hj)
          have hv : Sml (rat N.rs j).v := by unfold Sml; omega
          have hm1 := g.ms hb hj
          have hm : Sml (miss (rat N.rs j) (bestH N)) := by unfold Sml; omega
          have hna := g.nl ha
          have hnb := g.nl hb'
          have emj : atI ((missesL N.rs (bestH N)).map V.int) (j : Int) = some (.int (miss (rat N.rs j) (bestH N))) := by rw [at_int (by omega), missesL_at hj]
          have fin : ∀ (z : Str) (H12 : Hp), z.length ≤ 20000 → z = readLine N (rat N.rs j) (miss (rat N.rs j) (bestH N)) → Sm [L] H11 H12 → H12 L = some (.lst ((mk ++ ms).map V.str ++ [.str z])) → Same H4 H12 ∧ H12 mp = some (.lst ((missesL N.rs (bestH N)).map V.int)) ∧ H12 L = some (.lst ((mk ++ (ms ++ [readLine N (rat N.rs j) (miss (rat N.rs j) (bestH N))])).map V.str)) ∧ Sh (ms ++ [readLine N (rat N.rs j) (miss (rat N.rs j) (bestH N))]) := fun z H12 hz ez m12 e12 => by
            refine ⟨same_sm s11 m12 nL0, m12 _ _ (fun hm => nmL (List.mem_singleton.mp hm)) emp11, ?_, ?_⟩
            · rw [e12, strs_snoc, ez, List.append_assoc]
            · rw [← ez]; exact sh11.snoc hz
          walk_at "go"
          refine w_ixT hN11.a (atI_nat (j := 2) rfl) ?_
          walk_at "go"
          refine w_ixT hN11.t (at_ref (by rw [hNt.pl]; exact hj)) ?_
          walk_at "go"
          refine w_gT er rfl ?_
          unfold rdV
          walk_at "go"
          refine w_ixT hN11.a (atI_nat (j := 1) rfl) ?_
          walk_at "go"
          refine w_ixT hN11.m (at_nm ha) ?_
          walk_at "go"
          refine w_addS hna lit2 rfl fun z1 => ?_
          walk_at "go"
          refine w_ixT hN11.a (atI_nat (j := 1) rfl) ?_
          walk_at "go"
          refine w_ixT hN11.m (at_nm hb') ?_
          refine w_addS z1 hnb rfl fun z2 => ?_
          walk_at "go"
          refine w_addS z2 lit1 rfl fun z3 => ?_
          walk_at "go"
          refine w_str hv ?_
          refine w_addS z3 (sI_len hv) rfl fun z4 => ?_
          walk_at "go"
          refine w_ixL emp11 emj ?_
          walk_at "go"
          unfold readLine at fin ⊢
          refine w_ifn (fun c => ?_) (fun c => ?_)
          · rw [if_neg c] at fin ⊢
            walk_at "go"
            refine w_addS z4 lit3 rfl fun z5 => ?_
            walk_at "go"
            refine w_ixL emp11 emj ?_
            walk_at "go"
            refine w_str hm ?_
            refine w_addS z5 (sI_len hm) rfl fun z6 => ?_
            walk_at "go"
            refine ⟨tyL eL11, ?_⟩
            walk_at "go"
            refine w_app eL11 (by rw [List.length_map, List.length_append]; omega) fun H12 m12 e12 => ?_
            obtain ⟨f1, f2, f3, f4⟩ := fin _ H12 (by omega) rfl m12 e12
            walk_at "go"
            exact ⟨_, _, _, _, _, rfl, f1, f2, f3, f4⟩
          · rw [if_pos c] at fin ⊢
            walk_at "go"
            refine ⟨tyL eL11, ?_⟩
            walk_at "go"
            refine w_app eL11 (by rw [List.length_map, List.length_append]; omega) fun H12 m12 e12 => ?_
            obtain ⟨f1, f2, f3, f4⟩ := fin _ H12 (by omega) rfl m12 e12
            walk_at "go"
            exact ⟨_, _, _, _, _, rfl, f1, f2, f3, f4⟩
        · rintro σ H11 ⟨y9, y10, y11, y12, y13, rfl, s11, emp11, eL11, sh11⟩
          have l11 := reads_len N (bestH N) N.rs.length
          have hrep : repL N (bestH N) (loN N) (hiN N) (costL N.rs (bestH N)) (strV N) (liesV N) = mk ++ readsTo N (bestH N) N.rs.length ++ [("cost " : Str) ++ sI (costL N.rs (bestH N))] ++ strL (strV N) (liesV N) N.n := by rw [← hmk]; rfl
          generalize readsTo N (bestH N) N.rs.length = rd at *
          walk_at "go"
          refine ⟨tyL eL11, ?_⟩
          walk_at "go"
          refine w_str hc (w_addS lit8 (sI_len hc) rfl fun z5 => ?_)
          walk_at "go"
          refine w_app eL11 (by rw [List.length_map, List.length_append]; omega) fun H12 m12 e12 => ?_
          rw [strs_snoc] at e12
          have s12 := same_sm s11 m12 nL0
          have hN12 := hNt.same s12
          have shr : Sh (repL N (bestH N) (loN N) (hiN N) (costL N.rs (bestH N)) (strV N) (liesV N)) := by
            rw [hrep]
            exact ((shm.app sh11).snoc (by omega)).app shs
          have lr : (repL N (bestH N) (loN N) (hiN N) (costL N.rs (bestH N)) (strV N) (liesV N)).length ≤ 20 := by
            rw [hrep]
            simp only [List.length_append, List.length_cons, List.length_nil, lss]
            omega
          walk_at "nx"
          with_reducible refine w_cut (fun σ' H' => ∃ l7, σ' = [some (.ref a), some (.ref b), some (.int (i : Int)), some (.ref N.a), some (.ref hp), some (.ref wl), some (.int (costL N.rs (bestH N))), some (.ref l7), some (.ref mp), y9, y10, y11, y12, y13, none] ∧ Same H4 H' ∧ H' l7 = some (.lst ((repL N (bestH N) (loN N) (hiN N) (costL N.rs (bestH N)) (strV N) (liesV N)).map V.str))) ?_ ?_
          · intro nk hnk
            rw [hrep, List.map_append] at hnk
            unfold strL at hnk
            walk_at "go"
            refine w_ixT hN12.a (atI_nat (j := 1) rfl) ?_
            walk_at "go"
            refine w_lenT hN12.m ?_
            rw [List.length_map]
            walk_at "go"
            refine w_ifd (fun c => ?_) (fun c => ?_)
            · have c1 : N.n = 1 := by show N.nm.length = 1; omega
              rw [if_pos c1] at hnk
              walk_at "go"
              refine w_newL (sz rfl) fun l6 H13 n13 s13 e13 => ?_
              refine w_cat (s13 _ _ e12) e13 (by simp only [List.length_map, List.length_append, List.length_cons, List.length_nil]; omega) fun l7 H14 n14 s14 e14 => ?_
              walk_at "go"
              exact hnk _ _ ⟨l7, rfl, s12.trans (s13.trans s14), e14⟩
            · have c1 : ¬ N.n = 1 := by show ¬ N.nm.length = 1; omega
              have el : liesV N = (strV N - 1) / 2 := if_neg c1
              rw [if_neg c1] at hnk
              walk_at "go"
              refine ⟨N, rfl, hN12, g.ok, fun H13 s13 => ?_⟩
              walk_at "go"
              refine w_str hst (w_addS lit6 (sI_len hst) rfl fun z1 => ?_)
              walk_at "go"
              refine ⟨N, rfl, hN12.same s13, g.ok, fun H14 s14 => ?_⟩
              walk_at "go"
              refine w_I ⟨by decide, by decide⟩ ?_
              rw [← el]
              walk_at "go"
              refine w_str hli (w_addS lit7 (sI_len hli) rfl fun z2 => ?_)
              walk_at "go"
              refine w_newL (sz rfl) fun l6 H15 n15 s15 e15 => ?_
              have s35 := s13.trans (s14.trans s15)
              refine w_cat (s35 _ _ e12) e15 (by simp only [List.length_map, List.length_append, List.length_cons, List.length_nil]; omega) fun l7 H16 n16 s16 e16 => ?_
              walk_at "go"
              exact hnk _ _ ⟨l7, rfl, s12.trans (s35.trans s16), e16⟩
          · rintro σ' H13 ⟨l7, rfl, s13, e13⟩
            refine w_if (w_test (w_op ?_))
            walk_at "go"
            refine ⟨N, rfl, hNt.same s13, g, fun H14 s14 => ?_⟩
            unfold repT
            refine w_tM1 ?_
            walk_at "go"
            refine ⟨⟨_, rfl⟩, ?_⟩
            walk_at "go"
            have e14 := s14 _ _ e13
            generalize repL N (bestH N) (loN N) (hiN N) (costL N.rs (bestH N)) (strV N) (liesV N) = rl at *
            refine ⟨l7, rfl, ⟨_, SqL.of e14⟩, fun C nC => ?_⟩
            refine lc walk_list (by rw [List.length_map]; omega) nC (fun i acc _ => acc = ((rl.take i).map nl_).map V.str) (fun _ _ _ => rfl) (fun i acc H' s' _ => s'.lst e14) ?_ ?_
            · rintro q acc x H15 H16 F No hq s15 eC ea ⟨rfl, hx⟩ hF _
              rw [List.length_map] at hq
              rw [List.getElem?_map, List.getElem?_eq_getElem hq] at hx
              cases hx
              have hsh := shr _ (List.getElem_mem hq)
              walk_at "go"
              refine ⟨rfl, ?_⟩
              walk_at "go"
              rw [if_pos rfl]
              walk_at "go"
              refine w_addS hsh lit9 rfl fun z => ?_
              refine hF _ _ (Same.refl _) fun H5 _ _ _ _ => ?_
              rw [ea, take_map (List.getElem?_eq_getElem hq), List.map_append]
              rfl
            · intro acc H15 s15 eC _ ea
              rw [List.length_map, take_all] at ea
              have sm := sh_sum rl shr
              refine ⟨_, C, rl.map nl_, rfl, rfl, .inl (SqL.of (by rw [eC, ea])), ?_, ?_⟩
              · rw [List.length_map]
                have : (Str.ofString "").length = 0 := by decide +kernel
                rw [this]
                omega
              · refine w_neS (w_k ?_)
                rw [if_neg Bool.false_ne_true]
                walk_at "go"
                exact ⟨_, _, _, _, _, _, _, _, _, _, _, _, rfl, b4.same (s13.trans (s14.trans s15))⟩
    · rintro σ H3 ⟨x2, x3, x4, x5, x6, x7, x8, x9, x10, x11, x12, x13, rfl, b3⟩
      walk_at "go"
      exact k H3
end
end TW

namespace TW
open PySem L2
/-- one step of a reading -/
local macro_rules | `(tactic| walk_at "st") => `(tactic| first
  | with_reducible refine w_seq ?_ | with_reducible refine w_next ?_ | with_reducible refine w_nx ?_ | with_reducible refine w_rt ?_ | with_reducible refine w_asg ?_ | with_reducible refine w_name ?_
  | with_reducible refine w_op ?_ | with_reducible refine w_un ?_ | with_reducible refine w_var rfl ?_ | with_reducible refine w_c ?_ | with_reducible refine w_ret ?_ | with_reducible refine w_drop ?_
  | with_reducible refine w_if ?_ | with_reducible refine w_test ?_ | with_reducible refine w_tB ?_ | with_reducible refine w_k ?_ | with_reducible refine w_and ?_ | with_reducible refine w_or ?_ | with_reducible refine w_yes ?_
  | with_reducible refine w_nil ?_ | with_reducible refine w_cons ?_ | with_reducible refine w_cb ?_ | with_reducible refine w_call ?_ | with_reducible refine w_I0 ?_ | with_reducible refine w_neg ?_
  | with_reducible refine w_eqI ?_ | with_reducible refine w_neI ?_ | with_reducible refine w_abs ?_ | with_reducible refine w_min2 ?_ | with_reducible refine w_intI ?_ | with_reducible refine w_intB ?_
  | with_reducible refine w_isN0 ?_ | with_reducible refine w_isN1 ?_ | with_reducible refine w_isN2 ?_ | with_reducible refine w_noN0 ?_ | with_reducible refine w_noN1 ?_ | with_reducible refine w_noN2 ?_
  | with_reducible refine w_sub ?_ | with_reducible refine w_for ?_ | with_reducible refine w_lc ?_ | with_reducible refine w_iT ?_ | with_reducible refine w_iL ?_ | with_reducible refine w_iE ?_ | with_reducible refine w_iEl ?_
  | with_reducible refine w_iZ ?_ | with_reducible refine w_iR1 ?_ | with_reducible refine w_iR2 ?_ | with_reducible refine w_gc ?_ | with_reducible refine w_gn ?_ | with_reducible refine w_bm ?_ | with_reducible refine w_sfld ?_ | with_reducible refine w_tfld ?_ | with_reducible refine w_meth ?_ | with_reducible refine w_make ?_ | with_reducible refine w_tup ?_ | with_reducible refine w_lst ?_)
local macro_rules | `(tactic| walk_at "go") => `(tactic| repeat walk_at "st")
local macro_rules | `(tactic| walk_at "nx") => `(tactic| repeat (first | with_reducible refine w_next ?_ | with_reducible refine w_nx ?_ | with_reducible refine w_name ?_ | with_reducible refine w_gc ?_ | with_reducible refine w_gn ?_))

/-! ### what the top has written, the head -/
theorem all_mk {l : PySem.W.OpenLaw} {w : World} {K : PySem.W.Frag} {h : Heap} {mg : Str → Option Value} {fa C f_miss_of f_misses f_cost f_sign f_init f_excess f_steps f_shortest f_push f_run f_adjusted f_best_paper f_search f_greatest_flow f_next_reading f_ways_of f_side_of f_least_cut f_strength_paper f_strength f_bounds f_greatest f_spans f_most_lies f_mark_lines f_reading_lines f_strength_lines f_report f_law_cell f_law_digits f_law_draw f_law_pick f_law_pairs f_law_heights f_law_names f_law_kept_net f_law_changed f_law_some f_law_lied f_law_net f_law_sides f_law_cut f_law_strength f_law_misses f_law_cost f_law_any_net f_law_vertices f_law_all_best f_law_mark_line f_law : Addr} (X : K.In h) (G : h.Ns mainGlobals mg) (hfa : mg "law" = some (.ref fa))
    {od_miss_of an_miss_of od_misses an_misses od_cost an_cost od_sign an_sign od_init an_init od_excess an_excess od_steps an_steps od_shortest an_shortest od_push an_push od_run an_run od_adjusted an_adjusted od_best_paper an_best_paper od_search an_search od_greatest_flow an_greatest_flow od_next_reading an_next_reading od_ways_of an_ways_of od_side_of an_side_of od_least_cut an_least_cut od_strength_paper an_strength_paper od_strength an_strength od_bounds an_bounds od_greatest an_greatest od_spans an_spans od_most_lies an_most_lies od_mark_lines an_mark_lines od_reading_lines an_reading_lines od_strength_lines an_strength_lines od_report an_report od_law_cell an_law_cell od_law_digits an_law_digits od_law_draw an_law_draw od_law_pick an_law_pick od_law_pairs an_law_pairs od_law_heights an_law_heights od_law_names an_law_names od_law_kept_net an_law_kept_net od_law_changed an_law_changed od_law_some an_law_some od_law_lied an_law_lied od_law_net an_law_net od_law_sides an_law_sides od_law_cut an_law_cut od_law_strength an_law_strength od_law_misses an_law_misses od_law_cost an_law_cost od_law_any_net an_law_any_net od_law_vertices an_law_vertices od_law_all_best an_law_all_best od_law_mark_line an_law_mark_line od_law an_law : Option Addr} {sl_miss_of sl_misses sl_cost sl_sign sl_init sl_excess sl_steps sl_shortest sl_push sl_run sl_adjusted sl_best_paper sl_search sl_greatest_flow sl_next_reading sl_ways_of sl_side_of sl_least_cut sl_strength_paper sl_strength sl_bounds sl_greatest sl_spans sl_most_lies sl_mark_lines sl_reading_lines sl_strength_lines sl_report sl_law_cell sl_law_digits sl_law_draw sl_law_pick sl_law_pairs sl_law_heights sl_law_names sl_law_kept_net sl_law_changed sl_law_some sl_law_lied sl_law_net sl_law_sides sl_law_cut sl_law_strength sl_law_misses sl_law_cost sl_law_any_net sl_law_vertices sl_law_all_best sl_law_mark_line sl_law : Array (Option Value)} {oc_miss_of kV_miss_of dc_miss_of pm_miss_of cd_miss_of ct_miss_of oc_misses kV_misses dc_misses pm_misses cd_misses ct_misses oc_cost kV_cost dc_cost pm_cost cd_cost ct_cost oc_sign kV_sign dc_sign pm_sign cd_sign ct_sign oc_init kV_init dc_init pm_init cd_init ct_init oc_excess kV_excess dc_excess pm_excess cd_excess ct_excess oc_steps kV_steps dc_steps pm_steps cd_steps ct_steps oc_shortest kV_shortest dc_shortest pm_shortest cd_shortest ct_shortest oc_push kV_push dc_push pm_push cd_push ct_push oc_run kV_run dc_run pm_run cd_run ct_run oc_adjusted kV_adjusted dc_adjusted pm_adjusted cd_adjusted ct_adjusted oc_best_paper kV_best_paper dc_best_paper pm_best_paper cd_best_paper ct_best_paper oc_search kV_search dc_search pm_search cd_search ct_search oc_greatest_flow kV_greatest_flow dc_greatest_flow pm_greatest_flow cd_greatest_flow ct_greatest_flow oc_next_reading kV_next_reading dc_next_reading pm_next_reading cd_next_reading ct_next_reading oc_ways_of kV_ways_of dc_ways_of pm_ways_of cd_ways_of ct_ways_of oc_side_of kV_side_of dc_side_of pm_side_of cd_side_of ct_side_of oc_least_cut kV_least_cut dc_least_cut pm_least_cut cd_least_cut ct_least_cut oc_strength_paper kV_strength_paper dc_strength_paper pm_strength_paper cd_strength_paper ct_strength_paper oc_strength kV_strength dc_strength pm_strength cd_strength ct_strength oc_bounds kV_bounds dc_bounds pm_bounds cd_bounds ct_bounds oc_greatest kV_greatest dc_greatest pm_greatest cd_greatest ct_greatest oc_spans kV_spans dc_spans pm_spans cd_spans ct_spans oc_most_lies kV_most_lies dc_most_lies pm_most_lies cd_most_lies ct_most_lies oc_mark_lines kV_mark_lines dc_mark_lines pm_mark_lines cd_mark_lines ct_mark_lines oc_reading_lines kV_reading_lines dc_reading_lines pm_reading_lines cd_reading_lines ct_reading_lines oc_strength_lines kV_strength_lines dc_strength_lines pm_strength_lines cd_strength_lines ct_strength_lines oc_report kV_report dc_report pm_report cd_report ct_report oc_law_cell kV_law_cell dc_law_cell pm_law_cell cd_law_cell ct_law_cell oc_law_digits kV_law_digits dc_law_digits pm_law_digits cd_law_digits ct_law_digits oc_law_draw kV_law_draw dc_law_draw pm_law_draw cd_law_draw ct_law_draw oc_law_pick kV_law_pick dc_law_pick pm_law_pick cd_law_pick ct_law_pick oc_law_pairs kV_law_pairs dc_law_pairs pm_law_pairs cd_law_pairs ct_law_pairs oc_law_heights kV_law_heights dc_law_heights pm_law_heights cd_law_heights ct_law_heights oc_law_names kV_law_names dc_law_names pm_law_names cd_law_names ct_law_names oc_law_kept_net kV_law_kept_net dc_law_kept_net pm_law_kept_net cd_law_kept_net ct_law_kept_net oc_law_changed kV_law_changed dc_law_changed pm_law_changed cd_law_changed ct_law_changed oc_law_some kV_law_some dc_law_some pm_law_some cd_law_some ct_law_some oc_law_lied kV_law_lied dc_law_lied pm_law_lied cd_law_lied ct_law_lied oc_law_net kV_law_net dc_law_net pm_law_net cd_law_net ct_law_net oc_law_sides kV_law_sides dc_law_sides pm_law_sides cd_law_sides ct_law_sides oc_law_cut kV_law_cut dc_law_cut pm_law_cut cd_law_cut ct_law_cut oc_law_strength kV_law_strength dc_law_strength pm_law_strength cd_law_strength ct_law_strength oc_law_misses kV_law_misses dc_law_misses pm_law_misses cd_law_misses ct_law_misses oc_law_cost kV_law_cost dc_law_cost pm_law_cost cd_law_cost ct_law_cost oc_law_any_net kV_law_any_net dc_law_any_net pm_law_any_net cd_law_any_net ct_law_any_net oc_law_vertices kV_law_vertices dc_law_vertices pm_law_vertices cd_law_vertices ct_law_vertices oc_law_all_best kV_law_all_best dc_law_all_best pm_law_all_best cd_law_all_best ct_law_all_best oc_law_mark_line kV_law_mark_line dc_law_mark_line pm_law_mark_line cd_law_mark_line ct_law_mark_line oc_law kV_law dc_law pm_law cd_law ct_law : Value}
    (aC : PySem.W.nsIn K mainGlobals "Search" = some (some (.ref C)))
    (a_miss_of : PySem.W.nsIn K mainGlobals "miss_of" = some (some (.ref f_miss_of)))
    (l_miss_of : K.lookup f_miss_of = some ⟨oc_miss_of, od_miss_of, .func (PySem.W.fnOf "miss_of" "miss_of" (defArgs s_miss_of) (defBody s_miss_of) (defScope s_miss_of) .none kV_miss_of dc_miss_of pm_miss_of an_miss_of cd_miss_of ct_miss_of), sl_miss_of⟩) (c_miss_of : PySem.W.codeIn K cd_miss_of "miss_of" = true) (k_miss_of : PySem.W.keepIn K (.ref f_miss_of) = true)
    (a_misses : PySem.W.nsIn K mainGlobals "misses" = some (some (.ref f_misses)))
    (l_misses : K.lookup f_misses = some ⟨oc_misses, od_misses, .func (PySem.W.fnOf "misses" "misses" (defArgs s_misses) (defBody s_misses) (defScope s_misses) .none kV_misses dc_misses pm_misses an_misses cd_misses ct_misses), sl_misses⟩) (c_misses : PySem.W.codeIn K cd_misses "misses" = true) (k_misses : PySem.W.keepIn K (.ref f_misses) = true)
    (a_cost : PySem.W.nsIn K mainGlobals "cost" = some (some (.ref f_cost)))
    (l_cost : K.lookup f_cost = some ⟨oc_cost, od_cost, .func (PySem.W.fnOf "cost" "cost" (defArgs s_cost) (defBody s_cost) (defScope s_cost) .none kV_cost dc_cost pm_cost an_cost cd_cost ct_cost), sl_cost⟩) (c_cost : PySem.W.codeIn K cd_cost "cost" = true) (k_cost : PySem.W.keepIn K (.ref f_cost) = true)
    (a_sign : PySem.W.nsIn K mainGlobals "sign" = some (some (.ref f_sign)))
    (l_sign : K.lookup f_sign = some ⟨oc_sign, od_sign, .func (PySem.W.fnOf "sign" "sign" (defArgs s_sign) (defBody s_sign) (defScope s_sign) .none kV_sign dc_sign pm_sign an_sign cd_sign ct_sign), sl_sign⟩) (c_sign : PySem.W.codeIn K cd_sign "sign" = true) (k_sign : PySem.W.keepIn K (.ref f_sign) = true)
    (a_init : PySem.W.findIn K (.ref C) "__init__" = some (some (.ref f_init))) (i_init : PySem.W.isFn K (.ref f_init) = true)
    (l_init : K.lookup f_init = some ⟨oc_init, od_init, .func (PySem.W.fnOf "__init__" "Search.__init__" (defArgs s_init) (defBody s_init) (defScope s_init) .none kV_init dc_init pm_init an_init cd_init ct_init), sl_init⟩) (c_init : PySem.W.codeIn K cd_init "Search.__init__" = true) (k_init : PySem.W.keepIn K (.ref f_init) = true)
    (a_excess : PySem.W.findIn K (.ref C) "excess" = some (some (.ref f_excess))) (i_excess : PySem.W.isFn K (.ref f_excess) = true)
    (l_excess : K.lookup f_excess = some ⟨oc_excess, od_excess, .func (PySem.W.fnOf "excess" "Search.excess" (defArgs s_excess) (defBody s_excess) (defScope s_excess) .none kV_excess dc_excess pm_excess an_excess cd_excess ct_excess), sl_excess⟩) (c_excess : PySem.W.codeIn K cd_excess "Search.excess" = true) (k_excess : PySem.W.keepIn K (.ref f_excess) = true)
    (a_steps : PySem.W.findIn K (.ref C) "steps" = some (some (.ref f_steps))) (i_steps : PySem.W.isFn K (.ref f_steps) = true)
    (l_steps : K.lookup f_steps = some ⟨oc_steps, od_steps, .func (PySem.W.fnOf "steps" "Search.steps" (defArgs s_steps) (defBody s_steps) (defScope s_steps) .none kV_steps dc_steps pm_steps an_steps cd_steps ct_steps), sl_steps⟩) (c_steps : PySem.W.codeIn K cd_steps "Search.steps" = true) (k_steps : PySem.W.keepIn K (.ref f_steps) = true)
    (a_shortest : PySem.W.findIn K (.ref C) "shortest" = some (some (.ref f_shortest))) (i_shortest : PySem.W.isFn K (.ref f_shortest) = true)
    (l_shortest : K.lookup f_shortest = some ⟨oc_shortest, od_shortest, .func (PySem.W.fnOf "shortest" "Search.shortest" (defArgs s_shortest) (defBody s_shortest) (defScope s_shortest) .none kV_shortest dc_shortest pm_shortest an_shortest cd_shortest ct_shortest), sl_shortest⟩) (c_shortest : PySem.W.codeIn K cd_shortest "Search.shortest" = true) (k_shortest : PySem.W.keepIn K (.ref f_shortest) = true)
    (a_push : PySem.W.findIn K (.ref C) "push" = some (some (.ref f_push))) (i_push : PySem.W.isFn K (.ref f_push) = true)
    (l_push : K.lookup f_push = some ⟨oc_push, od_push, .func (PySem.W.fnOf "push" "Search.push" (defArgs s_push) (defBody s_push) (defScope s_push) .none kV_push dc_push pm_push an_push cd_push ct_push), sl_push⟩) (c_push : PySem.W.codeIn K cd_push "Search.push" = true) (k_push : PySem.W.keepIn K (.ref f_push) = true)
    (a_run : PySem.W.findIn K (.ref C) "run" = some (some (.ref f_run))) (i_run : PySem.W.isFn K (.ref f_run) = true)
    (l_run : K.lookup f_run = some ⟨oc_run, od_run, .func (PySem.W.fnOf "run" "Search.run" (defArgs s_run) (defBody s_run) (defScope s_run) .none kV_run dc_run pm_run an_run cd_run ct_run), sl_run⟩) (c_run : PySem.W.codeIn K cd_run "Search.run" = true) (k_run : PySem.W.keepIn K (.ref f_run) = true)
    (a_adjusted : PySem.W.nsIn K mainGlobals "adjusted" = some (some (.ref f_adjusted)))
    (l_adjusted : K.lookup f_adjusted = some ⟨oc_adjusted, od_adjusted, .func (PySem.W.fnOf "adjusted" "adjusted" (defArgs s_adjusted) (defBody s_adjusted) (defScope s_adjusted) .none kV_adjusted dc_adjusted pm_adjusted an_adjusted cd_adjusted ct_adjusted), sl_adjusted⟩) (c_adjusted : PySem.W.codeIn K cd_adjusted "adjusted" = true) (k_adjusted : PySem.W.keepIn K (.ref f_adjusted) = true)
    (a_best_paper : PySem.W.nsIn K mainGlobals "best_paper" = some (some (.ref f_best_paper)))
    (l_best_paper : K.lookup f_best_paper = some ⟨oc_best_paper, od_best_paper, .func (PySem.W.fnOf "best_paper" "best_paper" (defArgs s_best_paper) (defBody s_best_paper) (defScope s_best_paper) .none kV_best_paper dc_best_paper pm_best_paper an_best_paper cd_best_paper ct_best_paper), sl_best_paper⟩) (c_best_paper : PySem.W.codeIn K cd_best_paper "best_paper" = true) (k_best_paper : PySem.W.keepIn K (.ref f_best_paper) = true)
    (a_search : PySem.W.nsIn K mainGlobals "search" = some (some (.ref f_search)))
    (l_search : K.lookup f_search = some ⟨oc_search, od_search, .func (PySem.W.fnOf "search" "search" (defArgs s_search) (defBody s_search) (defScope s_search) .none kV_search dc_search pm_search an_search cd_search ct_search), sl_search⟩) (c_search : PySem.W.codeIn K cd_search "search" = true) (k_search : PySem.W.keepIn K (.ref f_search) = true)
    (a_greatest_flow : PySem.W.nsIn K mainGlobals "greatest_flow" = some (some (.ref f_greatest_flow)))
    (l_greatest_flow : K.lookup f_greatest_flow = some ⟨oc_greatest_flow, od_greatest_flow, .func (PySem.W.fnOf "greatest_flow" "greatest_flow" (defArgs s_greatest_flow) (defBody s_greatest_flow) (defScope s_greatest_flow) .none kV_greatest_flow dc_greatest_flow pm_greatest_flow an_greatest_flow cd_greatest_flow ct_greatest_flow), sl_greatest_flow⟩) (c_greatest_flow : PySem.W.codeIn K cd_greatest_flow "greatest_flow" = true) (k_greatest_flow : PySem.W.keepIn K (.ref f_greatest_flow) = true)
    (a_next_reading : PySem.W.nsIn K mainGlobals "next_reading" = some (some (.ref f_next_reading)))
    (l_next_reading : K.lookup f_next_reading = some ⟨oc_next_reading, od_next_reading, .func (PySem.W.fnOf "next_reading" "next_reading" (defArgs s_next_reading) (defBody s_next_reading) (defScope s_next_reading) .none kV_next_reading dc_next_reading pm_next_reading an_next_reading cd_next_reading ct_next_reading), sl_next_reading⟩) (c_next_reading : PySem.W.codeIn K cd_next_reading "next_reading" = true) (k_next_reading : PySem.W.keepIn K (.ref f_next_reading) = true)
    (a_ways_of : PySem.W.nsIn K mainGlobals "ways_of" = some (some (.ref f_ways_of)))
    (l_ways_of : K.lookup f_ways_of = some ⟨oc_ways_of, od_ways_of, .func (PySem.W.fnOf "ways_of" "ways_of" (defArgs s_ways_of) (defBody s_ways_of) (defScope s_ways_of) .none kV_ways_of dc_ways_of pm_ways_of an_ways_of cd_ways_of ct_ways_of), sl_ways_of⟩) (c_ways_of : PySem.W.codeIn K cd_ways_of "ways_of" = true) (k_ways_of : PySem.W.keepIn K (.ref f_ways_of) = true)
    (a_side_of : PySem.W.nsIn K mainGlobals "side_of" = some (some (.ref f_side_of)))
    (l_side_of : K.lookup f_side_of = some ⟨oc_side_of, od_side_of, .func (PySem.W.fnOf "side_of" "side_of" (defArgs s_side_of) (defBody s_side_of) (defScope s_side_of) .none kV_side_of dc_side_of pm_side_of an_side_of cd_side_of ct_side_of), sl_side_of⟩) (c_side_of : PySem.W.codeIn K cd_side_of "side_of" = true) (k_side_of : PySem.W.keepIn K (.ref f_side_of) = true)
    (a_least_cut : PySem.W.nsIn K mainGlobals "least_cut" = some (some (.ref f_least_cut)))
    (l_least_cut : K.lookup f_least_cut = some ⟨oc_least_cut, od_least_cut, .func (PySem.W.fnOf "least_cut" "least_cut" (defArgs s_least_cut) (defBody s_least_cut) (defScope s_least_cut) .none kV_least_cut dc_least_cut pm_least_cut an_least_cut cd_least_cut ct_least_cut), sl_least_cut⟩) (c_least_cut : PySem.W.codeIn K cd_least_cut "least_cut" = true) (k_least_cut : PySem.W.keepIn K (.ref f_least_cut) = true)
    (a_strength_paper : PySem.W.nsIn K mainGlobals "strength_paper" = some (some (.ref f_strength_paper)))
    (l_strength_paper : K.lookup f_strength_paper = some ⟨oc_strength_paper, od_strength_paper, .func (PySem.W.fnOf "strength_paper" "strength_paper" (defArgs s_strength_paper) (defBody s_strength_paper) (defScope s_strength_paper) .none kV_strength_paper dc_strength_paper pm_strength_paper an_strength_paper cd_strength_paper ct_strength_paper), sl_strength_paper⟩) (c_strength_paper : PySem.W.codeIn K cd_strength_paper "strength_paper" = true) (k_strength_paper : PySem.W.keepIn K (.ref f_strength_paper) = true)
    (a_strength : PySem.W.nsIn K mainGlobals "strength" = some (some (.ref f_strength)))
    (l_strength : K.lookup f_strength = some ⟨oc_strength, od_strength, .func (PySem.W.fnOf "strength" "strength" (defArgs s_strength) (defBody s_strength) (defScope s_strength) .none kV_strength dc_strength pm_strength an_strength cd_strength ct_strength), sl_strength⟩) (c_strength : PySem.W.codeIn K cd_strength "strength" = true) (k_strength : PySem.W.keepIn K (.ref f_strength) = true)
    (a_bounds : PySem.W.nsIn K mainGlobals "bounds" = some (some (.ref f_bounds)))
    (l_bounds : K.lookup f_bounds = some ⟨oc_bounds, od_bounds, .func (PySem.W.fnOf "bounds" "bounds" (defArgs s_bounds) (defBody s_bounds) (defScope s_bounds) .none kV_bounds dc_bounds pm_bounds an_bounds cd_bounds ct_bounds), sl_bounds⟩) (c_bounds : PySem.W.codeIn K cd_bounds "bounds" = true) (k_bounds : PySem.W.keepIn K (.ref f_bounds) = true)
    (a_greatest : PySem.W.nsIn K mainGlobals "greatest" = some (some (.ref f_greatest)))
    (l_greatest : K.lookup f_greatest = some ⟨oc_greatest, od_greatest, .func (PySem.W.fnOf "greatest" "greatest" (defArgs s_greatest) (defBody s_greatest) (defScope s_greatest) .none kV_greatest dc_greatest pm_greatest an_greatest cd_greatest ct_greatest), sl_greatest⟩) (c_greatest : PySem.W.codeIn K cd_greatest "greatest" = true) (k_greatest : PySem.W.keepIn K (.ref f_greatest) = true)
    (a_spans : PySem.W.nsIn K mainGlobals "spans" = some (some (.ref f_spans)))
    (l_spans : K.lookup f_spans = some ⟨oc_spans, od_spans, .func (PySem.W.fnOf "spans" "spans" (defArgs s_spans) (defBody s_spans) (defScope s_spans) .none kV_spans dc_spans pm_spans an_spans cd_spans ct_spans), sl_spans⟩) (c_spans : PySem.W.codeIn K cd_spans "spans" = true) (k_spans : PySem.W.keepIn K (.ref f_spans) = true)
    (a_most_lies : PySem.W.nsIn K mainGlobals "most_lies" = some (some (.ref f_most_lies)))
    (l_most_lies : K.lookup f_most_lies = some ⟨oc_most_lies, od_most_lies, .func (PySem.W.fnOf "most_lies" "most_lies" (defArgs s_most_lies) (defBody s_most_lies) (defScope s_most_lies) .none kV_most_lies dc_most_lies pm_most_lies an_most_lies cd_most_lies ct_most_lies), sl_most_lies⟩) (c_most_lies : PySem.W.codeIn K cd_most_lies "most_lies" = true) (k_most_lies : PySem.W.keepIn K (.ref f_most_lies) = true)
    (a_mark_lines : PySem.W.nsIn K mainGlobals "mark_lines" = some (some (.ref f_mark_lines)))
    (l_mark_lines : K.lookup f_mark_lines = some ⟨oc_mark_lines, od_mark_lines, .func (PySem.W.fnOf "mark_lines" "mark_lines" (defArgs s_mark_lines) (defBody s_mark_lines) (defScope s_mark_lines) .none kV_mark_lines dc_mark_lines pm_mark_lines an_mark_lines cd_mark_lines ct_mark_lines), sl_mark_lines⟩) (c_mark_lines : PySem.W.codeIn K cd_mark_lines "mark_lines" = true) (k_mark_lines : PySem.W.keepIn K (.ref f_mark_lines) = true)
    (a_reading_lines : PySem.W.nsIn K mainGlobals "reading_lines" = some (some (.ref f_reading_lines)))
    (l_reading_lines : K.lookup f_reading_lines = some ⟨oc_reading_lines, od_reading_lines, .func (PySem.W.fnOf "reading_lines" "reading_lines" (defArgs s_reading_lines) (defBody s_reading_lines) (defScope s_reading_lines) .none kV_reading_lines dc_reading_lines pm_reading_lines an_reading_lines cd_reading_lines ct_reading_lines), sl_reading_lines⟩) (c_reading_lines : PySem.W.codeIn K cd_reading_lines "reading_lines" = true) (k_reading_lines : PySem.W.keepIn K (.ref f_reading_lines) = true)
    (a_strength_lines : PySem.W.nsIn K mainGlobals "strength_lines" = some (some (.ref f_strength_lines)))
    (l_strength_lines : K.lookup f_strength_lines = some ⟨oc_strength_lines, od_strength_lines, .func (PySem.W.fnOf "strength_lines" "strength_lines" (defArgs s_strength_lines) (defBody s_strength_lines) (defScope s_strength_lines) .none kV_strength_lines dc_strength_lines pm_strength_lines an_strength_lines cd_strength_lines ct_strength_lines), sl_strength_lines⟩) (c_strength_lines : PySem.W.codeIn K cd_strength_lines "strength_lines" = true) (k_strength_lines : PySem.W.keepIn K (.ref f_strength_lines) = true)
    (a_report : PySem.W.nsIn K mainGlobals "report" = some (some (.ref f_report)))
    (l_report : K.lookup f_report = some ⟨oc_report, od_report, .func (PySem.W.fnOf "report" "report" (defArgs s_report) (defBody s_report) (defScope s_report) .none kV_report dc_report pm_report an_report cd_report ct_report), sl_report⟩) (c_report : PySem.W.codeIn K cd_report "report" = true) (k_report : PySem.W.keepIn K (.ref f_report) = true)
    (a_law_cell : PySem.W.nsIn K mainGlobals "_law_cell" = some (some (.ref f_law_cell)))
    (l_law_cell : K.lookup f_law_cell = some ⟨oc_law_cell, od_law_cell, .func (PySem.W.fnOf "_law_cell" "_law_cell" (defArgs s_law_cell) (defBody s_law_cell) (defScope s_law_cell) .none kV_law_cell dc_law_cell pm_law_cell an_law_cell cd_law_cell ct_law_cell), sl_law_cell⟩) (c_law_cell : PySem.W.codeIn K cd_law_cell "_law_cell" = true) (k_law_cell : PySem.W.keepIn K (.ref f_law_cell) = true)
    (a_law_digits : PySem.W.nsIn K mainGlobals "_law_digits" = some (some (.ref f_law_digits)))
    (l_law_digits : K.lookup f_law_digits = some ⟨oc_law_digits, od_law_digits, .func (PySem.W.fnOf "_law_digits" "_law_digits" (defArgs s_law_digits) (defBody s_law_digits) (defScope s_law_digits) .none kV_law_digits dc_law_digits pm_law_digits an_law_digits cd_law_digits ct_law_digits), sl_law_digits⟩) (c_law_digits : PySem.W.codeIn K cd_law_digits "_law_digits" = true) (k_law_digits : PySem.W.keepIn K (.ref f_law_digits) = true)
    (a_law_draw : PySem.W.nsIn K mainGlobals "_law_draw" = some (some (.ref f_law_draw)))
    (l_law_draw : K.lookup f_law_draw = some ⟨oc_law_draw, od_law_draw, .func (PySem.W.fnOf "_law_draw" "_law_draw" (defArgs s_law_draw) (defBody s_law_draw) (defScope s_law_draw) .none kV_law_draw dc_law_draw pm_law_draw an_law_draw cd_law_draw ct_law_draw), sl_law_draw⟩) (c_law_draw : PySem.W.codeIn K cd_law_draw "_law_draw" = true) (k_law_draw : PySem.W.keepIn K (.ref f_law_draw) = true)
    (a_law_pick : PySem.W.nsIn K mainGlobals "_law_pick" = some (some (.ref f_law_pick)))
    (l_law_pick : K.lookup f_law_pick = some ⟨oc_law_pick, od_law_pick, .func (PySem.W.fnOf "_law_pick" "_law_pick" (defArgs s_law_pick) (defBody s_law_pick) (defScope s_law_pick) .none kV_law_pick dc_law_pick pm_law_pick an_law_pick cd_law_pick ct_law_pick), sl_law_pick⟩) (c_law_pick : PySem.W.codeIn K cd_law_pick "_law_pick" = true) (k_law_pick : PySem.W.keepIn K (.ref f_law_pick) = true)
    (a_law_pairs : PySem.W.nsIn K mainGlobals "_law_pairs" = some (some (.ref f_law_pairs)))
    (l_law_pairs : K.lookup f_law_pairs = some ⟨oc_law_pairs, od_law_pairs, .func (PySem.W.fnOf "_law_pairs" "_law_pairs" (defArgs s_law_pairs) (defBody s_law_pairs) (defScope s_law_pairs) .none kV_law_pairs dc_law_pairs pm_law_pairs an_law_pairs cd_law_pairs ct_law_pairs), sl_law_pairs⟩) (c_law_pairs : PySem.W.codeIn K cd_law_pairs "_law_pairs" = true) (k_law_pairs : PySem.W.keepIn K (.ref f_law_pairs) = true)
    (a_law_heights : PySem.W.nsIn K mainGlobals "_law_heights" = some (some (.ref f_law_heights)))
    (l_law_heights : K.lookup f_law_heights = some ⟨oc_law_heights, od_law_heights, .func (PySem.W.fnOf "_law_heights" "_law_heights" (defArgs s_law_heights) (defBody s_law_heights) (defScope s_law_heights) .none kV_law_heights dc_law_heights pm_law_heights an_law_heights cd_law_heights ct_law_heights), sl_law_heights⟩) (c_law_heights : PySem.W.codeIn K cd_law_heights "_law_heights" = true) (k_law_heights : PySem.W.keepIn K (.ref f_law_heights) = true)
    (a_law_names : PySem.W.nsIn K mainGlobals "_law_names" = some (some (.ref f_law_names)))
    (l_law_names : K.lookup f_law_names = some ⟨oc_law_names, od_law_names, .func (PySem.W.fnOf "_law_names" "_law_names" (defArgs s_law_names) (defBody s_law_names) (defScope s_law_names) .none kV_law_names dc_law_names pm_law_names an_law_names cd_law_names ct_law_names), sl_law_names⟩) (c_law_names : PySem.W.codeIn K cd_law_names "_law_names" = true) (k_law_names : PySem.W.keepIn K (.ref f_law_names) = true)
    (a_law_kept_net : PySem.W.nsIn K mainGlobals "_law_kept_net" = some (some (.ref f_law_kept_net)))
    (l_law_kept_net : K.lookup f_law_kept_net = some ⟨oc_law_kept_net, od_law_kept_net, .func (PySem.W.fnOf "_law_kept_net" "_law_kept_net" (defArgs s_law_kept_net) (defBody s_law_kept_net) (defScope s_law_kept_net) .none kV_law_kept_net dc_law_kept_net pm_law_kept_net an_law_kept_net cd_law_kept_net ct_law_kept_net), sl_law_kept_net⟩) (c_law_kept_net : PySem.W.codeIn K cd_law_kept_net "_law_kept_net" = true) (k_law_kept_net : PySem.W.keepIn K (.ref f_law_kept_net) = true)
    (a_law_changed : PySem.W.nsIn K mainGlobals "_law_changed" = some (some (.ref f_law_changed)))
    (l_law_changed : K.lookup f_law_changed = some ⟨oc_law_changed, od_law_changed, .func (PySem.W.fnOf "_law_changed" "_law_changed" (defArgs s_law_changed) (defBody s_law_changed) (defScope s_law_changed) .none kV_law_changed dc_law_changed pm_law_changed an_law_changed cd_law_changed ct_law_changed), sl_law_changed⟩) (c_law_changed : PySem.W.codeIn K cd_law_changed "_law_changed" = true) (k_law_changed : PySem.W.keepIn K (.ref f_law_changed) = true)
    (a_law_some : PySem.W.nsIn K mainGlobals "_law_some" = some (some (.ref f_law_some)))
    (l_law_some : K.lookup f_law_some = some ⟨oc_law_some, od_law_some, .func (PySem.W.fnOf "_law_some" "_law_some" (defArgs s_law_some) (defBody s_law_some) (defScope s_law_some) .none kV_law_some dc_law_some pm_law_some an_law_some cd_law_some ct_law_some), sl_law_some⟩) (c_law_some : PySem.W.codeIn K cd_law_some "_law_some" = true) (k_law_some : PySem.W.keepIn K (.ref f_law_some) = true)
    (a_law_lied : PySem.W.nsIn K mainGlobals "_law_lied" = some (some (.ref f_law_lied)))
    (l_law_lied : K.lookup f_law_lied = some ⟨oc_law_lied, od_law_lied, .func (PySem.W.fnOf "_law_lied" "_law_lied" (defArgs s_law_lied) (defBody s_law_lied) (defScope s_law_lied) .none kV_law_lied dc_law_lied pm_law_lied an_law_lied cd_law_lied ct_law_lied), sl_law_lied⟩) (c_law_lied : PySem.W.codeIn K cd_law_lied "_law_lied" = true) (k_law_lied : PySem.W.keepIn K (.ref f_law_lied) = true)
    (a_law_net : PySem.W.nsIn K mainGlobals "_law_net" = some (some (.ref f_law_net)))
    (l_law_net : K.lookup f_law_net = some ⟨oc_law_net, od_law_net, .func (PySem.W.fnOf "_law_net" "_law_net" (defArgs s_law_net) (defBody s_law_net) (defScope s_law_net) .none kV_law_net dc_law_net pm_law_net an_law_net cd_law_net ct_law_net), sl_law_net⟩) (c_law_net : PySem.W.codeIn K cd_law_net "_law_net" = true) (k_law_net : PySem.W.keepIn K (.ref f_law_net) = true)
    (a_law_sides : PySem.W.nsIn K mainGlobals "_law_sides" = some (some (.ref f_law_sides)))
    (l_law_sides : K.lookup f_law_sides = some ⟨oc_law_sides, od_law_sides, .func (PySem.W.fnOf "_law_sides" "_law_sides" (defArgs s_law_sides) (defBody s_law_sides) (defScope s_law_sides) .none kV_law_sides dc_law_sides pm_law_sides an_law_sides cd_law_sides ct_law_sides), sl_law_sides⟩) (c_law_sides : PySem.W.codeIn K cd_law_sides "_law_sides" = true) (k_law_sides : PySem.W.keepIn K (.ref f_law_sides) = true)
    (a_law_cut : PySem.W.nsIn K mainGlobals "_law_cut" = some (some (.ref f_law_cut)))
    (l_law_cut : K.lookup f_law_cut = some ⟨oc_law_cut, od_law_cut, .func (PySem.W.fnOf "_law_cut" "_law_cut" (defArgs s_law_cut) (defBody s_law_cut) (defScope s_law_cut) .none kV_law_cut dc_law_cut pm_law_cut an_law_cut cd_law_cut ct_law_cut), sl_law_cut⟩) (c_law_cut : PySem.W.codeIn K cd_law_cut "_law_cut" = true) (k_law_cut : PySem.W.keepIn K (.ref f_law_cut) = true)
    (a_law_strength : PySem.W.nsIn K mainGlobals "_law_strength" = some (some (.ref f_law_strength)))
    (l_law_strength : K.lookup f_law_strength = some ⟨oc_law_strength, od_law_strength, .func (PySem.W.fnOf "_law_strength" "_law_strength" (defArgs s_law_strength) (defBody s_law_strength) (defScope s_law_strength) .none kV_law_strength dc_law_strength pm_law_strength an_law_strength cd_law_strength ct_law_strength), sl_law_strength⟩) (c_law_strength : PySem.W.codeIn K cd_law_strength "_law_strength" = true) (k_law_strength : PySem.W.keepIn K (.ref f_law_strength) = true)
    (a_law_misses : PySem.W.nsIn K mainGlobals "_law_misses" = some (some (.ref f_law_misses)))
    (l_law_misses : K.lookup f_law_misses = some ⟨oc_law_misses, od_law_misses, .func (PySem.W.fnOf "_law_misses" "_law_misses" (defArgs s_law_misses) (defBody s_law_misses) (defScope s_law_misses) .none kV_law_misses dc_law_misses pm_law_misses an_law_misses cd_law_misses ct_law_misses), sl_law_misses⟩) (c_law_misses : PySem.W.codeIn K cd_law_misses "_law_misses" = true) (k_law_misses : PySem.W.keepIn K (.ref f_law_misses) = true)
    (a_law_cost : PySem.W.nsIn K mainGlobals "_law_cost" = some (some (.ref f_law_cost)))
    (l_law_cost : K.lookup f_law_cost = some ⟨oc_law_cost, od_law_cost, .func (PySem.W.fnOf "_law_cost" "_law_cost" (defArgs s_law_cost) (defBody s_law_cost) (defScope s_law_cost) .none kV_law_cost dc_law_cost pm_law_cost an_law_cost cd_law_cost ct_law_cost), sl_law_cost⟩) (c_law_cost : PySem.W.codeIn K cd_law_cost "_law_cost" = true) (k_law_cost : PySem.W.keepIn K (.ref f_law_cost) = true)
    (a_law_any_net : PySem.W.nsIn K mainGlobals "_law_any_net" = some (some (.ref f_law_any_net)))
    (l_law_any_net : K.lookup f_law_any_net = some ⟨oc_law_any_net, od_law_any_net, .func (PySem.W.fnOf "_law_any_net" "_law_any_net" (defArgs s_law_any_net) (defBody s_law_any_net) (defScope s_law_any_net) .none kV_law_any_net dc_law_any_net pm_law_any_net an_law_any_net cd_law_any_net ct_law_any_net), sl_law_any_net⟩) (c_law_any_net : PySem.W.codeIn K cd_law_any_net "_law_any_net" = true) (k_law_any_net : PySem.W.keepIn K (.ref f_law_any_net) = true)
    (a_law_vertices : PySem.W.nsIn K mainGlobals "_law_vertices" = some (some (.ref f_law_vertices)))
    (l_law_vertices : K.lookup f_law_vertices = some ⟨oc_law_vertices, od_law_vertices, .func (PySem.W.fnOf "_law_vertices" "_law_vertices" (defArgs s_law_vertices) (defBody s_law_vertices) (defScope s_law_vertices) .none kV_law_vertices dc_law_vertices pm_law_vertices an_law_vertices cd_law_vertices ct_law_vertices), sl_law_vertices⟩) (c_law_vertices : PySem.W.codeIn K cd_law_vertices "_law_vertices" = true) (k_law_vertices : PySem.W.keepIn K (.ref f_law_vertices) = true)
    (a_law_all_best : PySem.W.nsIn K mainGlobals "_law_all_best" = some (some (.ref f_law_all_best)))
    (l_law_all_best : K.lookup f_law_all_best = some ⟨oc_law_all_best, od_law_all_best, .func (PySem.W.fnOf "_law_all_best" "_law_all_best" (defArgs s_law_all_best) (defBody s_law_all_best) (defScope s_law_all_best) .none kV_law_all_best dc_law_all_best pm_law_all_best an_law_all_best cd_law_all_best ct_law_all_best), sl_law_all_best⟩) (c_law_all_best : PySem.W.codeIn K cd_law_all_best "_law_all_best" = true) (k_law_all_best : PySem.W.keepIn K (.ref f_law_all_best) = true)
    (a_law_mark_line : PySem.W.nsIn K mainGlobals "_law_mark_line" = some (some (.ref f_law_mark_line)))
    (l_law_mark_line : K.lookup f_law_mark_line = some ⟨oc_law_mark_line, od_law_mark_line, .func (PySem.W.fnOf "_law_mark_line" "_law_mark_line" (defArgs s_law_mark_line) (defBody s_law_mark_line) (defScope s_law_mark_line) .none kV_law_mark_line dc_law_mark_line pm_law_mark_line an_law_mark_line cd_law_mark_line ct_law_mark_line), sl_law_mark_line⟩) (c_law_mark_line : PySem.W.codeIn K cd_law_mark_line "_law_mark_line" = true) (k_law_mark_line : PySem.W.keepIn K (.ref f_law_mark_line) = true)
    (a_law : PySem.W.nsIn K mainGlobals "law" = some (some (.ref f_law)))
    (l_law : K.lookup f_law = some ⟨oc_law, od_law, .func (PySem.W.fnOf "law" "law" (defArgs s_law) (defBody s_law) (defScope s_law) .none kV_law dc_law pm_law an_law cd_law ct_law), sl_law⟩) (c_law : PySem.W.codeIn K cd_law "law" = true) (k_law : PySem.W.keepIn K (.ref f_law) = true)
    (pg : PySem.W.plainGet K C Str.empty = true) (hd : PySem.W.hasDictIn K C = true) (po : PySem.W.plainOver K C = true) (sa : PySem.W.findIn K (.ref C) "__setattr__" = some (some (.builtin "object.__setattr__"))) (mk : PySem.W.makesIn K C = true) (kc : PySem.W.keepIn K (.ref C) = true)
    (n_net : PySem.W.findIn K (.ref C) "net" = some none)
    (n_weights : PySem.W.findIn K (.ref C) "weights" = some none)
    (n_many : PySem.W.findIn K (.ref C) "many" = some none)
    (n_heights : PySem.W.findIn K (.ref C) "heights" = some none)
    (n_flow : PySem.W.findIn K (.ref C) "flow" = some none)
    (z_len : PySem.W.nsIn K mainGlobals "len" = some none)
    (z_abs : PySem.W.nsIn K mainGlobals "abs" = some none)
    (z_sum : PySem.W.nsIn K mainGlobals "sum" = some none)
    (z_sorted : PySem.W.nsIn K mainGlobals "sorted" = some none)
    (z_min : PySem.W.nsIn K mainGlobals "min" = some none)
    (z_max : PySem.W.nsIn K mainGlobals "max" = some none)
    (z_int : PySem.W.nsIn K mainGlobals "int" = some none)
    (z_str : PySem.W.nsIn K mainGlobals "str" = some none)
    (z_list : PySem.W.nsIn K mainGlobals "list" = some none)
    (z_tuple : PySem.W.nsIn K mainGlobals "tuple" = some none)
    (z_dict : PySem.W.nsIn K mainGlobals "dict" = some none)
    (z_range : PySem.W.nsIn K mainGlobals "range" = some none)
    (z_enumerate : PySem.W.nsIn K mainGlobals "enumerate" = some none)
    (z_zip : PySem.W.nsIn K mainGlobals "zip" = some none)
    : ∃ fd : FuncData, (∀ (s : Shared) (v : Value), BindsTo s fd ⟨[v], []⟩ [("_law_script", v)]) ∧ ∀ base : Heap, K.In base → base.Ns mainGlobals mg → FnOk l.prog w K mg base CX0 12 fa fd ["_law_script"] (spLaw K) := by
  have e := hfa.symm.trans (PySem.W.mg_of X G a_law)
  cases e
  have F_miss_of := fun_mk (st := s_miss_of) l_miss_of c_miss_of k_miss_of
  have b_miss_of := F_miss_of.binds (ps := ["reading", "heights"]) fun _ _ _ _ _ _ us hl => match us, hl with | [_, _], _ => rfl
  have F_misses := fun_mk (st := s_misses) l_misses c_misses k_misses
  have b_misses := F_misses.binds (ps := ["net", "heights"]) fun _ _ _ _ _ _ us hl => match us, hl with | [_, _], _ => rfl
  have F_cost := fun_mk (st := s_cost) l_cost c_cost k_cost
  have b_cost := F_cost.binds (ps := ["net", "heights"]) fun _ _ _ _ _ _ us hl => match us, hl with | [_, _], _ => rfl
  have F_sign := fun_mk (st := s_sign) l_sign c_sign k_sign
  have b_sign := F_sign.binds (ps := ["n"]) fun _ _ _ _ _ _ us hl => match us, hl with | [_], _ => rfl
  have F_init := fun_mk (st := s_init) l_init c_init k_init
  have b_init := F_init.binds (ps := ["self", "net", "weights"]) fun _ _ _ _ _ _ us hl => match us, hl with | [_, _, _], _ => rfl
  have F_excess := fun_mk (st := s_excess) l_excess c_excess k_excess
  have b_excess := F_excess.binds (ps := ["self"]) fun _ _ _ _ _ _ us hl => match us, hl with | [_], _ => rfl
  have F_steps := fun_mk (st := s_steps) l_steps c_steps k_steps
  have b_steps := F_steps.binds (ps := ["self"]) fun _ _ _ _ _ _ us hl => match us, hl with | [_], _ => rfl
  have F_shortest := fun_mk (st := s_shortest) l_shortest c_shortest k_shortest
  have b_shortest := F_shortest.binds (ps := ["self", "start"]) fun _ _ _ _ _ _ us hl => match us, hl with | [_, _], _ => rfl
  have F_push := fun_mk (st := s_push) l_push c_push k_push
  have b_push := F_push.binds (ps := ["self", "start", "excess"]) fun _ _ _ _ _ _ us hl => match us, hl with | [_, _, _], _ => rfl
  have F_run := fun_mk (st := s_run) l_run c_run k_run
  have b_run := F_run.binds (ps := ["self"]) fun _ _ _ _ _ _ us hl => match us, hl with | [_], _ => rfl
  have F_adjusted := fun_mk (st := s_adjusted) l_adjusted c_adjusted k_adjusted
  have b_adjusted := F_adjusted.binds (ps := ["net", "weights"]) fun _ _ _ _ _ _ us hl => match us, hl with | [_, _], _ => rfl
  have F_best_paper := fun_mk (st := s_best_paper) l_best_paper c_best_paper k_best_paper
  have b_best_paper := F_best_paper.binds (ps := ["net"]) fun _ _ _ _ _ _ us hl => match us, hl with | [_], _ => rfl
  have F_search := fun_mk (st := s_search) l_search c_search k_search
  have b_search := F_search.binds (ps := ["net", "flow", "start"]) fun _ _ _ _ _ _ us hl => match us, hl with | [_, _, _], _ => rfl
  have F_greatest_flow := fun_mk (st := s_greatest_flow) l_greatest_flow c_greatest_flow k_greatest_flow
  have b_greatest_flow := F_greatest_flow.binds (ps := ["net", "start", "end"]) fun _ _ _ _ _ _ us hl => match us, hl with | [_, _, _], _ => rfl
  have F_next_reading := fun_mk (st := s_next_reading) l_next_reading c_next_reading k_next_reading
  have b_next_reading := F_next_reading.binds (ps := ["net", "flow", "mark"]) fun _ _ _ _ _ _ us hl => match us, hl with | [_, _, _], _ => rfl
  have F_ways_of := fun_mk (st := s_ways_of) l_ways_of c_ways_of k_ways_of
  have b_ways_of := F_ways_of.binds (ps := ["net", "flow", "start", "end"]) fun _ _ _ _ _ _ us hl => match us, hl with | [_, _, _, _], _ => rfl
  have F_side_of := fun_mk (st := s_side_of) l_side_of c_side_of k_side_of
  have b_side_of := F_side_of.binds (ps := ["net", "flow", "start"]) fun _ _ _ _ _ _ us hl => match us, hl with | [_, _, _], _ => rfl
  have F_least_cut := fun_mk (st := s_least_cut) l_least_cut c_least_cut k_least_cut
  have b_least_cut := F_least_cut.binds (ps := ["net", "one", "other"]) fun _ _ _ _ _ _ us hl => match us, hl with | [_, _, _], _ => rfl
  have F_strength_paper := fun_mk (st := s_strength_paper) l_strength_paper c_strength_paper k_strength_paper
  have b_strength_paper := F_strength_paper.binds (ps := ["net"]) fun _ _ _ _ _ _ us hl => match us, hl with | [_], _ => rfl
  have F_strength := fun_mk (st := s_strength) l_strength c_strength k_strength
  have b_strength := F_strength.binds (ps := ["net"]) fun _ _ _ _ _ _ us hl => match us, hl with | [_], _ => rfl
  have F_bounds := fun_mk (st := s_bounds) l_bounds c_bounds k_bounds
  have b_bounds := F_bounds.binds (ps := ["net", "flow"]) fun _ _ _ _ _ _ us hl => match us, hl with | [_, _], _ => rfl
  have F_greatest := fun_mk (st := s_greatest) l_greatest c_greatest k_greatest
  have b_greatest := F_greatest.binds (ps := ["many", "steps"]) fun _ _ _ _ _ _ us hl => match us, hl with | [_, _], _ => rfl
  have F_spans := fun_mk (st := s_spans) l_spans c_spans k_spans
  have b_spans := F_spans.binds (ps := ["net"]) fun _ _ _ _ _ _ us hl => match us, hl with | [_], _ => rfl
  have F_most_lies := fun_mk (st := s_most_lies) l_most_lies c_most_lies k_most_lies
  have b_most_lies := F_most_lies.binds (ps := ["net"]) fun _ _ _ _ _ _ us hl => match us, hl with | [_], _ => rfl
  have F_mark_lines := fun_mk (st := s_mark_lines) l_mark_lines c_mark_lines k_mark_lines
  have b_mark_lines := F_mark_lines.binds (ps := ["net", "heights"]) fun _ _ _ _ _ _ us hl => match us, hl with | [_, _], _ => rfl
  have F_reading_lines := fun_mk (st := s_reading_lines) l_reading_lines c_reading_lines k_reading_lines
  have b_reading_lines := F_reading_lines.binds (ps := ["net", "heights"]) fun _ _ _ _ _ _ us hl => match us, hl with | [_, _], _ => rfl
  have F_strength_lines := fun_mk (st := s_strength_lines) l_strength_lines c_strength_lines k_strength_lines
  have b_strength_lines := F_strength_lines.binds (ps := ["net"]) fun _ _ _ _ _ _ us hl => match us, hl with | [_], _ => rfl
  have F_report := fun_mk (st := s_report) l_report c_report k_report
  have b_report := F_report.binds (ps := ["net"]) fun _ _ _ _ _ _ us hl => match us, hl with | [_], _ => rfl
  have F_law_cell := fun_mk (st := s_law_cell) l_law_cell c_law_cell k_law_cell
  have b_law_cell := F_law_cell.binds (ps := ["_law_script", "_law_k"]) fun _ _ _ _ _ _ us hl => match us, hl with | [_, _], _ => rfl
  have F_law_digits := fun_mk (st := s_law_digits) l_law_digits c_law_digits k_law_digits
  have b_law_digits := F_law_digits.binds (ps := ["_law_script", "_law_first", "_law_last"]) fun _ _ _ _ _ _ us hl => match us, hl with | [_, _, _], _ => rfl
  have F_law_draw := fun_mk (st := s_law_draw) l_law_draw c_law_draw k_law_draw
  have b_law_draw := F_law_draw.binds (ps := ["_law_box", "_law_many"]) fun _ _ _ _ _ _ us hl => match us, hl with | [_, _], _ => rfl
  have F_law_pick := fun_mk (st := s_law_pick) l_law_pick c_law_pick k_law_pick
  have b_law_pick := F_law_pick.binds (ps := ["_law_box", "_law_things"]) fun _ _ _ _ _ _ us hl => match us, hl with | [_, _], _ => rfl
  have F_law_pairs := fun_mk (st := s_law_pairs) l_law_pairs c_law_pairs k_law_pairs
  have b_law_pairs := F_law_pairs.binds (ps := ["_law_box", "_law_many", "_law_extra"]) fun _ _ _ _ _ _ us hl => match us, hl with | [_, _, _], _ => rfl
  have F_law_heights := fun_mk (st := s_law_heights) l_law_heights c_law_heights k_law_heights
  have b_law_heights := F_law_heights.binds (ps := ["_law_box", "_law_many"]) fun _ _ _ _ _ _ us hl => match us, hl with | [_, _], _ => rfl
  have F_law_names := fun_mk (st := s_law_names) l_law_names c_law_names k_law_names
  have b_law_names := F_law_names.binds (ps := ["_law_many"]) fun _ _ _ _ _ _ us hl => match us, hl with | [_], _ => rfl
  have F_law_kept_net := fun_mk (st := s_law_kept_net) l_law_kept_net c_law_kept_net k_law_kept_net
  have b_law_kept_net := F_law_kept_net.binds (ps := ["_law_pairs_here", "_law_heights_here"]) fun _ _ _ _ _ _ us hl => match us, hl with | [_, _], _ => rfl
  have F_law_changed := fun_mk (st := s_law_changed) l_law_changed c_law_changed k_law_changed
  have b_law_changed := F_law_changed.binds (ps := ["_law_net_here", "_law_rows"]) fun _ _ _ _ _ _ us hl => match us, hl with | [_, _], _ => rfl
  have F_law_some := fun_mk (st := s_law_some) l_law_some c_law_some k_law_some
  have b_law_some := F_law_some.binds (ps := ["_law_box", "_law_many", "_law_most"]) fun _ _ _ _ _ _ us hl => match us, hl with | [_, _, _], _ => rfl
  have F_law_lied := fun_mk (st := s_law_lied) l_law_lied c_law_lied k_law_lied
  have b_law_lied := F_law_lied.binds (ps := ["_law_box", "_law_net_here", "_law_most"]) fun _ _ _ _ _ _ us hl => match us, hl with | [_, _, _], _ => rfl
  have F_law_net := fun_mk (st := s_law_net) l_law_net c_law_net k_law_net
  have b_law_net := F_law_net.binds (ps := ["_law_box", "_law_most_marks", "_law_most_extra"]) fun _ _ _ _ _ _ us hl => match us, hl with | [_, _, _], _ => rfl
  have F_law_sides := fun_mk (st := s_law_sides) l_law_sides c_law_sides k_law_sides
  have b_law_sides := F_law_sides.binds (ps := ["_law_many"]) fun _ _ _ _ _ _ us hl => match us, hl with | [_], _ => rfl
  have F_law_cut := fun_mk (st := s_law_cut) l_law_cut c_law_cut k_law_cut
  have b_law_cut := F_law_cut.binds (ps := ["_law_net_here", "_law_side"]) fun _ _ _ _ _ _ us hl => match us, hl with | [_, _], _ => rfl
  have F_law_strength := fun_mk (st := s_law_strength) l_law_strength c_law_strength k_law_strength
  have b_law_strength := F_law_strength.binds (ps := ["_law_net_here"]) fun _ _ _ _ _ _ us hl => match us, hl with | [_], _ => rfl
  have F_law_misses := fun_mk (st := s_law_misses) l_law_misses c_law_misses k_law_misses
  have b_law_misses := F_law_misses.binds (ps := ["_law_net_here", "_law_heights_here"]) fun _ _ _ _ _ _ us hl => match us, hl with | [_, _], _ => rfl
  have F_law_cost := fun_mk (st := s_law_cost) l_law_cost c_law_cost k_law_cost
  have b_law_cost := F_law_cost.binds (ps := ["_law_net_here", "_law_heights_here"]) fun _ _ _ _ _ _ us hl => match us, hl with | [_, _], _ => rfl
  have F_law_any_net := fun_mk (st := s_law_any_net) l_law_any_net c_law_any_net k_law_any_net
  have b_law_any_net := F_law_any_net.binds (ps := ["_law_box", "_law_most_marks", "_law_most_extra"]) fun _ _ _ _ _ _ us hl => match us, hl with | [_, _, _], _ => rfl
  have F_law_vertices := fun_mk (st := s_law_vertices) l_law_vertices c_law_vertices k_law_vertices
  have b_law_vertices := F_law_vertices.binds (ps := ["_law_net_here"]) fun _ _ _ _ _ _ us hl => match us, hl with | [_], _ => rfl
  have F_law_all_best := fun_mk (st := s_law_all_best) l_law_all_best c_law_all_best k_law_all_best
  have b_law_all_best := F_law_all_best.binds (ps := ["_law_net_here"]) fun _ _ _ _ _ _ us hl => match us, hl with | [_], _ => rfl
  have F_law_mark_line := fun_mk (st := s_law_mark_line) l_law_mark_line c_law_mark_line k_law_mark_line
  have b_law_mark_line := F_law_mark_line.binds (ps := ["_law_net_here", "_law_heights_here", "_law_best", "_law_mark"]) fun _ _ _ _ _ _ us hl => match us, hl with | [_, _, _, _], _ => rfl
  have F_law := fun_mk (st := s_law) l_law c_law k_law
  have b_law := F_law.binds (ps := ["_law_script"]) fun _ _ _ _ _ _ us hl => match us, hl with | [_], _ => rfl
  exact ⟨PySem.W.fnOf "law" "law" (defArgs s_law) (defBody s_law) (defScope s_law) .none kV_law dc_law pm_law an_law cd_law ct_law, fun s v => .of_eq rfl, fun base _ _ => ok_law { C := C, gS := PySem.W.mg_of X G aC, cl := ⟨pg, hd, po, sa⟩, a_init := f_init, d_init := _, mkS := ⟨mk, a_init, i_init, kc⟩, n_net := n_net, n_weights := n_weights, n_many := n_many, n_heights := n_heights, n_flow := n_flow, z_len := PySem.W.mg_none_of X G z_len, z_abs := PySem.W.mg_none_of X G z_abs, z_sum := PySem.W.mg_none_of X G z_sum, z_sorted := PySem.W.mg_none_of X G z_sorted, z_min := PySem.W.mg_none_of X G z_min, z_max := PySem.W.mg_none_of X G z_max, z_int := PySem.W.mg_none_of X G z_int, z_str := PySem.W.mg_none_of X G z_str, z_list := PySem.W.mg_none_of X G z_list, z_tuple := PySem.W.mg_none_of X G z_tuple, z_dict := PySem.W.mg_none_of X G z_dict, z_range := PySem.W.mg_none_of X G z_range, z_enumerate := PySem.W.mg_none_of X G z_enumerate, z_zip := PySem.W.mg_none_of X G z_zip, a_miss_of := f_miss_of, d_miss_of := _, F_miss_of := F_miss_of, b_miss_of := b_miss_of, g_miss_of := PySem.W.mg_of X G a_miss_of, a_misses := f_misses, d_misses := _, F_misses := F_misses, b_misses := b_misses, g_misses := PySem.W.mg_of X G a_misses, a_cost := f_cost, d_cost := _, F_cost := F_cost, b_cost := b_cost, g_cost := PySem.W.mg_of X G a_cost, a_sign := f_sign, d_sign := _, F_sign := F_sign, b_sign := b_sign, g_sign := PySem.W.mg_of X G a_sign, F_init := F_init, b_init := b_init, a_excess := f_excess, d_excess := _, F_excess := F_excess, b_excess := b_excess, m_excess := ⟨a_excess, i_excess, k_excess⟩, a_steps := f_steps, d_steps := _, F_steps := F_steps, b_steps := b_steps, m_steps := ⟨a_steps, i_steps, k_steps⟩, a_shortest := f_shortest, d_shortest := _, F_shortest := F_shortest, b_shortest := b_shortest, m_shortest := ⟨a_shortest, i_shortest, k_shortest⟩, a_push := f_push, d_push := _, F_push := F_push, b_push := b_push, m_push := ⟨a_push, i_push, k_push⟩, a_run := f_run, d_run := _, F_run := F_run, b_run := b_run, m_run := ⟨a_run, i_run, k_run⟩, a_adjusted := f_adjusted, d_adjusted := _, F_adjusted := F_adjusted, b_adjusted := b_adjusted, g_adjusted := PySem.W.mg_of X G a_adjusted, a_best_paper := f_best_paper, d_best_paper := _, F_best_paper := F_best_paper, b_best_paper := b_best_paper, g_best_paper := PySem.W.mg_of X G a_best_paper, a_search := f_search, d_search := _, F_search := F_search, b_search := b_search, g_search := PySem.W.mg_of X G a_search, a_greatest_flow := f_greatest_flow, d_greatest_flow := _, F_greatest_flow := F_greatest_flow, b_greatest_flow := b_greatest_flow, g_greatest_flow := PySem.W.mg_of X G a_greatest_flow, a_next_reading := f_next_reading, d_next_reading := _, F_next_reading := F_next_reading, b_next_reading := b_next_reading, g_next_reading := PySem.W.mg_of X G a_next_reading, a_ways_of := f_ways_of, d_ways_of := _, F_ways_of := F_ways_of, b_ways_of := b_ways_of, g_ways_of := PySem.W.mg_of X G a_ways_of, a_side_of := f_side_of, d_side_of := _, F_side_of := F_side_of, b_side_of := b_side_of, g_side_of := PySem.W.mg_of X G a_side_of, a_least_cut := f_least_cut, d_least_cut := _, F_least_cut := F_least_cut, b_least_cut := b_least_cut, g_least_cut := PySem.W.mg_of X G a_least_cut, a_strength_paper := f_strength_paper, d_strength_paper := _, F_strength_paper := F_strength_paper, b_strength_paper := b_strength_paper, g_strength_paper := PySem.W.mg_of X G a_strength_paper, a_strength := f_strength, d_strength := _, F_strength := F_strength, b_strength := b_strength, g_strength := PySem.W.mg_of X G a_strength, a_bounds := f_bounds, d_bounds := _, F_bounds := F_bounds, b_bounds := b_bounds, g_bounds := PySem.W.mg_of X G a_bounds, a_greatest := f_greatest, d_greatest := _, F_greatest := F_greatest, b_greatest := b_greatest, g_greatest := PySem.W.mg_of X G a_greatest, a_spans := f_spans, d_spans := _, F_spans := F_spans, b_spans := b_spans, g_spans := PySem.W.mg_of X G a_spans, a_most_lies := f_most_lies, d_most_lies := _, F_most_lies := F_most_lies, b_most_lies := b_most_lies, g_most_lies := PySem.W.mg_of X G a_most_lies, a_mark_lines := f_mark_lines, d_mark_lines := _, F_mark_lines := F_mark_lines, b_mark_lines := b_mark_lines, g_mark_lines := PySem.W.mg_of X G a_mark_lines, a_reading_lines := f_reading_lines, d_reading_lines := _, F_reading_lines := F_reading_lines, b_reading_lines := b_reading_lines, g_reading_lines := PySem.W.mg_of X G a_reading_lines, a_strength_lines := f_strength_lines, d_strength_lines := _, F_strength_lines := F_strength_lines, b_strength_lines := b_strength_lines, g_strength_lines := PySem.W.mg_of X G a_strength_lines, a_report := f_report, d_report := _, F_report := F_report, b_report := b_report, g_report := PySem.W.mg_of X G a_report, a_law_cell := f_law_cell, d_law_cell := _, F_law_cell := F_law_cell, b_law_cell := b_law_cell, g_law_cell := PySem.W.mg_of X G a_law_cell, a_law_digits := f_law_digits, d_law_digits := _, F_law_digits := F_law_digits, b_law_digits := b_law_digits, g_law_digits := PySem.W.mg_of X G a_law_digits, a_law_draw := f_law_draw, d_law_draw := _, F_law_draw := F_law_draw, b_law_draw := b_law_draw, g_law_draw := PySem.W.mg_of X G a_law_draw, a_law_pick := f_law_pick, d_law_pick := _, F_law_pick := F_law_pick, b_law_pick := b_law_pick, g_law_pick := PySem.W.mg_of X G a_law_pick, a_law_pairs := f_law_pairs, d_law_pairs := _, F_law_pairs := F_law_pairs, b_law_pairs := b_law_pairs, g_law_pairs := PySem.W.mg_of X G a_law_pairs, a_law_heights := f_law_heights, d_law_heights := _, F_law_heights := F_law_heights, b_law_heights := b_law_heights, g_law_heights := PySem.W.mg_of X G a_law_heights, a_law_names := f_law_names, d_law_names := _, F_law_names := F_law_names, b_law_names := b_law_names, g_law_names := PySem.W.mg_of X G a_law_names, a_law_kept_net := f_law_kept_net, d_law_kept_net := _, F_law_kept_net := F_law_kept_net, b_law_kept_net := b_law_kept_net, g_law_kept_net := PySem.W.mg_of X G a_law_kept_net, a_law_changed := f_law_changed, d_law_changed := _, F_law_changed := F_law_changed, b_law_changed := b_law_changed, g_law_changed := PySem.W.mg_of X G a_law_changed, a_law_some := f_law_some, d_law_some := _, F_law_some := F_law_some, b_law_some := b_law_some, g_law_some := PySem.W.mg_of X G a_law_some, a_law_lied := f_law_lied, d_law_lied := _, F_law_lied := F_law_lied, b_law_lied := b_law_lied, g_law_lied := PySem.W.mg_of X G a_law_lied, a_law_net := f_law_net, d_law_net := _, F_law_net := F_law_net, b_law_net := b_law_net, g_law_net := PySem.W.mg_of X G a_law_net, a_law_sides := f_law_sides, d_law_sides := _, F_law_sides := F_law_sides, b_law_sides := b_law_sides, g_law_sides := PySem.W.mg_of X G a_law_sides, a_law_cut := f_law_cut, d_law_cut := _, F_law_cut := F_law_cut, b_law_cut := b_law_cut, g_law_cut := PySem.W.mg_of X G a_law_cut, a_law_strength := f_law_strength, d_law_strength := _, F_law_strength := F_law_strength, b_law_strength := b_law_strength, g_law_strength := PySem.W.mg_of X G a_law_strength, a_law_misses := f_law_misses, d_law_misses := _, F_law_misses := F_law_misses, b_law_misses := b_law_misses, g_law_misses := PySem.W.mg_of X G a_law_misses, a_law_cost := f_law_cost, d_law_cost := _, F_law_cost := F_law_cost, b_law_cost := b_law_cost, g_law_cost := PySem.W.mg_of X G a_law_cost, a_law_any_net := f_law_any_net, d_law_any_net := _, F_law_any_net := F_law_any_net, b_law_any_net := b_law_any_net, g_law_any_net := PySem.W.mg_of X G a_law_any_net, a_law_vertices := f_law_vertices, d_law_vertices := _, F_law_vertices := F_law_vertices, b_law_vertices := b_law_vertices, g_law_vertices := PySem.W.mg_of X G a_law_vertices, a_law_all_best := f_law_all_best, d_law_all_best := _, F_law_all_best := F_law_all_best, b_law_all_best := b_law_all_best, g_law_all_best := PySem.W.mg_of X G a_law_all_best, a_law_mark_line := f_law_mark_line, d_law_mark_line := _, F_law_mark_line := F_law_mark_line, b_law_mark_line := b_law_mark_line, g_law_mark_line := PySem.W.mg_of X G a_law_mark_line, a_law := fa, d_law := _, F_law := F_law, b_law := b_law, g_law := PySem.W.mg_of X G a_law }⟩
theorem walk {l : PySem.W.OpenLaw} {q : Program} {loose : List Str} {XP : (Str → Option Value) → Heap → Prop} {YP : World → Heap → Prop} {d : DefRec} {K : Params → PySem.W.Frag} (hn : l.most = some 63) (hdf : d.params.defaults = [])
    (hY : ∀ (w : World) (h : Heap), YP w h → (K w.params).In h)
    (F : ∀ (w : World) (mg : Str → Option Value) (fa : Addr) (h : Heap), (K w.params).In h → h.Ns mainGlobals mg → mg d.name = some (.ref fa) →
      ∃ fd : FuncData, (∀ (s : Shared) (u : Value), BindsTo s fd ⟨[u], []⟩ [("_law_script", u)]) ∧ ∀ base : Heap, (K w.params).In base → base.Ns mainGlobals mg → FnOk l.prog w (K w.params) mg base CX0 12 fa fd ["_law_script"] (spLaw (K w.params))) :
    PySem.W.WalkO q loose XP YP l.row.toRowW d [] (fun f vs => PySem.call f vs) :=
  L2.walk_of (n := 63) (k := 12) (x := "_law_script") (CX := fun _ => CX0) (sp := fun w => spLaw (K w.params)) hn (by decide) hdf ⟨rfl, by decide, by decide⟩ hY F (fun _ _ a ns hl _ hS => ⟨a, ns, rfl, hS, fun _ => rfl⟩) fun _ _ _ _ _ z => z
end TW

open PySem PySem.W PyProof.Rows in
set_option maxRecDepth 100000 in
set_option maxHeartbeats 0 in
theorem PySem.Challenge.cw_truelevels_k37_report_is_told_holds : PySem.Challenge.rw_truelevels_k37_report_is_told.Holds := by
  w_on; o_law; k_head; (case hw => w_witness2)
  k_fill
  refine TW.walk (l := PySem.Challenge.rw_truelevels_k37_report_is_told) rfl rfl (fun w h Y => PySem.W.kIn_of Y) ?F
  case F =>
    intro w mg fa h KX G hmg
    refine' TW.all_mk KX G hmg ?aC ?a_miss_of ?l_miss_of ?c_miss_of ?k_miss_of ?a_misses ?l_misses ?c_misses ?k_misses ?a_cost ?l_cost ?c_cost ?k_cost ?a_sign ?l_sign ?c_sign ?k_sign ?a_init ?i_init ?l_init ?c_init ?k_init ?a_excess ?i_excess ?l_excess ?c_excess ?k_excess ?a_steps ?i_steps ?l_steps ?c_steps ?k_steps ?a_shortest ?i_shortest ?l_shortest ?c_shortest ?k_shortest ?a_push ?i_push ?l_push ?c_push ?k_push ?a_run ?i_run ?l_run ?c_run ?k_run ?a_adjusted ?l_adjusted ?c_adjusted ?k_adjusted ?a_best_paper ?l_best_paper ?c_best_paper ?k_best_paper ?a_search ?l_search ?c_search ?k_search ?a_greatest_flow ?l_greatest_flow ?c_greatest_flow ?k_greatest_flow ?a_next_reading ?l_next_reading ?c_next_reading ?k_next_reading ?a_ways_of ?l_ways_of ?c_ways_of ?k_ways_of ?a_side_of ?l_side_of ?c_side_of ?k_side_of ?a_least_cut ?l_least_cut ?c_least_cut ?k_least_cut ?a_strength_paper ?l_strength_paper ?c_strength_paper ?k_strength_paper ?a_strength ?l_strength ?c_strength ?k_strength ?a_bounds ?l_bounds ?c_bounds ?k_bounds ?a_greatest ?l_greatest ?c_greatest ?k_greatest ?a_spans ?l_spans ?c_spans ?k_spans ?a_most_lies ?l_most_lies ?c_most_lies ?k_most_lies ?a_mark_lines ?l_mark_lines ?c_mark_lines ?k_mark_lines ?a_reading_lines ?l_reading_lines ?c_reading_lines ?k_reading_lines ?a_strength_lines ?l_strength_lines ?c_strength_lines ?k_strength_lines ?a_report ?l_report ?c_report ?k_report ?a_law_cell ?l_law_cell ?c_law_cell ?k_law_cell ?a_law_digits ?l_law_digits ?c_law_digits ?k_law_digits ?a_law_draw ?l_law_draw ?c_law_draw ?k_law_draw ?a_law_pick ?l_law_pick ?c_law_pick ?k_law_pick ?a_law_pairs ?l_law_pairs ?c_law_pairs ?k_law_pairs ?a_law_heights ?l_law_heights ?c_law_heights ?k_law_heights ?a_law_names ?l_law_names ?c_law_names ?k_law_names ?a_law_kept_net ?l_law_kept_net ?c_law_kept_net ?k_law_kept_net ?a_law_changed ?l_law_changed ?c_law_changed ?k_law_changed ?a_law_some ?l_law_some ?c_law_some ?k_law_some ?a_law_lied ?l_law_lied ?c_law_lied ?k_law_lied ?a_law_net ?l_law_net ?c_law_net ?k_law_net ?a_law_sides ?l_law_sides ?c_law_sides ?k_law_sides ?a_law_cut ?l_law_cut ?c_law_cut ?k_law_cut ?a_law_strength ?l_law_strength ?c_law_strength ?k_law_strength ?a_law_misses ?l_law_misses ?c_law_misses ?k_law_misses ?a_law_cost ?l_law_cost ?c_law_cost ?k_law_cost ?a_law_any_net ?l_law_any_net ?c_law_any_net ?k_law_any_net ?a_law_vertices ?l_law_vertices ?c_law_vertices ?k_law_vertices ?a_law_all_best ?l_law_all_best ?c_law_all_best ?k_law_all_best ?a_law_mark_line ?l_law_mark_line ?c_law_mark_line ?k_law_mark_line ?a_law ?l_law ?c_law ?k_law ?pg ?hd ?po ?sa ?mk ?kc ?n_net ?n_weights ?n_many ?n_heights ?n_flow ?z_len ?z_abs ?z_sum ?z_sorted ?z_min ?z_max ?z_int ?z_str ?z_list ?z_tuple ?z_dict ?z_range ?z_enumerate ?z_zip
    (case aC => k_is)
    (case a_miss_of => k_is)
    (case l_miss_of => k_is)
    (case c_miss_of => k_is)
    (case k_miss_of => k_is)
    (case a_misses => k_is)
    (case l_misses => k_is)
    (case c_misses => k_is)
    (case k_misses => k_is)
    (case a_cost => k_is)
    (case l_cost => k_is)
    (case c_cost => k_is)
    (case k_cost => k_is)
    (case a_sign => k_is)
    (case l_sign => k_is)
    (case c_sign => k_is)
    (case k_sign => k_is)
    (case a_init => k_is)
    (case i_init => k_is)
    (case l_init => k_is)
    (case c_init => k_is)
    (case k_init => k_is)
    (case a_excess => k_is)
    (case i_excess => k_is)
    (case l_excess => k_is)
    (case c_excess => k_is)
    (case k_excess => k_is)
    (case a_steps => k_is)
    (case i_steps => k_is)
    (case l_steps => k_is)
    (case c_steps => k_is)
    (case k_steps => k_is)
    (case a_shortest => k_is)
    (case i_shortest => k_is)
    (case l_shortest => k_is)
    (case c_shortest => k_is)
    (case k_shortest => k_is)
    (case a_push => k_is)
    (case i_push => k_is)
    (case l_push => k_is)
    (case c_push => k_is)
    (case k_push => k_is)
    (case a_run => k_is)
    (case i_run => k_is)
    (case l_run => k_is)
    (case c_run => k_is)
    (case k_run => k_is)
    (case a_adjusted => k_is)
    (case l_adjusted => k_is)
    (case c_adjusted => k_is)
    (case k_adjusted => k_is)
    (case a_best_paper => k_is)
    (case l_best_paper => k_is)
    (case c_best_paper => k_is)
    (case k_best_paper => k_is)
    (case a_search => k_is)
    (case l_search => k_is)
    (case c_search => k_is)
    (case k_search => k_is)
    (case a_greatest_flow => k_is)
    (case l_greatest_flow => k_is)
    (case c_greatest_flow => k_is)
    (case k_greatest_flow => k_is)
    (case a_next_reading => k_is)
    (case l_next_reading => k_is)
    (case c_next_reading => k_is)
    (case k_next_reading => k_is)
    (case a_ways_of => k_is)
    (case l_ways_of => k_is)
    (case c_ways_of => k_is)
    (case k_ways_of => k_is)
    (case a_side_of => k_is)
    (case l_side_of => k_is)
    (case c_side_of => k_is)
    (case k_side_of => k_is)
    (case a_least_cut => k_is)
    (case l_least_cut => k_is)
    (case c_least_cut => k_is)
    (case k_least_cut => k_is)
    (case a_strength_paper => k_is)
    (case l_strength_paper => k_is)
    (case c_strength_paper => k_is)
    (case k_strength_paper => k_is)
    (case a_strength => k_is)
    (case l_strength => k_is)
    (case c_strength => k_is)
    (case k_strength => k_is)
    (case a_bounds => k_is)
    (case l_bounds => k_is)
    (case c_bounds => k_is)
    (case k_bounds => k_is)
    (case a_greatest => k_is)
    (case l_greatest => k_is)
    (case c_greatest => k_is)
    (case k_greatest => k_is)
    (case a_spans => k_is)
    (case l_spans => k_is)
    (case c_spans => k_is)
    (case k_spans => k_is)
    (case a_most_lies => k_is)
    (case l_most_lies => k_is)
    (case c_most_lies => k_is)
    (case k_most_lies => k_is)
    (case a_mark_lines => k_is)
    (case l_mark_lines => k_is)
    (case c_mark_lines => k_is)
    (case k_mark_lines => k_is)
    (case a_reading_lines => k_is)
    (case l_reading_lines => k_is)
    (case c_reading_lines => k_is)
    (case k_reading_lines => k_is)
    (case a_strength_lines => k_is)
    (case l_strength_lines => k_is)
    (case c_strength_lines => k_is)
    (case k_strength_lines => k_is)
    (case a_report => k_is)
    (case l_report => k_is)
    (case c_report => k_is)
    (case k_report => k_is)
    (case a_law_cell => k_is)
    (case l_law_cell => k_is)
    (case c_law_cell => k_is)
    (case k_law_cell => k_is)
    (case a_law_digits => k_is)
    (case l_law_digits => k_is)
    (case c_law_digits => k_is)
    (case k_law_digits => k_is)
    (case a_law_draw => k_is)
    (case l_law_draw => k_is)
    (case c_law_draw => k_is)
    (case k_law_draw => k_is)
    (case a_law_pick => k_is)
    (case l_law_pick => k_is)
    (case c_law_pick => k_is)
    (case k_law_pick => k_is)
    (case a_law_pairs => k_is)
    (case l_law_pairs => k_is)
    (case c_law_pairs => k_is)
    (case k_law_pairs => k_is)
    (case a_law_heights => k_is)
    (case l_law_heights => k_is)
    (case c_law_heights => k_is)
    (case k_law_heights => k_is)
    (case a_law_names => k_is)
    (case l_law_names => k_is)
    (case c_law_names => k_is)
    (case k_law_names => k_is)
    (case a_law_kept_net => k_is)
    (case l_law_kept_net => k_is)
    (case c_law_kept_net => k_is)
    (case k_law_kept_net => k_is)
    (case a_law_changed => k_is)
    (case l_law_changed => k_is)
    (case c_law_changed => k_is)
    (case k_law_changed => k_is)
    (case a_law_some => k_is)
    (case l_law_some => k_is)
    (case c_law_some => k_is)
    (case k_law_some => k_is)
    (case a_law_lied => k_is)
    (case l_law_lied => k_is)
    (case c_law_lied => k_is)
    (case k_law_lied => k_is)
    (case a_law_net => k_is)
    (case l_law_net => k_is)
    (case c_law_net => k_is)
    (case k_law_net => k_is)
    (case a_law_sides => k_is)
    (case l_law_sides => k_is)
    (case c_law_sides => k_is)
    (case k_law_sides => k_is)
    (case a_law_cut => k_is)
    (case l_law_cut => k_is)
    (case c_law_cut => k_is)
    (case k_law_cut => k_is)
    (case a_law_strength => k_is)
    (case l_law_strength => k_is)
    (case c_law_strength => k_is)
    (case k_law_strength => k_is)
    (case a_law_misses => k_is)
    (case l_law_misses => k_is)
    (case c_law_misses => k_is)
    (case k_law_misses => k_is)
    (case a_law_cost => k_is)
    (case l_law_cost => k_is)
    (case c_law_cost => k_is)
    (case k_law_cost => k_is)
    (case a_law_any_net => k_is)
    (case l_law_any_net => k_is)
    (case c_law_any_net => k_is)
    (case k_law_any_net => k_is)
    (case a_law_vertices => k_is)
    (case l_law_vertices => k_is)
    (case c_law_vertices => k_is)
    (case k_law_vertices => k_is)
    (case a_law_all_best => k_is)
    (case l_law_all_best => k_is)
    (case c_law_all_best => k_is)
    (case k_law_all_best => k_is)
    (case a_law_mark_line => k_is)
    (case l_law_mark_line => k_is)
    (case c_law_mark_line => k_is)
    (case k_law_mark_line => k_is)
    (case a_law => k_is)
    (case l_law => k_is)
    (case c_law => k_is)
    (case k_law => k_is)
    (case pg => k_is)
    (case hd => k_is)
    (case po => k_is)
    (case sa => k_is)
    (case mk => k_is)
    (case kc => k_is)
    (case n_net => k_is)
    (case n_weights => k_is)
    (case n_many => k_is)
    (case n_heights => k_is)
    (case n_flow => k_is)
    (case z_len => k_is)
    (case z_abs => k_is)
    (case z_sum => k_is)
    (case z_sorted => k_is)
    (case z_min => k_is)
    (case z_max => k_is)
    (case z_int => k_is)
    (case z_str => k_is)
    (case z_list => k_is)
    (case z_tuple => k_is)
    (case z_dict => k_is)
    (case z_range => k_is)
    (case z_enumerate => k_is)
    (case z_zip => k_is)
