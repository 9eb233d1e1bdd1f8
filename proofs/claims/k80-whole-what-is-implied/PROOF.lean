import PyProof.Rows.All
import Wide.All
import OpenK.AllK
import Wide.FinOn
import HandS.ForMost
import HandS.Walk
import KE.GoesEnum
import HandS.TupAny
import HandS.DictComp
import KE.SortData
import HandS.Set
import HandS.SetFor
import PyProof.Rows.SortShellAny
import HandS.TupMul
import HandS.Codes
import HandS.IsInst
import HandS.Zip
import HandS.Rev
import PySem.Challenge.RW_quiremarks_k80_whole_what_is_implied
section
set_option autoImplicit false
set_option Elab.async false
set_option maxRecDepth 100000
set_option maxHeartbeats 4000000
/-! The plain law: collations by factors, by all ends; looks; what is implied. No program here. -/
namespace Qm

def nth (l : List Int) (i : Int) : Int := l.getD i.toNat 0
def sat (s : List Int) (i : Nat) : Int := s.getD i 0

structure Pap (p : List Int) : Prop where
  l1 : 1 ≤ p.length
  l6 : p.length ≤ 6
  rng : ∀ x ∈ p, 0 ≤ x ∧ x < (p.length : Int)
  inv : ∀ x : Int, 0 ≤ x → x < (p.length : Int) → nth p (nth p x) = x
structure Sq (p s : List Int) : Prop where
  rng : ∀ x ∈ s, 0 ≤ x ∧ x < (p.length : Int)
  l16 : s.length ≤ 16

theorem sat_mem {s : List Int} {i : Nat} (h : i < s.length) : sat s i ∈ s := by
  unfold sat
  rw [List.getD_eq_getElem?_getD, List.getElem?_eq_getElem h]
  exact List.getElem_mem h
theorem nth_mem {p : List Int} {x : Int} (h0 : 0 ≤ x) (h1 : x < (p.length : Int)) : nth p x ∈ p := by
  unfold nth
  have h : x.toNat < p.length := by omega
  rw [List.getD_eq_getElem?_getD, List.getElem?_eq_getElem h]
  exact List.getElem_mem h

def G (p s : List Int) (i j : Nat) : Prop := i < j ∧ j ≤ s.length ∧ (j - i) % 2 = 0 ∧ ∀ k : Nat, k < (j - i) / 2 → nth p (sat s (i + k)) = sat s (j - 1 - k)
instance (p s : List Int) (i j : Nat) : Decidable (G p s i j) := by
  unfold G
  infer_instance

section
variable {p s : List Int}

theorem G.full (P : Pap p) (S : Sq p s) {i j : Nat} (g : G p s i j) : ∀ k : Nat, k < j - i → nth p (sat s (i + k)) = sat s (j - 1 - k) := by
  intro k hk
  obtain ⟨h1, h2, h3, h4⟩ := g
  by_cases c : k < (j - i) / 2
  · exact h4 k c
  · have e1 := h4 (j - i - 1 - k) (by omega)
    have e2 : i + (j - i - 1 - k) = j - 1 - k := by omega
    have e3 : j - 1 - (j - i - 1 - k) = i + k := by omega
    rw [e2, e3] at e1
    have m := S.rng _ (sat_mem (s := s) (i := j - 1 - k) (by omega))
    rw [← e1]
    exact P.inv _ m.1 m.2
theorem G.of_full {i j : Nat} (h1 : i < j) (h2 : j ≤ s.length) (h3 : (j - i) % 2 = 0) (h : ∀ k : Nat, k < j - i → nth p (sat s (i + k)) = sat s (j - 1 - k)) : G p s i j :=
  ⟨h1, h2, h3, fun k hk => h k (by omega)⟩

/-- a copy of the first gathering stands at the end of each longer one -/
theorem copy (P : Pap p) (S : Sq p s) {f q e : Nat} (g : G p s f q) (g2 : G p s f e) (h : q ≤ e) : ∀ m : Nat, f ≤ m → m < q → sat s (m + (e - q)) = sat s m := by
  intro m h1 h2
  have a := g.full P S (q - 1 - m) (by omega)
  have b := g2.full P S (q - 1 - m) (by have := g2.1; omega)
  have e1 : q - 1 - (q - 1 - m) = m := by omega
  have e2 : e - 1 - (q - 1 - m) = m + (e - q) := by omega
  rw [e1] at a
  rw [e2] at b
  rw [← b, a]

def Clo (p s : List Int) (S : List Nat) : Prop := ∀ f ∈ S, (∀ e, ¬ G p s f e) ∨ ∃ q, G p s f q ∧ (∀ e, e < q → ¬ G p s f e) ∧ q ∈ S

theorem clo_all (P : Pap p) (S : Sq p s) {E : List Nat} (C : Clo p s E) : ∀ (n f e : Nat), e - f ≤ n → f ∈ E → G p s f e → e ∈ E := by
  intro n
  induction n with
  | zero =>
    intro f e h _ g
    have := g.1
    omega
  | succ n ih =>
    intro f e hn hf g
    rcases C f hf with c | ⟨q, gq, least, hq⟩
    · exact absurd g (c e)
    · have hqe : q ≤ e := by
        rcases Nat.lt_or_ge e q with c | c
        · exact absurd g (least e c)
        · exact c
      have hfq := gq.1
      have hle := g.2.1
      have p1 := gq.2.2.1
      have p2 := g.2.2.1
      have cp := copy P S gq g hqe
      rcases Nat.eq_or_lt_of_le hqe with c | c
      · rw [← c]
        exact hq
      · -- the suffix
        rcases Nat.lt_trichotomy (e - q) (q - f) with d | d | d
        · exfalso
          refine least (f + (q - f - (e - q))) (by omega) (G.of_full (by omega) (by omega) (by omega) fun k hk => ?_)
          have a := gq.full P S k (by omega)
          have b := cp (f + (q - f - (e - q)) - 1 - k) (by omega) (by omega)
          have e1 : f + (q - f - (e - q)) - 1 - k + (e - q) = q - 1 - k := by omega
          rw [e1] at b
          rw [a, b]
        · refine ih q e (by omega) hq (G.of_full c hle (by omega) fun k hk => ?_)
          have a := gq.full P S k (by omega)
          have b := cp (f + k) (by omega) (by omega)
          have b2 := cp (q - 1 - k) (by omega) (by omega)
          have e1 : f + k + (e - q) = q + k := by omega
          have e2 : q - 1 - k + (e - q) = e - 1 - k := by omega
          rw [e1] at b
          rw [e2] at b2
          rw [b, b2, a]
        · have g1 : G p s q (e - (q - f)) := G.of_full (by omega) (by omega) (by omega) fun k hk => by
            have a := g.full P S (q - f + k) (by omega)
            have e1 : f + (q - f + k) = q + k := by omega
            have e2 : e - 1 - (q - f + k) = e - (q - f) - 1 - k := by omega
            rw [e1, e2] at a
            exact a
          have m1 := ih q (e - (q - f)) (by omega) hq g1
          refine ih (e - (q - f)) e (by omega) m1 (G.of_full (by omega) hle (by omega) fun k hk => ?_)
          have a := gq.full P S k (by omega)
          have b := cp (f + k) (by omega) (by omega)
          have b2 := cp (q - 1 - k) (by omega) (by omega)
          have e1 : f + k + (e - q) = e - (q - f) + k := by omega
          have e2 : q - 1 - k + (e - q) = e - 1 - k := by omega
          rw [e1] at b
          rw [e2] at b2
          rw [b, b2, a]

/-! ### factors -/
/-- L is the length of the shortest gathering from f on, 0 if there is none -/
def IsSh (p s : List Int) (f L : Nat) : Prop := (L = 0 ∧ ∀ e, ¬ G p s f e) ∨ (0 < L ∧ G p s f (f + L) ∧ ∀ e, e < f + L → ¬ G p s f e)
def Fac (p s : List Int) : Nat → List Nat → Prop
  | f, [] => IsSh p s f 0
  | f, L :: ls => 0 < L ∧ IsSh p s f L ∧ Fac p s (f + L) ls
def sums : Nat → List Nat → List Nat
  | f, [] => [f]
  | f, L :: ls => f :: sums (f + L) ls
theorem sums_head (f : Nat) (ls : List Nat) : f ∈ sums f ls := by
  cases ls with
  | nil => exact List.mem_cons_self
  | cons L r => exact List.mem_cons_self
theorem sums_len : ∀ (ls : List Nat) (f : Nat), (sums f ls).length = ls.length + 1
  | [], _ => rfl
  | L :: r, f => by
    show (sums (f + L) r).length + 1 = r.length + 1 + 1
    rw [sums_len r]
theorem sums_snoc : ∀ (ls : List Nat) (f L : Nat), sums f (ls ++ [L]) = sums f ls ++ [f + (ls ++ [L]).sum]
  | [], f, L => by
    show [f, f + L] = [f, f + (L + 0)]
    rw [Nat.add_zero]
  | M :: r, f, L => by
    show f :: sums (f + M) (r ++ [L]) = f :: (sums (f + M) r ++ [f + (M + (r ++ [L]).sum)])
    rw [sums_snoc r, Nat.add_assoc]
theorem sums_last : ∀ (ls : List Nat) (f : Nat), (sums f ls)[ls.length]? = some (f + ls.sum)
  | [], f => rfl
  | L :: r, f => by
    show (sums (f + L) r)[r.length]? = some (f + (L + r.sum))
    rw [sums_last r, Nat.add_assoc]
theorem fac_clo : ∀ (ls : List Nat) (f : Nat), Fac p s f ls → Clo p s (sums f ls)
  | [], f, h => by
    intro f' hf
    have e : f' = f := List.mem_singleton.mp hf
    subst e
    rcases h with h | h
    · exact .inl h.2
    · exact absurd h.1 (by omega)
  | L :: r, f, h => by
    obtain ⟨h0, h1, h2⟩ := h
    intro f' hf
    rcases List.mem_cons.mp hf with e | hf
    · subst e
      rcases h1 with h1 | h1
      · exact absurd h1.1 (by omega)
      · exact .inr ⟨f' + L, h1.2.1, h1.2.2, List.mem_cons_of_mem _ (sums_head _ _)⟩
    · rcases fac_clo r (f + L) h2 f' hf with c | ⟨q, a, b, c⟩
      · exact .inl c
      · exact .inr ⟨q, a, b, List.mem_cons_of_mem _ c⟩
theorem sums_ge : ∀ (ls : List Nat) (f x : Nat), x ∈ sums f ls → f ≤ x
  | [], f, x, h => by
    rw [List.mem_singleton.mp h]
    exact Nat.le_refl _
  | L :: r, f, x, h => by
    rcases List.mem_cons.mp h with e | h
    · rw [e]
      exact Nat.le_refl _
    · have := sums_ge r (f + L) x h
      omega
theorem fac_asc : ∀ (ls : List Nat) (f : Nat), Fac p s f ls → (sums f ls).Pairwise (· < ·)
  | [], f, _ => List.pairwise_singleton _ _
  | L :: r, f, h => by
    refine List.pairwise_cons.mpr ⟨fun x hx => ?_, fac_asc r (f + L) h.2.2⟩
    have := sums_ge r (f + L) x hx
    have := h.1
    omega
theorem fac_le : ∀ (ls : List Nat) (f : Nat), f ≤ s.length → Fac p s f ls → ∀ x ∈ sums f ls, x ≤ s.length
  | [], f, hf, _, x, hx => by
    rw [List.mem_singleton.mp hx]
    exact hf
  | L :: r, f, hf, h, x, hx => by
    rcases List.mem_cons.mp hx with e | hx
    · rw [e]
      exact hf
    · refine fac_le r (f + L) ?_ h.2.2 x hx
      rcases h.2.1 with c | c
      · have := h.1
        omega
      · exact c.2.1.2.1
theorem fac_num : ∀ (ls : List Nat) (f : Nat), f ≤ s.length → Fac p s f ls → f + 2 * ls.length ≤ s.length
  | [], f, hf, _ => by
    show f + 2 * 0 ≤ s.length
    omega
  | L :: r, f, hf, h => by
    rcases h.2.1 with c | c
    · have := h.1
      omega
    · have a := fac_num r (f + L) c.2.1.2.1 h.2.2
      have b := c.2.1.2.2.1
      have d := c.1
      show f + 2 * (r.length + 1) ≤ s.length
      omega

/-! ### splits into gatherings -/
def Dec (p s : List Int) : Nat → List Nat → Nat → Prop
  | i, [], j => i = j
  | i, h :: c, j => 1 ≤ h ∧ G p s i (i + 2 * h) ∧ Dec p s (i + 2 * h) c j
theorem Dec.le : ∀ {c : List Nat} {i j : Nat}, Dec p s i c j → i ≤ j
  | [], i, j, h => Nat.le_of_eq h
  | x :: c, i, j, h => by
    have := Dec.le h.2.2
    omega
theorem Dec.len : ∀ {c : List Nat} {i j : Nat}, Dec p s i c j → i + 2 * c.length ≤ j
  | [], i, j, h => by
    have e : i = j := h
    show i + 2 * 0 ≤ j
    omega
  | x :: c, i, j, h => by
    have a := Dec.len h.2.2
    have b := h.1
    show i + 2 * (c.length + 1) ≤ j
    omega
theorem Dec.sum : ∀ {c : List Nat} {i j : Nat}, Dec p s i c j → i + 2 * c.sum = j
  | [], i, j, h => by
    have e : i = j := h
    show i + 2 * 0 = j
    omega
  | x :: c, i, j, h => by
    have a := Dec.sum h.2.2
    show i + 2 * (x + c.sum) = j
    omega
theorem Dec.pos : ∀ {c : List Nat} {i j : Nat}, Dec p s i c j → ∀ x ∈ c, 1 ≤ x
  | [], _, _, _, x, hx => absurd hx (by simp)
  | y :: c, i, j, h, x, hx => by
    rcases List.mem_cons.mp hx with e | hx
    · rw [e]
      exact h.1
    · exact Dec.pos h.2.2 x hx
theorem dec_app : ∀ {c d : List Nat} {i j : Nat}, Dec p s i (c ++ d) j ↔ ∃ k, Dec p s i c k ∧ Dec p s k d j
  | [], d, i, j => ⟨fun h => ⟨i, rfl, h⟩, fun ⟨k, a, b⟩ => by
    have e : i = k := a
    rw [e]
    exact b⟩
  | x :: c, d, i, j => ⟨fun h => by
    obtain ⟨a, b, h⟩ := h
    obtain ⟨k, c1, c2⟩ := dec_app.mp h
    exact ⟨k, ⟨a, b, c1⟩, c2⟩, fun ⟨k, h, h2⟩ => by
    obtain ⟨a, b, h⟩ := h
    exact ⟨a, b, dec_app.mpr ⟨k, h, h2⟩⟩⟩

def Tl (p s : List Int) (e : Nat) (css : List (List Nat)) : Prop := css.Nodup ∧ ∀ c, c ∈ css ↔ Dec p s e c s.length
def Colls (p s : List Int) (css : List (List Nat)) : Prop := Tl p s 0 css
theorem colls_perm {css dss : List (List Nat)} (a : Colls p s css) (b : Colls p s dss) : css.Perm dss :=
  (List.perm_ext_iff_of_nodup a.1 b.1).mpr fun c => (a.2 c).trans (b.2 c).symm

/-- found so far, of the ends es -/
def Fd (p s : List Int) (f : Nat) (es : List Nat) (css : List (List Nat)) : Prop :=
  css.Nodup ∧ ∀ c, c ∈ css ↔ ∃ e ∈ es, G p s f e ∧ ∃ t, Dec p s e t s.length ∧ c = (e - f) / 2 :: t
theorem fd_nil (f : Nat) : Fd p s f [] [] := ⟨List.nodup_nil, fun c => ⟨fun h => absurd h (by simp), fun ⟨e, he, _⟩ => absurd he (by simp)⟩⟩
theorem fd_skip {f e : Nat} {es : List Nat} {css : List (List Nat)} (h : Fd p s f es css) (g : ¬ G p s f e) : Fd p s f (es ++ [e]) css :=
  ⟨h.1, fun c => (h.2 c).trans ⟨fun ⟨x, hx, r⟩ => ⟨x, List.mem_append_left _ hx, r⟩, fun ⟨x, hx, r⟩ => by
    rcases List.mem_append.mp hx with k | k
    · exact ⟨x, k, r⟩
    · rw [List.mem_singleton.mp k] at r
      exact absurd r.1 g⟩⟩
theorem nodup_map_cons (x : Nat) {css : List (List Nat)} (h : css.Nodup) : (css.map (x :: ·)).Nodup :=
  List.pairwise_map.mpr (h.imp fun hne e => hne (List.cons.inj e).2)
theorem fd_more {f e : Nat} {es : List Nat} {css tss : List (List Nat)} (h : Fd p s f es css) (hn : e ∉ es) (g : G p s f e) (t : Tl p s e tss) : Fd p s f (es ++ [e]) (css ++ tss.map ((e - f) / 2 :: ·)) := by
  refine ⟨List.nodup_append.mpr ⟨h.1, nodup_map_cons _ t.1, fun a ha b hb e1 => ?_⟩, fun c => ?_⟩
  · obtain ⟨x, hx, gx, u, _, ea⟩ := (h.2 a).mp ha
    obtain ⟨v, _, eb⟩ := List.mem_map.mp hb
    rw [ea, ← eb] at e1
    have h1 := (List.cons.inj e1).1
    have a1 := gx.1
    have a2 := gx.2.2.1
    have b1 := g.1
    have b2 := g.2.2.1
    have ex : x = e := by omega
    rw [ex] at hx
    exact hn hx
  · constructor
    · intro hc
      rcases List.mem_append.mp hc with k | k
      · obtain ⟨x, hx, r⟩ := (h.2 c).mp k
        exact ⟨x, List.mem_append_left _ hx, r⟩
      · obtain ⟨v, hv, ev⟩ := List.mem_map.mp k
        exact ⟨e, List.mem_append_right _ (List.mem_singleton.mpr rfl), g, v, (t.2 v).mp hv, ev.symm⟩
    · rintro ⟨x, hx, gx, u, du, ec⟩
      rcases List.mem_append.mp hx with k | k
      · exact List.mem_append_left _ ((h.2 c).mpr ⟨x, k, gx, u, du, ec⟩)
      · rw [List.mem_singleton.mp k] at du ec
        rw [ec]
        exact List.mem_append_right _ (List.mem_map.mpr ⟨u, (t.2 u).mpr du, rfl⟩)
theorem fd_all (P : Pap p) (S : Sq p s) {E : List Nat} (C : Clo p s E) {f : Nat} (hf : f ∈ E) (hl : f < s.length) {css : List (List Nat)} (h : Fd p s f E css) : Tl p s f css := by
  refine ⟨h.1, fun c => (h.2 c).trans ⟨fun ⟨e, he, g, t, dt, ec⟩ => ?_, fun d => ?_⟩⟩
  · have a1 := g.1
    have a2 := g.2.2.1
    have ee : f + 2 * ((e - f) / 2) = e := by omega
    rw [ec]
    refine ⟨by omega, ?_, ?_⟩
    · rw [ee]
      exact g
    · rw [ee]
      exact dt
  · cases c with
    | nil =>
      have e : f = s.length := d
      omega
    | cons x r =>
      obtain ⟨h1, g, d⟩ := d
      refine ⟨f + 2 * x, clo_all P S C _ f _ (Nat.le_refl _) hf g, g, r, d, ?_⟩
      have e1 : (f + 2 * x - f) / 2 = x := by omega
      rw [e1]
theorem tl_end : Tl p s s.length [[]] := by
  refine ⟨by simp, fun c => ⟨fun h => ?_, fun d => ?_⟩⟩
  · rw [List.mem_singleton.mp h]
    exact rfl
  · cases c with
    | nil => exact List.mem_singleton.mpr rfl
    | cons x r =>
      have := d.2.1.2.1
      have := d.1
      omega

/-! ### the law's own rows, by their last gathering -/
def Pre (p s : List Int) (e : Nat) (css : List (List Nat)) : Prop := css.Nodup ∧ ∀ c, c ∈ css ↔ Dec p s 0 c e
theorem pre_zero : Pre p s 0 [[]] := by
  refine ⟨by simp, fun c => ⟨fun h => ?_, fun d => ?_⟩⟩
  · rw [List.mem_singleton.mp h]
    exact rfl
  · cases c with
    | nil => exact List.mem_singleton.mpr rfl
    | cons x r =>
      have a := Dec.le d.2.2
      have := d.1
      omega
/-- found so far, of the starts r, r + 2, .. (i of them) -/
def Pd (p s : List Int) (e i : Nat) (css : List (List Nat)) : Prop :=
  css.Nodup ∧ ∀ c, c ∈ css ↔ ∃ k, k < i ∧ G p s (e % 2 + 2 * k) e ∧ ∃ t, Dec p s 0 t (e % 2 + 2 * k) ∧ c = t ++ [(e - (e % 2 + 2 * k)) / 2]
theorem pd_nil (e : Nat) : Pd p s e 0 [] := ⟨List.nodup_nil, fun c => ⟨fun h => absurd h (by simp), fun ⟨k, hk, _⟩ => absurd hk (by omega)⟩⟩
theorem pd_skip {e i : Nat} {css : List (List Nat)} (h : Pd p s e i css) (g : ¬ G p s (e % 2 + 2 * i) e) : Pd p s e (i + 1) css :=
  ⟨h.1, fun c => (h.2 c).trans ⟨fun ⟨k, hk, r⟩ => ⟨k, by omega, r⟩, fun ⟨k, hk, r⟩ => by
    by_cases c : k = i
    · rw [c] at r
      exact absurd r.1 g
    · exact ⟨k, by omega, r⟩⟩⟩
theorem nodup_map_snoc (x : Nat) {css : List (List Nat)} (h : css.Nodup) : (css.map (· ++ [x])).Nodup :=
  List.pairwise_map.mpr (h.imp fun hne e => hne (List.append_cancel_right e))
theorem pd_more {e i : Nat} {css tss : List (List Nat)} (h : Pd p s e i css) (g : G p s (e % 2 + 2 * i) e) (t : Pre p s (e % 2 + 2 * i) tss) :
    Pd p s e (i + 1) (css ++ tss.map (· ++ [(e - (e % 2 + 2 * i)) / 2])) := by
  refine ⟨List.nodup_append.mpr ⟨h.1, nodup_map_snoc _ t.1, fun a ha b hb e1 => ?_⟩, fun c => ?_⟩
  · obtain ⟨k, hk, gk, u, _, ea⟩ := (h.2 a).mp ha
    obtain ⟨v, _, eb⟩ := List.mem_map.mp hb
    rw [ea, ← eb] at e1
    have h1 := (List.append_inj' e1 rfl).2
    have h2 := (List.cons.inj h1).1
    have a1 := gk.1
    have a2 := gk.2.2.1
    have b1 := g.1
    have b2 := g.2.2.1
    omega
  · constructor
    · intro hc
      rcases List.mem_append.mp hc with k | k
      · obtain ⟨x, hx, r⟩ := (h.2 c).mp k
        exact ⟨x, by omega, r⟩
      · obtain ⟨v, hv, ev⟩ := List.mem_map.mp k
        exact ⟨i, by omega, g, v, (t.2 v).mp hv, ev.symm⟩
    · rintro ⟨k, hk, gk, u, du, ec⟩
      by_cases c1 : k = i
      · rw [c1] at du ec
        rw [ec]
        exact List.mem_append_right _ (List.mem_map.mpr ⟨u, (t.2 u).mpr du, rfl⟩)
      · exact List.mem_append_left _ ((h.2 c).mpr ⟨k, by omega, gk, u, du, ec⟩)
theorem pd_all {e i : Nat} (h0 : 0 < e) (hi : e ≤ e % 2 + 2 * i) {css : List (List Nat)} (h : Pd p s e i css) : Pre p s e css := by
  refine ⟨h.1, fun c => (h.2 c).trans ⟨fun ⟨k, _, g, t, dt, ec⟩ => ?_, fun d => ?_⟩⟩
  · have a1 := g.1
    have a2 := g.2.2.1
    rw [ec]
    refine dec_app.mpr ⟨_, dt, by omega, ?_, ?_⟩
    · have ee : e % 2 + 2 * k + 2 * ((e - (e % 2 + 2 * k)) / 2) = e := by omega
      rw [ee]
      exact g
    · show e % 2 + 2 * k + 2 * ((e - (e % 2 + 2 * k)) / 2) = e
      omega
  · rcases List.eq_nil_or_concat c with e0 | ⟨u, x, e1⟩
    · rw [e0] at d
      have e2 : 0 = e := d
      omega
    · rw [List.concat_eq_append] at e1
      rw [e1] at d
      obtain ⟨k, d1, d2⟩ := dec_app.mp d
      obtain ⟨hx, g, d3⟩ := d2
      have ek : k + 2 * x = e := d3
      have e3 : e % 2 + 2 * ((k - e % 2) / 2) = k := by omega
      refine ⟨(k - e % 2) / 2, by omega, ?_, u, ?_, ?_⟩
      · rw [e3, ← ek]
        rw [ek] at g ⊢
        exact g
      · rw [e3]
        exact d1
      · rw [e3, e1]
        have e4 : (e - k) / 2 = x := by omega
        rw [e4]
end

/-! ### how many there are -/
def comps : Nat → List (List Nat)
  | 0 => [[]]
  | m + 1 => (comps m).map (1 :: ·) ++ (comps m).map (fun c => match c with | [] => [] | h :: r => (h + 1) :: r)
theorem comps_len : ∀ m, (comps m).length = 2 ^ m
  | 0 => rfl
  | m + 1 => by
    unfold comps
    rw [List.length_append, List.length_map, List.length_map, comps_len m, Nat.pow_succ]
    omega
theorem mem_comps : ∀ (m : Nat) (c : List Nat), (∀ x ∈ c, 1 ≤ x) → c.sum = m → c ∈ comps m
  | 0, c, hp, hs => by
    cases c with
    | nil => exact List.mem_singleton.mpr rfl
    | cons x r =>
      have a := hp x List.mem_cons_self
      have b : x + r.sum = 0 := hs
      omega
  | m + 1, c, hp, hs => by
    cases c with
    | nil =>
      have b : 0 = m + 1 := hs
      omega
    | cons x r =>
      have a := hp x List.mem_cons_self
      have b : x + r.sum = m + 1 := hs
      unfold comps
      by_cases c1 : x = 1
      · refine List.mem_append_left _ (List.mem_map.mpr ⟨r, mem_comps m r (fun y hy => hp y (List.mem_cons_of_mem _ hy)) (by omega), ?_⟩)
        rw [c1]
      · refine List.mem_append_right _ (List.mem_map.mpr ⟨(x - 1) :: r, mem_comps m ((x - 1) :: r) (fun y hy => ?_) ?_, ?_⟩)
        · rcases List.mem_cons.mp hy with e | hy
          · omega
          · exact hp y (List.mem_cons_of_mem _ hy)
        · show x - 1 + r.sum = m
          omega
        · show (x - 1 + 1) :: r = x :: r
          rw [show x - 1 + 1 = x by omega]
theorem len_le_of_sub {α : Type} [DecidableEq α] : ∀ (l m : List α), l.Nodup → (∀ x ∈ l, x ∈ m) → l.length ≤ m.length
  | [], m, _, _ => Nat.zero_le _
  | x :: r, m, hn, hs => by
    obtain ⟨h1, h2⟩ := List.nodup_cons.mp hn
    have hx := hs x List.mem_cons_self
    have ih := len_le_of_sub r (m.erase x) h2 fun y hy => (List.mem_erase_of_ne (fun e => h1 (by rw [← e]; exact hy))).mpr (hs y (List.mem_cons_of_mem _ hy))
    rw [List.length_erase_of_mem hx] at ih
    have : 0 < m.length := List.length_pos_of_mem hx
    show r.length + 1 ≤ m.length
    omega
section
variable {p s : List Int}
theorem dec_few {i j : Nat} {css : List (List Nat)} (hn : css.Nodup) (h : ∀ c ∈ css, Dec p s i c j) (hj : j ≤ 16) : css.length ≤ 256 := by
  have a := len_le_of_sub css (comps ((j - i) / 2)) hn fun c hc => mem_comps _ c (h c hc).pos (by
    have := (h c hc).sum
    omega)
  rw [comps_len] at a
  have b : 2 ^ ((j - i) / 2) ≤ 2 ^ 8 := Nat.pow_le_pow_right (by decide) (by omega)
  have c : (2 : Nat) ^ 8 = 256 := by decide
  omega
theorem tl_few {e : Nat} {css : List (List Nat)} (h : Tl p s e css) (hl : s.length ≤ 16) : css.length ≤ 256 := dec_few h.1 (fun c hc => (h.2 c).mp hc) hl
theorem fd_few {f : Nat} {es : List Nat} {css : List (List Nat)} (h : Fd p s f es css) (hl : s.length ≤ 16) : css.length ≤ 256 :=
  dec_few (p := p) (s := s) (i := f) (j := s.length) h.1 (fun c hc => by
    obtain ⟨e, _, g, t, dt, ec⟩ := (h.2 c).mp hc
    have a1 := g.1
    have a2 := g.2.2.1
    have ee : f + 2 * ((e - f) / 2) = e := by omega
    rw [ec]
    refine ⟨by omega, ?_, ?_⟩
    · rw [ee]
      exact g
    · rw [ee]
      exact dt) hl
theorem pre_few {e : Nat} {css : List (List Nat)} (h : Pre p s e css) (he : e ≤ 16) : css.length ≤ 256 := dec_few h.1 (fun c hc => (h.2 c).mp hc) he
theorem pd_few {e i : Nat} {css : List (List Nat)} (h : Pd p s e i css) (he : e ≤ 16) : css.length ≤ 256 :=
  dec_few (p := p) (s := s) (i := 0) (j := e) h.1 (fun c hc => by
    obtain ⟨k, _, g, t, dt, ec⟩ := (h.2 c).mp hc
    have a1 := g.1
    have a2 := g.2.2.1
    rw [ec]
    refine dec_app.mpr ⟨_, dt, by omega, ?_, ?_⟩
    · have ee : e % 2 + 2 * k + 2 * ((e - (e % 2 + 2 * k)) / 2) = e := by omega
      rw [ee]
      exact g
    · show e % 2 + 2 * k + 2 * ((e - (e % 2 + 2 * k)) / 2) = e
      omega) he
end
end Qm
end

section
set_option autoImplicit false
set_option Elab.async false
set_option maxRecDepth 100000
set_option maxHeartbeats 4000000
/-! The plain law, part 2: slices, looks, what is implied. -/
namespace Qm
def sl (s : List Int) (i j : Nat) : List Int := (s.drop i).take (j - i)
theorem sl_len {s : List Int} {i j : Nat} (h : j ≤ s.length) : (sl s i j).length = j - i := by
  unfold sl
  rw [List.length_take, List.length_drop]
  omega
theorem sl_sat {s : List Int} {i j k : Nat} (hk : k < j - i) : sat (sl s i j) k = sat s (i + k) := by
  unfold sl sat
  rw [List.getD_eq_getElem?_getD, List.getD_eq_getElem?_getD, List.getElem?_take, if_pos hk, List.getElem?_drop]
theorem sl_mem {s : List Int} {i j : Nat} {x : Int} (h : x ∈ sl s i j) : x ∈ s := List.mem_of_mem_drop (List.mem_of_mem_take h)
theorem G_sl {p s : List Int} {i j : Nat} (hij : i ≤ j) (hj : j ≤ s.length) : G p (sl s i j) 0 (sl s i j).length ↔ G p s i j := by
  rw [sl_len hj]
  unfold G
  rw [sl_len hj]
  constructor
  · rintro ⟨h1, h2, h3, h4⟩
    refine ⟨by omega, hj, by omega, fun k hk => ?_⟩
    have e := h4 k (by omega)
    rw [Nat.zero_add, sl_sat (by omega), sl_sat (by omega)] at e
    rw [e]
    congr 1
    omega
  · rintro ⟨h1, h2, h3, h4⟩
    refine ⟨by omega, Nat.le_refl _, by omega, fun k hk => ?_⟩
    have e := h4 k (by omega)
    rw [Nat.zero_add, sl_sat (by omega), sl_sat (by omega), e]
    congr 1
    omega

/-! ### looks -/
def cen : Nat → List Nat → List Nat
  | _, [] => []
  | i, h :: c => (i + h) :: cen (i + 2 * h) c
theorem cen_snoc : ∀ (c : List Nat) (i h : Nat), cen i (c ++ [h]) = cen i c ++ [i + 2 * c.sum + h]
  | [], i, h => rfl
  | x :: c, i, h => by
    show (i + x) :: cen (i + 2 * x) (c ++ [h]) = (i + x) :: (cen (i + 2 * x) c ++ [i + 2 * (x + c.sum) + h])
    rw [cen_snoc c, show i + 2 * x + 2 * c.sum + h = i + 2 * (x + c.sum) + h by omega]
theorem cen_range : ∀ {p s : List Int} (c : List Nat) {i j : Nat}, Dec p s i c j → ∀ x ∈ cen i c, i < x ∧ x < j
  | p, s, [], i, j, _, x, hx => absurd hx (by simp [cen])
  | p, s, h :: c, i, j, d, x, hx => by
    have l := d.2.2.le
    have h1 := d.1
    rcases List.mem_cons.mp hx with e | hx
    · omega
    · have := cen_range c d.2.2 x hx
      omega

section
variable {α : Type} [DecidableEq α] (T N Q : α)
/-- what is seen at all openings of a collation of n leaves -/
def looks (n : Nat) (c : List Nat) : List α := (List.range (n - 1)).map fun k => if k + 1 ∈ cen 0 c then T else N
theorem looks_len (n : Nat) (c : List Nat) : (looks T N n c).length = n - 1 := by
  unfold looks
  rw [List.length_map, List.length_range]
theorem looks_at {n : Nat} {c : List Nat} {k : Nat} (hk : k < n - 1) : (looks T N n c)[k]? = some (if k + 1 ∈ cen 0 c then T else N) := by
  unfold looks
  rw [List.getElem?_map, List.getElem?_range hk]
  rfl
theorem looks_two {n : Nat} {c : List Nat} {x : α} (h : x ∈ looks T N n c) : x = T ∨ x = N := by
  obtain ⟨k, _, e⟩ := List.mem_map.mp h
  by_cases c1 : k + 1 ∈ cen 0 c
  · rw [if_pos c1] at e
    exact .inl e.symm
  · rw [if_neg c1] at e
    exact .inr e.symm

/-- the observation k is not contradicted -/
def agk (o r : List α) (k : Nat) : Bool := decide (o.getD k Q = Q ∨ o.getD k Q = r.getD k Q)
def bad (o r : List α) : Nat := ((List.range o.length).filter fun k => !agk Q o r k).length
theorem bad_zero (o r : List α) : bad Q o r = 0 ↔ ∀ k, k < o.length → o.getD k Q = Q ∨ o.getD k Q = r.getD k Q := by
  unfold bad
  rw [List.length_eq_zero_iff, List.filter_eq_nil_iff]
  constructor
  · intro h k hk
    have := h k (List.mem_range.mpr hk)
    rw [Bool.not_eq_true', Bool.not_eq_false] at this
    exact of_decide_eq_true this
  · intro h k hk
    have q := h k (List.mem_range.mp hk)
    rw [Bool.not_eq_true', Bool.not_eq_false]
    exact decide_eq_true q
/-- the rows that agree -/
def rows (n : Nat) (css : List (List Nat)) (o : List α) : List (List α) := (css.map (looks T N n)).filter fun r => decide (bad Q o r = 0)
theorem rows_perm {n : Nat} {css dss : List (List Nat)} (h : css.Perm dss) (o : List α) : (rows T N Q n css o).Perm (rows T N Q n dss o) := (h.map _).filter _

/-- what is implied at place k, of rows: the one look of all of them, else what was seen -/
def impk (rs : List (List α)) (o : List α) (k : Nat) : α := if (∀ r ∈ rs, ∀ r' ∈ rs, r.getD k Q = r'.getD k Q) then (rs.headD []).getD k Q else o.getD k Q
def imp (rs : List (List α)) (o : List α) : List α := (List.range o.length).map (impk Q rs o)
theorem imp_len (rs : List (List α)) (o : List α) : (imp Q rs o).length = o.length := by
  unfold imp
  rw [List.length_map, List.length_range]
theorem imp_at {rs : List (List α)} {o : List α} {k : Nat} (hk : k < o.length) : (imp Q rs o).getD k Q = impk Q rs o k := by
  unfold imp
  rw [List.getD_eq_getElem?_getD, List.getElem?_map, List.getElem?_range hk]
  rfl
theorem impk_perm {rs qs : List (List α)} (h : rs.Perm qs) (hne : rs ≠ []) (o : List α) (k : Nat) : impk Q rs o k = impk Q qs o k := by
  unfold impk
  have e : (∀ r ∈ rs, ∀ r' ∈ rs, r.getD k Q = r'.getD k Q) ↔ ∀ r ∈ qs, ∀ r' ∈ qs, r.getD k Q = r'.getD k Q :=
    ⟨fun a r hr r' hr' => a r (h.mem_iff.mpr hr) r' (h.mem_iff.mpr hr'), fun a r hr r' hr' => a r (h.mem_iff.mp hr) r' (h.mem_iff.mp hr')⟩
  by_cases c : ∀ r ∈ rs, ∀ r' ∈ rs, r.getD k Q = r'.getD k Q
  · rw [if_pos c, if_pos (e.mp c)]
    cases rs with
    | nil => exact absurd rfl hne
    | cons a r =>
      cases qs with
      | nil =>
        have := h.length_eq
        simp at this
      | cons b q => exact c a List.mem_cons_self b (h.mem_iff.mpr List.mem_cons_self)
  · rw [if_neg c, if_neg fun z => c (e.mpr z)]
theorem imp_perm {rs qs : List (List α)} (h : rs.Perm qs) (hne : rs ≠ []) (o : List α) : imp Q rs o = imp Q qs o := by
  unfold imp
  exact List.map_congr_left fun k _ => impk_perm Q h hne o k

/-- with what is implied the same rows agree -/
theorem agree_imp {n : Nat} {css : List (List Nat)} {o : List α} (hne : rows T N Q n css o ≠ []) : rows T N Q n css (imp Q (rows T N Q n css o) o) = rows T N Q n css o := by
  generalize hR : rows T N Q n css o = R at hne ⊢
  have hR2 : R = (css.map (looks T N n)).filter fun r => decide (bad Q o r = 0) := hR.symm
  show (css.map (looks T N n)).filter (fun r => decide (bad Q (imp Q R o) r = 0)) = R
  have mem : ∀ r, r ∈ R ↔ r ∈ css.map (looks T N n) ∧ bad Q o r = 0 := fun r => by
    rw [hR2, List.mem_filter]
    exact ⟨fun h => ⟨h.1, of_decide_eq_true h.2⟩, fun h => ⟨h.1, decide_eq_true h.2⟩⟩
  have seen : ∀ r ∈ R, ∀ k, k < o.length → o.getD k Q = Q ∨ o.getD k Q = r.getD k Q := fun r hr => (bad_zero Q o r).mp ((mem r).mp hr).2
  have hd : R.headD [] ∈ R := by
    cases R with
    | nil => exact absurd rfl hne
    | cons a b => exact List.mem_cons_self
  conv => rhs; rw [hR2]
  refine List.filter_congr fun r hr => ?_
  refine decide_eq_decide.mpr ?_
  rw [bad_zero, bad_zero, imp_len]
  constructor
  · intro h k hk
    have q := h k hk
    rw [imp_at Q hk] at q
    unfold impk at q
    have s0 := seen _ hd k hk
    by_cases c : ∀ r ∈ R, ∀ r' ∈ R, r.getD k Q = r'.getD k Q
    · rw [if_pos c] at q
      rcases s0 with s0 | s0
      · exact .inl s0
      · rw [s0]
        exact q
    · rw [if_neg c] at q
      exact q
  · intro h k hk
    have hm : r ∈ R := (mem r).mpr ⟨hr, (bad_zero Q o r).mpr h⟩
    rw [imp_at Q hk]
    unfold impk
    by_cases c : ∀ r ∈ R, ∀ r' ∈ R, r.getD k Q = r'.getD k Q
    · rw [if_pos c]
      exact .inr (c _ hd _ hm)
    · rw [if_neg c]
      exact h k hk
theorem imp_imp (rs : List (List α)) (o : List α) : imp Q rs (imp Q rs o) = imp Q rs o := by
  show (List.range (imp Q rs o).length).map (impk Q rs (imp Q rs o)) = (List.range o.length).map (impk Q rs o)
  rw [imp_len]
  refine List.map_congr_left fun k hk => ?_
  have hk2 := List.mem_range.mp hk
  show impk Q rs (imp Q rs o) k = impk Q rs o k
  unfold impk
  by_cases c : ∀ r ∈ rs, ∀ r' ∈ rs, r.getD k Q = r'.getD k Q
  · rw [if_pos c, if_pos c]
  · rw [if_neg c, if_neg c, imp_at Q hk2]
    unfold impk
    rw [if_neg c]
/-- what is due: the one look of all rows, else Q; where the looks differ nobody looked -/
theorem due_imp {n : Nat} {css : List (List Nat)} {o : List α} (hne : rows T N Q n css o ≠ []) {k : Nat} (hk : k < o.length) (c : ¬ ∀ r ∈ rows T N Q n css o, ∀ r' ∈ rows T N Q n css o, r.getD k Q = r'.getD k Q) : impk Q (rows T N Q n css o) o k = Q := by
  unfold impk
  rw [if_neg c]
  apply Classical.byContradiction
  intro ne
  refine c fun r hr r' hr' => ?_
  have a := (bad_zero Q o r).mp (of_decide_eq_true (List.mem_filter.mp hr).2) k hk
  have b := (bad_zero Q o r').mp (of_decide_eq_true (List.mem_filter.mp hr').2) k hk
  rcases a with a | a
  · exact absurd a ne
  · rcases b with b | b
    · exact absurd b ne
    · rw [← a, ← b]
/-- a list without repeats whose members are the values of f over rs: one long exactly if all are alike -/
theorem one_iff {β : Type} {rs : List β} {ys : List α} {f : β → α} (hn : ys.Nodup) (hm : ∀ t, t ∈ ys ↔ ∃ r ∈ rs, f r = t) (hne : rs ≠ []) : ys.length = 1 ↔ ∀ r ∈ rs, ∀ r' ∈ rs, f r = f r' := by
  constructor
  · intro h r hr r' hr'
    have a := (hm (f r)).mpr ⟨r, hr, rfl⟩
    have b := (hm (f r')).mpr ⟨r', hr', rfl⟩
    match ys, h with
    | [y], _ => rw [List.mem_singleton.mp a, List.mem_singleton.mp b]
  · intro h
    match ys, hn with
    | [], _ =>
      cases rs with
      | nil => exact absurd rfl hne
      | cons r q => exact absurd ((hm (f r)).mpr ⟨r, List.mem_cons_self, rfl⟩) (by simp)
    | [y], _ => rfl
    | y :: z :: q, hn =>
      exfalso
      obtain ⟨r, hr, e⟩ := (hm y).mp List.mem_cons_self
      obtain ⟨r', hr', e'⟩ := (hm z).mp (List.mem_cons_of_mem _ List.mem_cons_self)
      have yz : y = z := by rw [← e, ← e', h r hr r' hr']
      rw [yz] at hn
      exact (List.nodup_cons.mp hn).1 List.mem_cons_self
end
end Qm
end

section
set_option Elab.async false
set_option linter.all false
set_option maxRecDepth 100000
set_option maxHeartbeats 4000000
/-! enumerate(t) of a tuple, in a for. -/
namespace Qe
open PySem PySem.Spec PyProof.Rows L2

theorem meets_enumT (l : Addr) (items : Array Value) :
    Meets (Builtin.«enumerate.__new__» ⟨[.type "enumerate", .ref l], []⟩) (fun _ R s => s.heap.IsTuple l items ∧
      R (.ok (.ret (.ref (s.heap.push { cls := .type "tuple_iterator", data := .fields #[.ref l, .int 0 0] }).objs.size)))
        { s with heap := (s.heap.push { cls := .type "tuple_iterator", data := .fields #[.ref l, .int 0 0] }).push { cls := .type "enumerate", data := .fields #[.none, .bool false, .ref s.heap.objs.size, rawInt 0, .none, .none] } }) :=
  .of_wp fun prog w A R s hyp => by
    obtain ⟨hp, g, d, tk, os⟩ := s
    obtain ⟨tup, cont⟩ := hyp
    have hsub := sub_enumerate
    have it0 : ∀ {A' : Around} {E : Value → Shared → Prop} {Q : Value → Shared → Prop}, Q (.ref hp.objs.size) ⟨hp.push { cls := .type "tuple_iterator", data := .fields #[.ref l, .int 0 0] }, g, d, tk, os⟩ → wpAny (model prog w) A' (pyIter (.ref l)) Q E ⟨hp, g, d, tk, os⟩ :=
      fun q => (begins_tuple l items).iter prog w _ _ ⟨hp, g, d, tk, os⟩ _ tup q
    wp_walk using it0
    refine wpAny_stack_any fun st => wpAny_pure ?_
    split
    · rename_i c _ _ _ _ _
      cases (c == Value.type "enumerate")
      · wp_walk using it0
        exact ⟨_, rfl, cont⟩
      · wp_walk using it0
        exact ⟨_, rfl, cont⟩
    · wp_walk using it0
      exact ⟨_, rfl, cont⟩

section
variable {prog : Program} {w : World} {A : Around} {E : Value → Shared → Prop} {s : Shared}
theorem call_enumT {l : Addr} {items : Array Value} {Q : Value → Shared → Prop} (tup : s.heap.IsTuple l items)
    (cont : ∀ h', IsEnum h' (s.heap.objs.size + 1) s.heap.objs.size 0 .none → h'.IsTupleIter s.heap.objs.size l 0 →
      (∀ b o, s.heap.get? b = some o → h'.get? b = some o) → Q (.ref (s.heap.objs.size + 1)) { s with heap := h' }) :
    wpAny (model prog w) A (call (.type "enumerate") [.ref l]) Q E s := by
  refine callType_new F.called_enumerate (by decide) (F.typeCall_enumerate_1 _) (F.newCall_enumerate_1 _) (fun obj => F.args_object_init_2 obj _) F.entry_enumerate_new
    (meets_enumT l items) ⟨tup, ?_⟩
  have hz : (s.heap.push { cls := .type "tuple_iterator", data := .fields #[.ref l, .int 0 0] }).objs.size = s.heap.objs.size + 1 := Heap.size_push ..
  show _ ∧ _
  rw [hz]
  have he : IsEnum ((s.heap.push { cls := .type "tuple_iterator", data := .fields #[.ref l, .int 0 0] }).push
      { cls := .type "enumerate", data := .fields #[.none, .bool false, .ref s.heap.objs.size, rawInt 0, .none, .none] }) (s.heap.objs.size + 1) s.heap.objs.size 0 .none := by
    have := Heap.get?_push_size (s.heap.push { cls := .type "tuple_iterator", data := .fields #[.ref l, .int 0 0] })
      (o := { cls := .type "enumerate", data := .fields #[.none, .bool false, .ref s.heap.objs.size, rawInt 0, .none, .none] }) rfl
    rw [hz] at this
    exact this
  exact ⟨⟨_, he, rfl⟩, cont _ he ⟨_, Heap.get?_push_of_some _ (Heap.get?_push_size _ rfl), rfl, rfl⟩ fun b o x => Heap.get?_push_of_some _ (Heap.get?_push_of_some _ x)⟩
end

/-- the tuple at a as it stands at each turn, its items in new pairs behind their places -/
def IteT (K : PySem.W.Frag) (a : Addr) : It where
  go := fun i H => ∃ (xs : List V) (x : V), SqT K H a xs ∧ xs[i]? = some x
  yld := fun i H v H' => ∃ T x, v = .ref T ∧ H T = none ∧ H' = upd H T (.tup [.int (i : Nat), x]) ∧ ∀ xs, SqT K H a xs → xs[i]? = some x
  stop := fun i H => ∃ xs : List V, SqT K H a xs ∧ i = xs.length

theorem turn_enumT {P : Program} {w : World} {K : PySem.W.Frag} {elts : List Expr} {kk : Nat} {tpos : Pos} (a e it : Addr) :
    Turn P w K (.Tuple elts kk tpos) (IteT K a) [e, it] e (fun i h => (∃ old, IsEnum h e it ((i : Nat) : Int) old) ∧ h.IsTupleIter it a i ∧ e ≠ it ∧ a ≠ it ∧ a ≠ e) where
  mem := by simp
  obj := fun i h st b hb => by
    obtain ⟨⟨old, he⟩, ⟨o, ho, hc, hd⟩, _⟩ := st
    have two : b = e ∨ b = it := by simpa using hb
    rcases two with z | z
    · rw [z]
      exact ⟨_, he, fun v q => nomatch q⟩
    · rw [z]
      exact ⟨o, ho, fun v q => by rw [hd] at q; cases q⟩
  keep := fun i h h' st k => by
    obtain ⟨⟨old, he⟩, hi, r⟩ := st
    exact ⟨⟨old, k e (by simp) _ he⟩, hi.at fun o q => k it (by simp) o q, r⟩
  item := by
    intro X hP hw hK hc i pins s σ H E I hf st hg
    subst hP hw hK
    obtain ⟨⟨old, he⟩, hit, hne, hai, hae⟩ := st
    obtain ⟨xs, x, hq, hx⟩ := hg
    obtain ⟨its, rv, p, hz⟩ := I.tuple hq
    obtain ⟨u, hu, ru⟩ := rv.get hx
    have hel : e < s.heap.objs.size := Heap.lt_size he
    have hil : it < s.heap.objs.size := by
      obtain ⟨_, q, _⟩ := hit
      exact Heap.lt_size q
    have hh : X.A.in1.handled = none := by simp [I.ok.hd hc]
    have hlt : i < its.toArray.size := by
      have := (List.getElem?_eq_some_iff.mp hu).1
      simpa using this
    refine wpAny_pyNext_enum_itemC (Draws.tuple hh it a hai its.toArray) he ⟨hit, p⟩ hlt hne (by simp [hne, hae.symm]) fun y h' tk hy ho hs' hT hsz hk => ?_
    have ey : y = u := by
      have q : its[i]? = some y := by simpa using hy
      rw [hu] at q
      exact (Option.some.inj q).symm
    subst ey
    refine ⟨_, rfl, wpAny_letOwnedTupleGo_enum (s := { s with heap := h', toks := tk + 1 }) ho fun h'' he' sb => ?_⟩
    have hT2 : h''.get? s.heap.objs.size = some { cls := .type "tuple", data := .seq #[.int i tk, y] } := (sb.2 _ (Nat.ne_of_gt hel)).trans hT
    have new : ObjOk X.prog X.w (upd H s.heap.objs.size (.tup [.int (i : Nat), x])) h'' s.heap.objs.size (.tup [.int (i : Nat), x]) :=
      ⟨by show 2 ≤ sizeLine; decide, [.int i tk, y], .cons ⟨_, rfl⟩ (.cons ru .nil), ⟨_, hT2, rfl, _, rfl⟩⟩
    have I1 : Inv X pins σ (upd H s.heap.objs.size (.tup [.int (i : Nat), x])) { s with heap := h'', toks := tk + 1 } :=
      I.turnedNew (ch := [e, it]) (fun b ob hb q => (sb.2 b (fun z => hb (by simp [z]))).trans (hk b ob (fun z => hb (by simp [z])) (fun z => hb (by simp [z])) q)) hf (Nat.le_refl _) new
    refine ⟨.ref s.heap.objs.size, _, I1, rfl, ⟨_, x, rfl, I.hok.fresh (Nat.le_refl _), rfl, fun ys hy => by rw [I.tuple_inj hy hq]; exact hx⟩, ⟨⟨y, ?_⟩, hs'.1.at fun o q => (sb.2 it (Ne.symm hne)).trans q, hne, hai, hae⟩, fun b hb => ?_⟩
    · have e1 : ((i + 1 : Nat) : Int) = (i : Int) + 1 := by omega
      rw [e1]
      exact he'
    · have hb' : b < s.heap.objs.size := by
        have two : b = e ∨ b = it := by simpa using hb
        rcases two with z | z
        · rw [z]
          exact hel
        · rw [z]
          exact hil
      rw [upd_ne (Nat.ne_of_lt hb')]
      exact (hf b hb).1
  done := by
    intro X hP hw hK hc i pins s σ H E I hf st hg
    subst hP hw hK
    obtain ⟨⟨old, he⟩, hit, hne, hai, hae⟩ := st
    obtain ⟨xs, hq, hx⟩ := hg
    obtain ⟨its, rv, p, hz⟩ := I.tuple hq
    obtain ⟨f0, f1, f2, f3, f4, f5⟩ := hf it (by simp)
    have hl := rv.length
    have hh : X.A.in1.handled = none := by simp [I.ok.hd hc]
    have ei : its.toArray.size = i := by
      rw [List.size_toArray]
      omega
    have D := Draws.tuple (prog := X.prog) (w := X.w) hh it a hai its.toArray
    rw [ei] at D
    exact wpAny_pyNext_enum_endD D he ⟨hit, p⟩ fun h' eb => ⟨rfl, I.turned (t' := s.toks) (fun b o hb q => eb b o hb q) f0 f1 f3 f4 f5⟩
  self := fun A i s Q E st h => let ⟨⟨_, he⟩, _⟩ := st; wpAny_pyIter_enum he h

def iEnumT (K : PySem.W.Frag) (ta : TA) : TI := fun σ H R => ta σ H fun vs H1 => ∃ a xs, vs = [.ref a] ∧ SqT K H1 a xs ∧ R (IteT K a) H1
theorem pi_enumT {X : Cx} {e : Expr} {ta : TA} {p pos tpos : Pos} {elts : List Expr} {kk : Nat} (hg : Gl X "enumerate") (hm : X.mg "enumerate" = none) (ha : PA X [e] ta) (hs : starEach [e] X.env = [(false, eval e X.env)] := by rfl) :
    PI X (.Tuple elts kk tpos) (.Call (.Name "enumerate" p) [e] [] pos) (iEnumT X.K ta) := by
  refine ⟨fun pins s σ H R I h => ?_⟩
  refine Call_ (ld_blt I hg hm boot_enumerate (PyProof.Rows.callWith_type1 (thn (ha.run pos pins s σ H _ I h) fun us s1 ⟨vs, H1, I1, r1, q1⟩ => ?_) hs rfl))
  obtain ⟨a, xs, ex, hq, q⟩ := q1
  subst ex
  cases r1 with
  | cons r rr =>
    cases rr
    cases r
    obtain ⟨its, rv, p', hz⟩ := I1.tuple hq
    have hal : a < s1.heap.objs.size := by
      obtain ⟨_, q, _⟩ := id p'
      exact Heap.lt_size q
    refine call_enumT (show s1.heap.IsTuple a its.toArray from p') fun h' he hit hk => wpAny_pyIter_enum he ?_
    have I2 : Inv X pins σ H1 { s1 with heap := h' } := I1.kept (t' := s1.toks) hk
    refine ⟨s1.heap.objs.size + 1, [s1.heap.objs.size + 1, s1.heap.objs.size], _, _, H1, rfl, I2, turn_enumT a (s1.heap.objs.size + 1) s1.heap.objs.size, ⟨⟨.none, he⟩, hit, Nat.succ_ne_self _, Nat.ne_of_lt hal, Nat.ne_of_lt (Nat.lt_succ_of_lt hal)⟩, fun b hb => ?_, q⟩
    have two : b = s1.heap.objs.size + 1 ∨ b = s1.heap.objs.size := by simpa using hb
    have hle : s1.heap.objs.size ≤ b := by
      rcases two with z | z
      · rw [z]
        exact Nat.le_add_right _ _
      · rw [z]
        exact Nat.le_refl _
    exact I1.fpOk hle (I1.hok.fresh hle)
theorem walk_enumT {K : PySem.W.Frag} {a : Addr} {xs : List V} : Walk (IteT K a) xs.length (fun H => SqT K H a xs) (YPair (fun i => some (.int (i : Nat))) (fun i => xs[i]?)) := by
  refine ⟨fun i _ hi q => ⟨xs, xs[i], q, by simp [hi]⟩, fun _ q => ⟨xs, q, rfl⟩, fun i H v H' _ q y => ?_⟩
  obtain ⟨T, x, h1, h2, h3, h4⟩ := y
  exact ⟨T, .int (i : Nat), x, h1, h2, h3, rfl, h4 xs q⟩
end Qe
end

section
set_option Elab.async false
set_option linter.all false
set_option maxRecDepth 100000
set_option maxHeartbeats 4000000
/-! t[::-1] of a tuple; name = {k: v for x in xs}. -/
namespace Qr
open PySem PySem.Spec PyProof.Rows L2

theorem fm_congr {α β : Type} {f g : α → Option β} : ∀ {l : List α}, (∀ x ∈ l, f x = g x) → l.filterMap f = l.filterMap g
  | [], _ => rfl
  | x :: r, e => by
    rw [List.filterMap_cons, List.filterMap_cons, e x List.mem_cons_self, fm_congr fun y hy => e y (List.mem_cons_of_mem _ hy)]
theorem pick_back (xs : Array Value) : (List.range xs.size).filterMap (fun (k : Nat) => xs[(((xs.size : Int) - 1) + (k : Int) * (-1)).toNat]?) = xs.toList.reverse := by
  have e : (List.range xs.size).filterMap (fun (k : Nat) => xs[(((xs.size : Int) - 1) + (k : Int) * (-1)).toNat]?) = ((List.range xs.size).map (fun k => xs.size - 1 - k)).filterMap (xs[·]?) := by
    rw [List.filterMap_map]
    refine fm_congr fun k hk => ?_
    have hk' := List.mem_range.mp hk
    have e1 : (((xs.size : Int) - 1) + (k : Int) * (-1)).toNat = xs.size - 1 - k := by omega
    rw [e1]
    rfl
  rw [e, PySem.W.krv_range, List.filterMap_reverse, PySem.W.krv_all]
theorem places_back (n : Nat) : Builtin.Slice.slicePlaces ((n : Int) - 1) (-1) (-1) = n := by
  unfold Builtin.Slice.slicePlaces
  rw [if_neg (by decide)]
  by_cases h : (n : Int) - 1 > -1
  · rw [if_pos h]
    have e : ((n : Int) - 1 - -1 - 1) / (- -1) = (n : Int) - 1 := by
      rw [show (- -1 : Int) = 1 by decide, Int.ediv_one]
      omega
    rw [e]
    omega
  · rw [if_neg h]
    omega
theorem adjust_back (n : Nat) : Builtin.Slice.sliceAdjust none none (-1) (n : Int) = ((n : Int) - 1, -1) := by
  unfold Builtin.Slice.sliceAdjust
  dsimp only
  rw [if_pos (by decide), if_pos (by decide)]
  rfl
section
variable {prog : Program} {w : World} {A : Around} {E : Value → Shared → Prop} {s : Shared}
theorem sliceApplied_back {sl : Addr} {vl vu vs : Value} {n : Nat} {Q : Int × Int × Nat → Shared → Prop} (hs : s.heap.IsSliceOf sl vl vu vs) (pl : IsPart vl none) (pu : IsPart vu none) (ps : IsPart vs (some (-1)))
    (cont : Q ((n : Int) - 1, -1, n) s) : wpAny (model prog w) A (Builtin.Slice.sliceApplied (.ref sl) (pure (n : Int))) Q E s := by
  obtain ⟨os, hos, hcs, hds⟩ := id hs
  unfold Builtin.Slice.sliceApplied Builtin.Slice.sliceFields
  refine wpAny_bind (wpAny_bind (wpAny_field hos hds (x := vl) rfl (wpAny_bind (wpAny_field hos hds (x := vu) rfl (wpAny_bind (wpAny_field hos hds (x := vs) rfl (wpAny_pure ?_)))))))
  refine wpAny_bind (HT.slicePart_ ps ?_)
  show wpAny _ _ (if ((-1 : Int) == 0) = true then _ else _) _ _ s
  rw [if_neg (by decide)]
  refine wpAny_bind (HT.slicePart_ pl (wpAny_bind (HT.slicePart_ pu (wpAny_bind (wpAny_pure ?_)))))
  show wpAny _ _ (match Builtin.Slice.sliceAdjust none none (-1) (n : Int) with | (lo, hi) => pure (lo, (-1 : Int), Builtin.Slice.slicePlaces lo hi (-1))) _ _ s
  rw [adjust_back n]
  show wpAny _ _ (pure ((n : Int) - 1, (-1 : Int), Builtin.Slice.slicePlaces ((n : Int) - 1) (-1) (-1))) _ _ s
  rw [places_back]
  exact wpAny_pure cont
theorem getItem_tuple_back {t sl : Addr} {items : Array Value} {vl vu vs : Value} {Q : Value → Shared → Prop} (ht : IsTup s.heap t items) (hs : s.heap.IsSliceOf sl vl vu vs) (pl : IsPart vl none) (pu : IsPart vu none) (ps : IsPart vs (some (-1)))
    (hz : items.size ≤ sizeLine) (cont : Q (.ref s.heap.objs.size) { s with heap := s.heap.push { cls := .type "tuple", data := .seq items.toList.reverse.toArray } }) : wpAny (model prog w) A (getItem (.ref t) (.ref sl)) Q E s := by
  obtain ⟨os, hos, hcs, hds⟩ := id hs
  have hTs : s.TypeIs (.ref sl) "slice" := ⟨os, hos, hcs⟩
  unfold getItem
  try with_reducible refine wpAny_holding ?_
  first | refine wpAny_bind (wpAny_pure ?_) | skip
  refine wpAny_bind (wpAny_sequenceKey ht.typeIs (by decide) ?_)
  refine wpAny_bind (wpAny_callSpecial?_slot (name := Str.ofString "__getitem__") ht.typeIs PyProof.Rows.slot_tuple_getitem
    (wpAny_call_entry PyProof.Rows.slot_tuple_getitem ht.typeIs entry_tuple_getitem ?_ (args_tuple_getitem _ _)))
  show wpAny _ _ (Builtin.Tuple.tupleItemsOf (.ref t) >>= _) _ _ s
  refine wpAny_bind (tupleItemsOf_ ht ?_)
  refine wpAny_bind (wpAny_typeOf hTs ?_)
  rw [if_pos (by decide)]
  refine wpAny_bind (sliceApplied_back hs pl pu ps ?_)
  have no : (((items.size : Int) - 1) == 0 && (-1 : Int) == 1 && items.size == items.size) = false := by
    rw [show ((-1 : Int) == 1) = false by decide, Bool.and_false, Bool.false_and]
  show wpAny _ _ (if (((items.size : Int) - 1) == 0 && (-1 : Int) == 1 && items.size == items.size) = true then _ else _) _ _ s
  rw [no, if_neg Bool.false_ne_true]
  show wpAny _ _ (Builtin.Tuple.tupleExact ((List.range items.size).filterMap fun (k : Nat) => items[(((items.size : Int) - 1) + (k : Int) * (-1)).toNat]?).toArray >>= _) _ _ s
  rw [pick_back]
  unfold Builtin.Tuple.tupleExact
  exact wpAny_bind (wpAny_newObj_type (wpAny_pure ⟨_, rfl, wpAny_pure cont⟩) (by
    have e : items.toList.reverse.toArray.size ≤ sizeLine := by simpa using hz
    exact e))
end
def tRevT (K : PySem.W.Frag) (te : TE) : TE := fun σ H Q => te σ H fun x H1 => ∃ a xs, x = .ref a ∧ SqT K H1 a xs ∧ ∀ p, H1 p = none → Q (.ref p) (upd H1 p (.tup xs.reverse))
section
variable {X : Cx}
theorem pe_revT {e : Expr} {te : TE} {k : Nat} {p1 p2 p3 pos : Pos} (he : PE X e te) : PE X (.Subscript e (.Slice none none (some (.UnaryOp .USub (.Constant (.int 1) k p1) p2)) p3) pos) (tRevT X.K te) := by
  refine ⟨fun pins s σ H Q I hyp => ?_⟩
  refine Subscript_ (thn (he.run pins s σ H _ I hyp) fun v s1 ⟨x, H1, I1, r1, q1⟩ => ?_)
  obtain ⟨a, xs, ex, hx, q⟩ := q1
  subst ex
  cases r1
  have minus : PO X (some (.UnaryOp .USub (.Constant (.int 1) k p1) p2)) (tPart (tUn (rU fun i => .int (-i)) (tC (.int 1)))) := po_some (pe_un un_neg pe_int)
  refine wpAny_Slice (thn (po_none.run pins s1 σ H1 (fun o H2 => o = none ∧ H2 = H1) I1 ⟨rfl, rfl⟩) fun vl s2 ⟨l, H2, I2, pl, el, e2⟩ => ?_)
  subst el e2
  refine thn (po_none.run pins s2 σ H2 (fun o H3 => o = none ∧ H3 = H2) I2 ⟨rfl, rfl⟩) fun vu s3 ⟨u, H3, I3, pu, eu, e3⟩ => ?_
  subst eu e3
  refine thn (minus.run pins s3 σ H3 (fun o H4 => o = some (-1) ∧ H4 = H3) I3 ⟨1, rfl, -1, rfl, rfl, rfl⟩) fun vs s4 ⟨o, H4, I4, ps, eo, e4⟩ => ?_
  subst eo e4
  have I5 : Inv X pins σ H4 { s4 with heap := s4.heap.push { cls := .type "slice", data := .fields #[vl, vu, vs] } } := I4.kept (t' := s4.toks) fun b ob q => Heap.get?_push_of_some _ q
  obtain ⟨its, r, ht, hz⟩ := I5.tuple hx
  have hlen := r.length
  obtain ⟨oT, hoT, hcT, nT, hdT⟩ := id ht
  show wpAny (model X.prog X.w) X.A (subscriptTail e (.Slice none none (some (.UnaryOp .USub (.Constant (.int 1) k p1) p2)) p3) (.ref a) (.ref s4.heap.objs.size)) (EP X pins σ Q) X.xe { s4 with heap := s4.heap.push { cls := .type "slice", data := .fields #[vl, vu, vs] } }
  refine tail_any (ops := [.ref a, .ref s4.heap.objs.size]) ht.typeIs (PyProof.Rows.slot_tuple_getitem.lookup) ?_ (by with_unfolding_all rfl)
  refine getItem_tuple_back ht (Heap.IsSliceOf.new _ vl vu vs) pl pu ps (by rw [List.size_toArray]; omega) ?_
  refine ⟨.ref _, _, I5.laid (t' := s4.toks) (o := .tup xs.reverse) (fun b ob q => Heap.get?_push_of_some _ q) (Nat.le_refl _) ?_, rfl, q _ (I5.hok.fresh (Nat.le_refl _))⟩
  refine ⟨by rw [List.length_reverse]; exact hz, its.reverse, r.reverse, ⟨_, Heap.get?_push_size _ rfl, rfl, 0, ?_⟩⟩
  simp

/-! name = {k: v for x in xs} on one line -/
theorem ps_setDc {i : Nat} {y : Str} {py : Pos} {kx vx tg iter : Expr} {ifs : List Expr} {scope : Scope} {own : List (Str × Nat)} {pos spos : Pos} {wi : TI} {g : TG} {tt : TT} {tk tv : TE} (hc : X.calm = true) (hN : X.N.Nodup) (hy : X.N[i]? = some y) (hyl : X.env.scope.names.lookup y = some .local)
    (hsw : swapsWith (.DictComp kx vx [⟨tg, iter, ifs, 0⟩] scope pos) (some (.Name y py)) spos.line X.env = pure true) (hi : PI X tg iter wi) (ok : BlkOk X.N X.env.scope scope own)
    (hg : ∀ (s : Shared) (H : Hp) (C : Addr) (cl : List (Str × Addr)) (fp : List Addr), PG (X.blk s H scope (compEnvC scope cl C X.env) fp) tg g) (ht : ∀ (s : Shared) (H : Hp) (C : Addr) (cl : List (Str × Addr)) (fp : List Addr), PTs (X.blk s H scope (compEnvC scope cl C X.env) fp) ifs tt)
    (hk : ∀ (s : Shared) (H : Hp) (C : Addr) (cl : List (Str × Addr)) (fp : List Addr), PE (X.blk s H scope (compEnvC scope cl C X.env) fp) kx tk)
    (he : ∀ (s : Shared) (H : Hp) (C : Addr) (cl : List (Str × Addr)) (fp : List Addr), PE (X.blk s H scope (compEnvC scope cl C X.env) fp) vx tv) (hs : ∀ x, foldedSetIterable iter X.env x = pure x := by intro _; rfl) :
    PS X (.Assign [.Name y py] (.DictComp kx vx [⟨tg, iter, ifs, 0⟩] scope pos) spos) (tAsg (tDc wi g tt tk tv (own.map (·.2))) (gName i)) := by
  refine ⟨fun pins s σ H D I hyp => ?_⟩
  rw [exec_Assign_Name_used _ _ _ _ hsw]
  refine wpAny_bind (wpAny_standAt (wpAny_bind ?_))
  show wpAny _ X.A (do let _ ← comprehension (.DictComp kx vx [⟨tg, iter, ifs, 0⟩] scope pos) scope X.env (firstIterPos [⟨tg, iter, ifs, 0⟩] pos) newDict false (eval iter X.env) (some (assign (.Name y py) X.env))) _ _ s
  have hyp : tDc wi g tt tk tv (own.map (·.2)) σ H (fun x H1 => gName i x σ H1 D.nx) := hyp
  refine wpAny_bind (thn (dc_core (Qf := fun _ s' => SP X pins D .next s') hc hN I hi ok hg ht hk he hs hyp fun L C s' m H' I' q hn f => ?_) fun _ s' hq => wpAny_pure (wpAny_pure hq))
  show wpAny _ _ (assign (.Name y py) X.env (.ref L)) _ _ _
  refine wpAny_assign_Name (store_ok2 (v := V.ref L) I' hN hy (.inl hyl) rfl (fun s2 I2 ⟨a, sb, ha⟩ => ?_) (.inr hyl))
  obtain ⟨f0, f1, f2, f3, f4, f5⟩ := f
  have haC : C ≠ a := by
    rcases ha with z | z
    · rw [z]
      exact f1
    · exact fun e => f4 y a z e.symm
  refine ⟨m, hn.sameBut sb haC, fun h3 sb3 => ?_⟩
  exact ⟨_, H', I2.turned (t' := s2.toks) (fun b o hb e => (sb3.2 b hb).trans e) f0 f1 f3 f4 f5, q⟩
theorem sw_trueD {kx vx : Expr} {gs : List Comprehension} {scope : Scope} {pos py : Pos} {y : Str} {l : Nat} {env : Env} (hk : env.scope.kind = .function) (hy : env.scope.names.lookup y = some .local) (hl : (py.line == pos.line) = true)
    (ha : (scope.names.any fun (n, k) => n == y && (k == .local || k == .cell)) = false) : swapsWith (.DictComp kx vx gs scope pos) (some (.Name y py)) l env = pure true := by
  have ky : env.kindOf y = some .local := hy
  have hb : env.blockKind = .function := by
    unfold Env.blockKind
    rw [hk]
    rfl
  unfold swapsWith
  simp only [hb, ky, ha, Expr.pos, hl]
  rfl
/-- a dict comprehension over a walk -/
theorem dc_it {J : It} {n : Nat} {G : Hp → Prop} {Y : Nat → Hp → V → Hp → Prop} (w : Walk J n G Y) {g : TG} {tt : TT} {tk tv : TE} {vs : List Nat} {σ : L2.St} {H1 : Hp} {D : Addr} {Qd : Hp → Prop} (Pv : Nat → Hp → Prop) (h0 : Pv 0 (upd H1 D (.dK []))) (hG : ∀ i H, i ≤ n → Pv i H → G H)
    (hs : ∀ i x H H', i < n → Pv i H → Y i H x H' → g x (wipe σ vs) H' fun σ2 H2 => wipe σ2 vs = wipe σ vs ∧ tt σ2 H2 fun b H3 =>
      if b = true then tk σ2 H3 fun y H4 => tv σ2 H4 fun z H5 => ∃ kvs k, y = kV k ∧ H5 D = some (.dK kvs) ∧ kvs.length < sizeLine ∧ Pv (i + 1) (upd H5 D (.dK (putK kvs k z))) else Pv (i + 1) H3) (hd : ∀ H, Pv n H → Qd H) :
    ∃ W : Nat → Nat → Hp → Prop, (∃ m, W 0 m (upd H1 D (.dK []))) ∧ ∀ i m H, W i m H →
      (J.stop i H ∧ Qd H) ∨ (J.go i H ∧ ∃ Nx : Hp → Prop, (∀ H', Nx H' → ∃ m', m' < m ∧ W (i + 1) m' H') ∧ ∀ x H', J.yld i H x H' → g x (wipe σ vs) H' fun σ2 H2 => wipe σ2 vs = wipe σ vs ∧ tt σ2 H2 fun b H3 =>
        if b = true then tk σ2 H3 fun y H4 => tv σ2 H4 fun z H5 => ∃ kvs k, y = kV k ∧ H5 D = some (.dK kvs) ∧ kvs.length < sizeLine ∧ Nx (upd H5 D (.dK (putK kvs k z))) else Nx H3) := by
  refine ⟨fun i m H => m = n - i ∧ i ≤ n ∧ Pv i H, ⟨n, by simp, Nat.zero_le _, h0⟩, ?_⟩
  rintro i m H ⟨rfl, hi, p⟩
  have q := hG i H hi p
  by_cases hlt : i < n
  · exact .inr ⟨w.goes i H hlt q, Pv (i + 1), fun H' p' => ⟨n - (i + 1), by omega, rfl, hlt, p'⟩, fun x H' y => hs i x H H' hlt p (w.yields i H x H' hlt q y)⟩
  · have e : i = n := by omega
    subst e
    exact .inl ⟨w.stops H q, hd H p⟩
/-- .. all of whose turns are kept -/
theorem dc_all {J : It} {n : Nat} {G : Hp → Prop} {Y : Nat → Hp → V → Hp → Prop} (w : Walk J n G Y) {g : TG} {tk tv : TE} {vs : List Nat} {σ : L2.St} {H1 : Hp} {D : Addr} {Qd : Hp → Prop} (Pv : Nat → Hp → Prop) (h0 : Pv 0 (upd H1 D (.dK []))) (hG : ∀ i H, i ≤ n → Pv i H → G H)
    (hs : ∀ i x H H', i < n → Pv i H → Y i H x H' → g x (wipe σ vs) H' fun σ2 H2 => wipe σ2 vs = wipe σ vs ∧ tk σ2 H2 fun y H4 => tv σ2 H4 fun z H5 => ∃ kvs k, y = kV k ∧ H5 D = some (.dK kvs) ∧ kvs.length < sizeLine ∧ Pv (i + 1) (upd H5 D (.dK (putK kvs k z)))) (hd : ∀ H, Pv n H → Qd H) :
    ∃ W : Nat → Nat → Hp → Prop, (∃ m, W 0 m (upd H1 D (.dK []))) ∧ ∀ i m H, W i m H →
      (J.stop i H ∧ Qd H) ∨ (J.go i H ∧ ∃ Nx : Hp → Prop, (∀ H', Nx H' → ∃ m', m' < m ∧ W (i + 1) m' H') ∧ ∀ x H', J.yld i H x H' → g x (wipe σ vs) H' fun σ2 H2 => wipe σ2 vs = wipe σ vs ∧ tYes σ2 H2 fun b H3 =>
        if b = true then tk σ2 H3 fun y H4 => tv σ2 H4 fun z H5 => ∃ kvs k, y = kV k ∧ H5 D = some (.dK kvs) ∧ kvs.length < sizeLine ∧ Nx (upd H5 D (.dK (putK kvs k z))) else Nx H3) :=
  dc_it (tt := tYes) w Pv h0 hG (fun i x H H' hi hp y => hs i x H H' hi hp y) hd
end
end Qr
end

section
set_option Elab.async false
set_option linter.all false
set_option maxRecDepth 100000
set_option maxHeartbeats 600000
/-! sorted of a list of tuples of whole numbers, of whatever lengths: some arrangement of it. -/
namespace Qt
open PySem PySem.Spec PyProof.Rows L2

def encI (q : Addr × List Int) : PyData := .tuple (q.2.map PyData.int)
theorem readsAll_ints {h : Heap} : ∀ {us : List Value} {ns : List Int}, IntsAre us ns → ReadsAll h us (ns.map PyData.int) []
  | _, _, .nil => .nil
  | _, _, .cons n t r => .cons (.int n t) (readsAll_ints r)
theorem reads_tup {h : Heap} {b : Addr} {us : List Value} {ns : List Int} (t : IsTup h b us.toArray) (i : IntsAre us ns) : Reads h (.ref b) (.tuple (ns.map PyData.int)) [] := by
  obtain ⟨o, ho, hc, n, hd⟩ := t
  exact .tuple ho hc hd (by simpa using readsAll_ints i)
theorem alike_enc (p q : Addr × List Int) : PySem.W.alike (encI p) (encI q) = true := by
  show PySem.W.alike (.tuple (p.2.map PyData.int)) (.tuple (q.2.map PyData.int)) = true
  rw [PySem.W.alike]
  exact PySem.W.alike_ints _ _
theorem depth_enc (p : Addr × List Int) : (encI p).depth = 1 := by
  show (PyData.tuple (p.2.map PyData.int)).depth = 1
  rw [PyData.depth, PySem.W.depth_ints]
theorem vals_refs : ∀ {L : List (Addr × List Int)} {us : List Value}, Vals (L.map fun p => V.ref p.1) us → us = L.map fun p => Value.ref p.1
  | [], _, .nil => rfl
  | p :: L, _, .cons r t => by
    cases r
    rw [vals_refs t]
    rfl
theorem refs_vals : ∀ (L : List (Addr × List Int)), Vals (L.map fun p => V.ref p.1) (L.map fun p => Value.ref p.1)
  | [] => .nil
  | p :: L => .cons rfl (refs_vals L)
theorem each_refs : ∀ {R : Value → Addr × List Int → Prop} (L : List (Addr × List Int)), (∀ p ∈ L, R (.ref p.1) p) → PySem.W.EachIs R (L.map fun p => Value.ref p.1) L
  | _, [], _ => .nil
  | _, p :: L, h => .cons (h p List.mem_cons_self) (each_refs L fun q hq => h q (List.mem_cons_of_mem _ hq))
theorem one_of {L : List (Addr × List Int)} (h1 : L.length ≤ 1) (ne : ¬ ∀ p ∈ L, p.2 ≠ []) : ∃ p, L = [p] := by
  cases L with
  | nil => exact absurd (fun p hp => absurd hp (by simp)) ne
  | cons p r =>
    cases r with
    | nil => exact ⟨p, rfl⟩
    | cons q r2 =>
      have h2 : r2.length + 1 + 1 ≤ 1 := h1
      omega
theorem each_is : ∀ {us : List Value} {L : List (Addr × List Int)}, PySem.W.EachIs (fun v q => v = Value.ref q.1) us L → us = L.map fun p => Value.ref p.1
  | _, _, .nil => rfl
  | _, _, .cons e t => by
    rw [e, each_is t]
    rfl
section
variable {prog : Program} {w : World} {A : Around} {E : Value → Shared → Prop} {s : Shared}
theorem sortVals_one (κ : PyProof.Rows.KeyKind) (v : Value) : PySem.W.sortVals κ false [v] [v] = [v] := by
  unfold PySem.W.sortVals
  show (List.mergeSort [(v, v)] _).map Prod.snd = [v]
  rw [List.mergeSort_singleton]
  rfl
theorem sorts_one {h : Heap} {v : Value} {d : PyData} (r : Reads s.heap v d []) (al : PySem.W.alike d d = true) (hn : d ≠ .none) (hu : A.units + d.depth < cLine) : PySem.W.SortsAt prog w A s (PySem.W.dataKind s.heap [d]) [v] := by
  have all : PySem.W.AllAlike [d] := fun x hx y hy => by
    rw [List.mem_singleton.mp hx, List.mem_singleton.mp hy]
    exact al
  refine ⟨fun u hv => ?_, general', fun E x y k1 k2 Q h1 h2 hq => ?_, fun h2 => ?_⟩
  · rw [List.mem_singleton.mp hv]
    exact ⟨_, PySem.W.dataKind_some all List.mem_cons_self r⟩
  · obtain ⟨d1, as, hd, ra, e1⟩ := PySem.W.dataKind_inv h1
    obtain ⟨d2, as', hd', rb, e2⟩ := PySem.W.dataKind_inv h2
    have f1 := List.mem_singleton.mp hd
    have f2 := List.mem_singleton.mp hd'
    subst f1
    subst f2
    subst e1
    subst e2
    exact PySem.W.oneLt_alike (f := false) (fun z => absurd z Bool.false_ne_true) ra rb al hn (by omega) hq
  · have h3 : 2 ≤ 1 := h2
    omega
theorem sorted_one {l : Addr} {v : Value} {d : PyData} {Q : Value → Shared → Prop} (hl : s.heap.IsList l [v].toArray) (r : Reads s.heap v d []) (al : PySem.W.alike d d = true) (hn : d ≠ .none) (hu : A.units + 2 + d.depth < cLine)
    (cont : Q (.ref (s.heap.objs.size + 1)) { s with heap := sortedAll s.heap [v] [v].toArray }) : wpAny (model prog w) A (call (.builtin "sorted") [.ref l]) Q E s := by
  have r2 : Reads (PySem.W.sortingHeap (PySem.W.copyHeap s.heap [v]) (s.heap.objs.size + 1) [v]) v d [] := PyProof.Rows.Reads.keeps (fun _ _ => PySem.W.sorting_copy_old) r
  have u1 : A.in1.in1.units ≤ A.units + 2 := Nat.le_refl _
  refine PySem.W.sorted_vals hl (sorts_one (h := s.heap) (s := { s with heap := PySem.W.sortingHeap (PySem.W.copyHeap s.heap [v]) (s.heap.objs.size + 1) [v] }) r2 al hn (by omega)) (show 1 ≤ sizeLine by decide) ?_
  rw [sortVals_one]
  exact cont
end
section
variable {X : Cx}
def rSortA (K : PySem.W.Frag) : List V → Hp → VK → Prop := fun vs H Q => ∃ (a : Addr) (L : List (Addr × List Int)), vs = [V.ref a] ∧ SqL K H a (L.map fun p => V.ref p.1) ∧ (∀ p ∈ L, SqT K H p.1 (p.2.map V.int)) ∧
  L.length ≤ 1000 ∧ (L.length ≤ 1 ∨ ∀ p ∈ L, p.2 ≠ []) ∧ ∀ (L' : List (Addr × List Int)) (p : Addr), L'.Perm L → H p = none → Q (.ref p) (upd H p (.lst (L'.map fun q => V.ref q.1)))
theorem cr_sortA (hu : X.A.units + 64 < cLine) : CallR X (.builtin "sorted") (rSortA X.K) := by
  intro pins s σ H vs us Q I r hyp
  obtain ⟨a, L, rfl, hl, ht, hn, hk, q⟩ := hyp
  rw [Vals.ref1 r]
  obtain ⟨its, rv, pl, hz⟩ := I.list hl
  have ei := vals_refs rv
  have rd : ∀ p ∈ L, Reads s.heap (.ref p.1) (encI p) [] := fun p hp => by
    obtain ⟨us, r2, t2, _⟩ := I.tuple (ht p hp)
    exact reads_tup t2 r2.ints
  have fin : ∀ L' : List (Addr × List Int), L'.Perm L → EP X pins σ Q (.ref (s.heap.objs.size + 1)) { s with heap := sortedAll s.heap its (L'.map fun p => Value.ref p.1).toArray } := fun L' pm => by
    obtain ⟨ep, he'⟩ := PyProof.Rows.sortedAll_at s.heap its (L'.map fun p => Value.ref p.1).toArray
    have hlen : (L'.map fun q => V.ref q.1).length ≤ sizeLine := by
      rw [List.length_map, pm.length_eq]
      exact Nat.le_trans hn (by decide)
    exact ⟨.ref _, upd H (s.heap.objs.size + 1) (.lst (L'.map fun q => V.ref q.1)), I.laid (t' := s.toks) (fun _ _ => PyProof.Rows.sortedAll_old) (Nat.le_succ _) ⟨hlen, _, ep, refs_vals L', he'⟩, rfl, q L' _ pm (I.hok.fresh (Nat.le_succ _))⟩
  have hZ : L.length ≤ sizeLine := Nat.le_trans hn (by decide)
  by_cases ne : ∀ p ∈ L, p.2 ≠ []
  · refine PySem.W.sorted_data (R := fun v q => v = Value.ref q.1) (bs := L) (enc := encI) pl.isList (by rw [ei]; exact each_refs L fun p _ => rfl) (by rw [ei]; exact each_refs L fun p hp => ⟨[], rd p hp⟩) (PySem.W.AllAlike.of alike_enc) (.inl fun d hd => ?_) hZ (fun b _ => ?_) fun out _ eo => ?_
    · obtain ⟨p, hp, ed⟩ := List.mem_map.mp hd
      cases e2 : p.2 with
      | nil => exact absurd e2 (ne p hp)
      | cons x xs =>
        refine ⟨.int x, xs.map PyData.int, ?_⟩
        rw [← ed]
        show PyData.tuple (p.2.map PyData.int) = _
        rw [e2]
        rfl
    · rw [depth_enc]
      omega
    · rw [each_is eo]
      exact fin _ (List.mergeSort_perm _ _)
  · have h1 : L.length ≤ 1 := by
      rcases hk with h1 | h1
      · exact h1
      · exact absurd h1 ne
    obtain ⟨p, eL⟩ := one_of h1 ne
    subst eL
    have ei2 : its = [Value.ref p.1] := ei
    subst ei2
    exact sorted_one pl.isList (rd p List.mem_cons_self) (alike_enc p p) (fun z => nomatch z) (by rw [depth_enc]; omega) (fin [p] (List.Perm.refl _))
end
end Qt
end

section
set_option Elab.async false
set_option linter.all false
set_option maxRecDepth 100000
set_option maxHeartbeats 1000000
/-! set(xs) of a list of texts, and sorted of that set: each text once. -/
namespace Qs
open PySem PySem.Spec PyProof.Rows L2

def keyX (e : Int × Value) : Str := match e.2 with | .str x _ => x | _ => ⟨#[]⟩
def GoodX (w : World) (e : Int × Value) : Prop := ∃ k u, e.2 = Value.str k u ∧ e.1 = hashStr w k
/-- the set of texts at a: S its members; its table rises and can be walked -/
structure SetX (w : World) (h : Heap) (a : Addr) (S : Str → Prop) (n : Nat) : Prop where
  ex : ∃ o es ep t, h.get? a = some o ∧ o.ExactSet ∧ o.data = .set es ep t ∧ (∀ e ∈ es.toList, GoodX w e) ∧ (es.toList.map keyX).Nodup ∧ (∀ k, S k ↔ k ∈ es.toList.map keyX) ∧
    es.size < scanBound ∧ t.fits es.size = true ∧ es.size ≤ n ∧ Ris t.place.toList ∧ (w.params.followText "set-order" = true ∨ t.led = true)

section
variable {P : Program} {w : World} {h h' : Heap} {a : Addr} {S : Str → Prop} {n : Nat}
theorem SetX.at (R : SetX w h a S n) (k : ∀ o, h.get? a = some o → h'.get? a = some o) : SetX w h' a S n := by
  obtain ⟨o, es, ep, t, ho, r⟩ := R.ex
  exact ⟨o, es, ep, t, k o ho, r⟩
theorem SetX.congr {T : Str → Prop} {m : Nat} (R : SetX w h a S n) (e : ∀ k, T k ↔ S k) (hm : n ≤ m) : SetX w h a T m := by
  obtain ⟨o, es, ep, t, ho, h1, h2, h3, h4, h5, h6, h7, h8, h9⟩ := R.ex
  exact ⟨o, es, ep, t, ho, h1, h2, h3, h4, fun k => (e k).trans (h5 k), h6, h7, Nat.le_trans h8 hm, h9⟩
theorem is_strX (k : Str) (u : Tok) : (PySem.strKind P w).is k (.str k u) = true := by
  show Value.isStrOf k (.str k u) = true
  simp [Value.isStrOf]
theorem good_elX {l : List (Int × Value)} (g : ∀ e ∈ l, GoodX w e) : ElemsOf (PySem.strKind P w) l := fun e he => by
  obtain ⟨k, u, h1, h2⟩ := g e he
  exact ⟨⟨k, by rw [h1]; exact is_strX (P := P) (w := w) k u, h2⟩, by rw [h1] <;> rfl⟩
theorem good_isX {e : Int × Value} (g : GoodX w e) (k : Str) : (PySem.strKind P w).is k e.2 = true ↔ keyX e = k := by
  obtain ⟨k0, u, h1, _⟩ := g
  unfold keyX
  rw [h1]
  constructor
  · intro q
    obtain ⟨t, e2⟩ := Value.isStrOf_shape (show Value.isStrOf k (.str k0 u) = true from q)
    injection e2
  · intro q
    have q' : k0 = k := q
    rw [← q']
    exact is_strX (P := P) (w := w) k0 u
theorem good_memX {l : List (Int × Value)} (g : ∀ e ∈ l, GoodX w e) (k : Str) : k ∈ l.map keyX ↔ ∃ e ∈ l, (PySem.strKind P w).is k e.2 = true := by
  rw [List.mem_map]
  constructor
  · rintro ⟨e, he, q⟩
    exact ⟨e, he, (good_isX (g e he) k).2 q⟩
  · rintro ⟨e, he, q⟩
    exact ⟨e, he, (good_isX (g e he) k).1 q⟩
end

section
variable {P : Program} {w : World} {A : Around} {E : Value → Shared → Prop} {s : Shared} {a : Addr} {S : Str → Prop} {n : Nat}
theorem addX_tail {g : Bool → Sem Unit} (hg : ∀ (b : Bool) (s₁ : Shared) (Q' : Unit → Shared → Prop), Q' () s₁ → wpAny (model P w) A (g b) Q' E s₁)
    {o : Obj} {es : Array (Int × Value)} {ep : Nat} {t : SetTable} (ho : s.heap.get? a = some o) (hex : o.ExactSet) (hd : o.data = .set es ep t)
    {es1 : Array (Int × Value)} {t2 : SetTable} {T : Str → Prop} (g1 : ∀ e ∈ es1.toList, GoodX w e) (nd1 : (es1.toList.map keyX).Nodup) (m1 : ∀ k, T k ↔ k ∈ es1.toList.map keyX)
    (hb1 : es1.size < scanBound) (hf2 : t2.fits es1.size = true) (hr : Ris t2.place.toList) (hl : w.params.followText "set-order" = true ∨ t2.led = true) {wasDummy : Bool} {R : Option Bool → Shared → Prop}
    (hR : ∀ h', Heap.SameBut a s.heap h' → SetX w h' a T es1.size → R (some true) { s with heap := h' }) :
    wpAny (model P w) A (do
        storeSet a es1 t2
        if (!wasDummy && t2.tooFull) = true then do
            g (relayAll t2 es1 (SetTable.grown es1.size)).2.2
            storeSet a (relayAll t2 es1 (SetTable.grown es1.size)).1 (relayAll t2 es1 (SetTable.grown es1.size)).2.1
            pure (some true)
          else pure (some true)) R E s := by
  refine wpAny_bind (wpAny_storeSet_of ho hd ?_ (fits_of_scanBound hb1))
  have ho1 := store_at (es' := es1) (t' := t2) ho hd
  have sb1 := Heap.SameBut.update s.heap a (Obj.putSet es1 t2)
  split
  · have pm := relayAll_perm t2 es1 (SetTable.grown es1.size)
    have hf3 := relayAll_fits t2 es1 (SetTable.grown es1.size)
    have hr3 := relayAll_ris t2 es1 (SetTable.grown es1.size)
    have hl3 := relayAll_led t2 es1 (SetTable.grown es1.size)
    generalize relayAll t2 es1 (SetTable.grown es1.size) = Z at pm hf3 hr3 hl3 ⊢
    obtain ⟨es2, t3, gave⟩ := Z
    dsimp only at pm hf3 hr3 hl3 ⊢
    have hsz : es2.size = es1.size := by rw [← Array.length_toList, pm.length_eq, Array.length_toList]
    have hb2 : es2.size < scanBound := by
      rw [hsz]
      exact hb1
    refine wpAny_bind (hg _ _ _ ?_)
    refine wpAny_bind (wpAny_storeSet_of ho1 rfl ?_ (fits_of_scanBound hb2))
    have ho2 := store_at (es' := es2) (t' := t3) ho1 rfl
    refine wpAny_pure (hR _ (sb1.trans (Heap.SameBut.update _ a _)) ?_)
    exact ⟨_, es2, _, t3, ho2, hex, rfl, fun e he => g1 e (pm.mem_iff.mp he), (pm.map keyX).nodup_iff.mpr nd1, fun k => (m1 k).trans (pm.map keyX).mem_iff.symm, hb2, hf3, Nat.le_of_eq hsz, hr3,
      hl.imp id fun z => by rw [hl3]; exact z⟩
  · exact wpAny_pure (hR _ sb1 ⟨_, es1, _, t2, ho1, hex, rfl, g1, nd1, m1, hb1, hf2, Nat.le_refl _, hr, hl⟩)

theorem addX {k : Str} {u : Tok} {Q : Bool → Shared → Prop} (R : SetX w s.heap a S n) (room : n + 1 < scanBound)
    (hQ : ∀ h' b, Heap.SameBut a s.heap h' → SetX w h' a (fun j => S j ∨ j = k) (n + 1) → Q b { s with heap := h' }) :
    wpAny (model P w) A (setAddHashed a (.str k u) ((PySem.strKind P w).hash k)) Q E s := by
  obtain ⟨o, es, ep, t, ho, hex, hd, g, nd, hm, hb, hf, hn, hr, hl⟩ := R.ex
  have hkey : (PySem.strKind P w).is k (.str k u) = true := is_strX (P := P) (w := w) k u
  have hsc : (Value.str k u).scannable = true := rfl
  have hel : ElemsOf (PySem.strKind P w) es.toList := good_elX g
  unfold setAddHashed setAddHashedIn
  refine wpAny_holding (wpAny_bind (wpAny_setState_of ho hd hf ?_))
  dsimp only
  rw [byScan_of hsc hb hel]
  simp only [↓reduceIte]
  unfold setAddByScan
  refine wpAny_bind ?_
  refine wpAny_bind (wpAny_rule ?_)
  refine wpAny_bind (wpAny_setScan_of hkey ho hd hf hel ?_)
  cases hfi : List.findIdx? (fun e => (PySem.strKind P w).is k e.2) es.toList with
  | some j =>
    dsimp only
    obtain ⟨hj, pj, _⟩ := List.findIdx?_eq_some_iff_getElem.mp hfi
    have hSk : S k := (hm k).2 ((good_memX (P := P) (w := w) g k).2 ⟨es.toList[j], List.getElem_mem hj, pj⟩)
    refine wpAny_pure (wpAny_pure ?_)
    exact hQ s.heap _ (Heap.SameBut.refl a s.heap) ⟨o, es, ep, t, ho, hex, hd, g, nd, fun i => by
      rw [← hm i]
      exact ⟨fun z => z.elim id (fun e => e ▸ hSk), .inl⟩, hb, hf, by omega, hr, hl⟩
  | none =>
    dsimp only
    have hnk : k ∉ es.toList.map keyX := fun z => by
      obtain ⟨e, he, q⟩ := (good_memX (P := P) (w := w) g k).1 z
      have c := List.findIdx?_eq_none_iff.mp hfi e he
      rw [q] at c
      cases c
    have hgw : ∀ (b : Bool) {s₁ : Shared} {Q' : Unit → Shared → Prop}, Q' () s₁ → wpAny (model P w) A (match b with | true => rule "set.scan.the-table-gave-way" | false => pure ()) Q' E s₁ :=
      fun b s₁ Q' q => by cases b <;> first | exact wpAny_pure q | exact wpAny_rule q
    have pm := layNew_perm t es ((PySem.strKind P w).hash k) (.str k u)
    have hf1 := layNew_fits t es ((PySem.strKind P w).hash k) (.str k u)
    have hr1 := layNew_ris t es ((PySem.strKind P w).hash k) (.str k u) hr
    have hl1 := layNew_led t es ((PySem.strKind P w).hash k) (.str k u)
    generalize layNew t es ((PySem.strKind P w).hash k) (.str k u) = Z at pm hf1 hr1 hl1 ⊢
    obtain ⟨es1, t1, wasDummy, gave⟩ := Z
    dsimp only at pm hf1 hr1 hl1 ⊢
    rw [Array.toList_push] at pm
    have pc : es1.toList.Perm (((PySem.strKind P w).hash k, Value.str k u) :: es.toList) := pm.trans (List.perm_append_singleton _ _)
    have pk : (es1.toList.map keyX).Perm (k :: es.toList.map keyX) := pc.map keyX
    have g1 : ∀ e ∈ es1.toList, GoodX w e := fun e he => by
      rcases List.mem_cons.mp (pc.mem_iff.mp he) with z | z
      · rw [z]
        exact ⟨k, u, rfl, rfl⟩
      · exact g e z
    have nd1 : (es1.toList.map keyX).Nodup := pk.nodup_iff.mpr (List.nodup_cons.mpr ⟨hnk, nd⟩)
    have m1 : ∀ i, (S i ∨ i = k) ↔ i ∈ es1.toList.map keyX := fun i => by
      rw [hm i, pk.mem_iff, List.mem_cons]
      exact Or.comm
    have hsz : es1.size = es.size + 1 := by rw [← Array.length_toList, pc.length_eq, List.length_cons, Array.length_toList]
    have hb1 : es1.size < scanBound := by omega
    have hled : w.params.followText "set-order" = true ∨ t1.led = true := hl.imp id fun z => by rw [hl1]; exact z
    have fin : ∀ h', Heap.SameBut a s.heap h' → SetX w h' a (fun j => S j ∨ j = k) es1.size → ∀ b, Q b { s with heap := h' } := fun h' sb r b =>
      hQ h' b sb (r.congr (fun _ => Iff.rfl) (by omega))
    refine wpAny_bind (hgw _ ?_)
    split
    · refine wpAny_bind ?_
      rw [hashByValue_scannable 8 hsc]
      refine wpAny_pure ?_
      refine addX_tail ?_ ho hex hd g1 nd1 m1 hb1 ?_ ?_ ?_ ?_
      · intro b s₁ Q' q
        cases b <;> first | exact wpAny_pure q | exact wpAny_rule q
      · first | (split <;> first | exact hf1 | exact SetTable.fits_plain_off hf1) | exact hf1
      · first | (split <;> exact hr1) | exact hr1
      · first | (split <;> exact hled) | exact hled
      · intro h' sb r
        dsimp only
        exact wpAny_pure (fin h' sb r _)
    · refine wpAny_bind (wpAny_pure ?_)
      simp only [↓reduceIte]
      refine addX_tail ?_ ho hex hd g1 nd1 m1 hb1 hf1 hr1 hled ?_
      · intro b s₁ Q' q
        cases b <;> first | exact wpAny_pure q | exact wpAny_rule q
      · intro h' sb r
        dsimp only
        exact wpAny_pure (fin h' sb r _)

theorem setX_fresh {h : Heap} {b : Addr} (ho : h.get? b = some { cls := .type "set", dict := none, data := .set #[] 0 (.fresh 0 0 (!w.params.followText "set-order")) }) {T : Str → Prop} (hT : ∀ k, ¬ T k) : SetX w h b T 0 :=
  ⟨_, #[], 0, _, ho, ⟨rfl, rfl, rfl⟩, rfl, (fun e he => by simp at he), (by simp), (fun k => ⟨fun z => absurd z (hT k), fun z => by simp at z⟩), (by decide), (by rfl), Nat.le_refl _, List.Pairwise.nil, by
    show _ ∨ (!w.params.followText "set-order") = true
    cases w.params.followText "set-order"
    · exact .inr rfl
    · exact .inl rfl⟩

/-- the walk of a list into the set -/
theorem updateX {I : Addr} {fp wr : List Addr} {G : Array GenState → Array GenState → Prop} {n : Nat} {Pv : Nat → Value → Prop} {St : Nat → Shared → Prop} {R : Result → Shared → Prop}
    (W : WalksS P w A.in1 I fp wr G n Pv St) (Z : Addr) (hSf : Z ∉ fp) (xs : List Str) (hn : n = xs.length) (hb : xs.length + 1 < scanBound) (hval : ∀ i v, Pv i v → ∃ k t, xs[i]? = some k ∧ v = .str k t) :
    ∀ (k i : Nat) (s : Shared), n - i = k → i ≤ n → St i s → SetX w s.heap Z (fun j => j ∈ xs.take i) i →
      (∀ s', Moved (Z :: wr) G s s' → SetX w s'.heap Z (fun j => j ∈ xs) n → R (.ok (.ret .none)) s') →
      codeAny (model P w) A (.builtin "set.update.loop" ⟨[.ref Z, .ref I], []⟩) R s := by
  have hSw : Z ∉ wr := fun h => hSf (W.sub _ h)
  have hsub : ∀ b ∈ wr, b ∈ Z :: wr := fun b hb => List.mem_cons_of_mem _ hb
  intro k
  induction k with
  | zero =>
    intro i s hk' hi hst hS hR
    have hin : i = n := by omega
    subst hin
    refine codeAny_builtin F.entry_set_update_loop ?_
    rw [Around.under_plainId F.plain_set_update_loop _]
    show wpAny _ A.in1 (pyNext (.ref I) >>= _) _ _ s
    refine wpAny_bind (W.done s _ _ hst fun s' hm => ?_)
    show wpAny _ A.in1 (ret Value.none) _ _ s'
    have e : xs.take i = xs := List.take_of_length_le (by omega)
    rw [e] at hS
    exact wpAny_pure (hR s' (hm.mono hsub) (hS.at fun o e => hm.heap Z o hSw e))
  | succ k ih =>
    intro i s hk' hi hst hS hR
    have hlt : i < n := by omega
    refine codeAny_builtin F.entry_set_update_loop ?_
    rw [Around.under_plainId F.plain_set_update_loop _]
    show wpAny _ A.in1 (pyNext (.ref I) >>= _) _ _ s
    refine wpAny_bind (W.item i s _ _ hlt hst fun v s' hP hst' hm => ?_)
    obtain ⟨z, t, hz, rfl⟩ := hval i v hP
    have hS' : SetX w s'.heap Z (fun j => j ∈ xs.take i) i := hS.at fun o e => hm.heap Z o hSw e
    show wpAny _ A.in1 (holding [Value.str z t] (setAdd Z (.str z t)) >>= _) _ _ s'
    refine wpAny_bind (wpAny_holding ?_)
    unfold setAdd
    refine wpAny_holding ?_
    refine wpAny_bind ((PySem.strKind P w).pyHash (k := z) (is_strX (P := P) (w := w) z t) ?_)
    refine addX (s := { s' with toks := s'.toks + 1 }) hS' (by omega) fun h' b hsb hS2 => ?_
    have hS3 : SetX w h' Z (fun j => j ∈ xs.take (i + 1)) (i + 1) := hS2.congr (fun j => by
      rw [List.take_add_one, hz]
      simp [List.mem_append]) (Nat.le_refl _)
    refine wpAny_pure ⟨plainId_quiet F.plain_set_update_loop _, ih (i + 1) _ (by omega) hlt (W.frame _ s' _ _ hst' (Nat.le_succ _) fun b hb o e => ?_) hS3 fun s'' hm'' hS'' => ?_⟩
    · rw [hsb.2 b (fun h : b = Z => hSf (by rw [← h]; exact hb))]
      exact e
    · refine hR s'' (Moved.trans W.gtrans ((hm.mono hsub).then_heap (Nat.le_succ _) fun b o hb e => ?_) hm'') hS''
      rw [hsb.2 b (fun h : b = Z => hb (by rw [h]; exact List.mem_cons_self))]
      exact e
end
end Qs
end

section
set_option Elab.async false
set_option linter.all false
set_option maxRecDepth 100000
set_option maxHeartbeats 1000000
namespace Qs
open PySem PySem.Spec PyProof.Rows L2
abbrev freshX (w : World) : Obj := { cls := .type "set", dict := none, data := .set #[] 0 (.fresh 0 0 (!w.params.followText "set-order")) }
section
variable {P : Program} {w : World} {A : Around} {E : Value → Shared → Prop} {s : Shared}
theorem strs_at {us : List Value} {xs : List Str} (h : StrsAre us xs) : ∀ (i : Nat) (v : Value), us[i]? = some v → ∃ k t, xs[i]? = some k ∧ v = .str k t := by
  induction h with
  | nil => intro i v e; simp at e
  | cons x t r ih =>
    intro i v e
    cases i with
    | zero => exact ⟨x, t, rfl, (Option.some.inj e).symm⟩
    | succ i => exact ih i v e
theorem strs_len {us : List Value} {xs : List Str} (h : StrsAre us xs) : us.length = xs.length := by
  induction h with
  | nil => rfl
  | cons x t r ih => rw [List.length_cons, List.length_cons, ih]
set_option maxHeartbeats 4000000 in
theorem call_setX {l : Addr} {items : Array Value} (xs : List Str) {Q : Value → Shared → Prop} (hh : A.handled = none) (hl : s.heap.IsList l items) (hit : StrsAre items.toList xs) (hb : xs.length + 1 < scanBound)
    (cont : ∀ (h' : Heap) (tk : Nat), SetX w h' s.heap.objs.size (fun j => j ∈ xs) xs.length → (∀ b o, s.heap.get? b = some o → h'.get? b = some o) → Q (.ref s.heap.objs.size) { s with heap := h', toks := tk }) :
    wpAny (model P w) A (call (.type "set") [.ref l]) Q E s := by
  have hisz : items.size = xs.length := by
    have q := strs_len hit
    rw [Array.length_toList] at q
    exact q
  obtain ⟨c, tl, hmro⟩ := F.called_set.mro
  have hmade := F.called_set.made
  have hsub := F.called_set.sub
  refine wpAny_call (codeAny_of_tree ?_)
  show wpAny _ _ (callAny (.type "set") _) _ _ _
  refine wpAny_pure ⟨Code.quiet_builtin _ (by decide +kernel), codeAny_builtin F.entry_type_call ?_⟩
  rw [Around.under_plain (weight_type_call_type "set" [.ref l] []) rfl]
  have h1 := F.called_set.notType
  have h2 := F.called_set.canCreate
  have hct := F.typeCall_set_1 (.ref l)
  repeat (any_goals (first | assumption | wp_step))
  refine codeAny_mono (code_set_led1 (.ref l) (E := E) (Q₁ := fun obj s₁ => obj = .ref s.heap.objs.size ∧ s₁ = { s with heap := s.heap.push (freshX w) }) ⟨rfl, rfl⟩) fun r s₁ hr => ?_
  cases r with
  | error e => exact hr
  | ok fl =>
    cases fl with
    | ret obj =>
      obtain ⟨rfl, rfl⟩ := hr
      have hS : (s.heap.push (freshX w)).get? s.heap.objs.size = some (freshX w) := Heap.get?_push_size _ rfl
      have hT : Shared.TypeIs { s with heap := s.heap.push (freshX w) } (.ref s.heap.objs.size) "set" := ⟨_, hS, rfl⟩
      have hli := F.called_set.init.lookup
      have hbi := F.called_set.init.bind (.ref s.heap.objs.size)
      repeat (any_goals (first | assumption | wp_step))
      refine codeAny_mono (codeAny_call_builtin (R := wants (fun r s₂ => r = .none ∧ ∃ h' tk, s₂ = { s with heap := h', toks := tk } ∧ SetX w h' s.heap.objs.size (fun j => j ∈ xs) xs.length ∧
          (∀ b o, s.heap.get? b = some o → h'.get? b = some o)) E) F.called_set.init.plain F.entry_set_init (check_set_init_1 hT ?_)) fun r₂ s₂ hr₂ => ?_
      · obtain ⟨ol, hol, hcl, nl, hdl⟩ := hl
        obtain ⟨ocls, odict, odata, oslots⟩ := ol
        simp only at hcl hdl
        subst hcl
        subst hdl
        have hol' : (s.heap.push (freshX w)).get? l = some { cls := .type "list", dict := odict, data := .seq items nl, slots := oslots } := Heap.get?_push_of_some _ hol
        have hsls := F.sub_list_set
        have hslf := F.sub_list_frozenset
        have hne : (Value.type "list" == Value.type "dict") = false := by decide
        have hl1 : (s.heap.push (freshX w)).IsList l items := ⟨_, hol', rfl, nl, rfl⟩
        unfold Builtin.«set.__init__» noKeywords Builtin.Frozenset.updateFrom
        generalize hPI : pyIter = PI
        wp_walk
        subst hPI
        refine wpAny_pyIter_list hl1 ?_
        refine wpAny_bind (wpAny_runValue ?_)
        have hlS : l < s.heap.objs.size := Heap.lt_size hol
        have hh3 : A.in1.in1.in1.handled = none := by simp [hh]
        have hz1 : (s.heap.push (freshX w)).objs.size = s.heap.objs.size + 1 := Heap.size_push ..
        have hneI : l ≠ (s.heap.push (freshX w)).objs.size := by
          rw [hz1]
          exact Nat.ne_of_lt (Nat.lt_succ_of_lt hlS)
        have hSf : s.heap.objs.size ∉ [(s.heap.push (freshX w)).objs.size, l] := by
          rw [hz1]
          simp only [List.mem_cons, List.mem_singleton, List.not_mem_nil, or_false, not_or]
          exact ⟨Nat.ne_of_lt (Nat.lt_succ_self _), Nat.ne_of_gt hlS⟩
        have hval : ∀ (i : Nat) (v : Value), items[i]? = some v → ∃ k t, xs[i]? = some k ∧ v = .str k t := fun i v hv =>
          strs_at hit i v (by rw [Array.getElem?_toList]; exact hv)
        refine updateX ((Walks.list hh3 _ l hneI items).toS) s.heap.objs.size
          hSf xs hisz hb hval (items.size - 0) 0 _ (by omega) (Nat.zero_le _)
          ⟨⟨_, Heap.get?_push_size _ rfl, rfl, rfl⟩, (hl1.push _)⟩ ?hS0 ?hR
        case hS0 =>
          exact setX_fresh (Heap.get?_push_of_some _ hS) (fun k z => by simp at z)
        case hR =>
          intro s' hm hS'
          obtain ⟨h', g2, d', tk', os'⟩ := s'
          have eg : g2 = s.gens := hm.gens
          have ed : d' = s.drawn := hm.drawn
          have eo : os' = s.os := hm.os
          subst eg
          subst ed
          subst eo
          show wpAny _ _ _ _ _ _
          refine wpAny_pure ?_
          show wpAny _ _ (ret Value.none) _ _ _
          rw [hisz] at hS'
          refine wpAny_pure ⟨rfl, h', tk', rfl, hS', fun b o e => ?_⟩
          have hb0 : b < s.heap.objs.size := Heap.lt_size e
          have hb1 : b ≠ s.heap.objs.size := Nat.ne_of_lt hb0
          have hb2 : b ≠ (s.heap.push (freshX w)).objs.size := by
            rw [hz1]
            exact Nat.ne_of_lt (Nat.lt_succ_of_lt hb0)
          exact hm.heap b o (by simp only [List.mem_cons, List.mem_singleton, List.not_mem_nil, or_false, not_or]; exact ⟨hb1, hb2⟩) (Heap.get?_push_of_some _ (Heap.get?_push_of_some _ e))
      · cases r₂ with
        | error e => exact hr₂
        | ok fl₂ =>
          cases fl₂ with
          | ret r =>
            obtain ⟨rfl, h', tk, rfl, hS', hk'⟩ := hr₂
            repeat (any_goals (first | assumption | wp_step))
            exact cont _ _ hS' hk'
          | _ => exact hr₂.elim
    | _ => exact hr.elim

/-! sorted -/
theorem strs_of : ∀ (l : List Value), (∀ v ∈ l, ∃ k tk, v = Value.str k tk) → StrsAre l (l.map PyProof.Rows.strOf) := PyProof.Rows.strsAre_map
theorem sorted_setX {a : Addr} {S : Str → Prop} {n : Nat} {Q : Value → Shared → Prop} (R : SetX w s.heap a S n) (hh : A.handled = none) (h64 : n < 2000)
    (cont : ∀ s' p (out : Array Value) (c : Nat) (ys : List Str), (∀ b o, s.heap.get? b = some o → s'.heap.get? b = some o) → s'.gens = s.gens → s'.os = s.os → s.heap.objs.size ≤ p →
      s'.heap.get? p = some (seqObj "list" out c) → StrsAre out.toList ys → ys.length ≤ n → ys.Nodup → (∀ k, k ∈ ys ↔ S k) → Q (.ref p) s') :
    wpAny (model P w) A (call (.builtin "sorted") [.ref a]) Q E s := by
  obtain ⟨o, es, ep, t, ho, hex, hd, g, nd, hm, hb, hf, hn, hr, hl⟩ := R.ex
  refine Calls.call_function_entry kind_sorted plain_sorted entry_sorted (args_sorted1 _) ?_
  unfold Builtin.«sorted»
  refine wpAny_bind (m := checkCount "sorted" 1 1 _) (wpAny_pure ?_)
  refine wpAny_bind (collect_set (A := A.in1) hh ⟨o, ho, hex.1, hd⟩ hf hb hr hl fun s1 vs k1 hz g1 o1 pm => ?_)
  have hvl : vs.length ≤ n := by
    rw [pm.length_eq, List.length_map, Array.length_toList]
    exact hn
  have hI : StrsAre vs (vs.map PyProof.Rows.strOf) := strs_of vs fun v hv => by
    obtain ⟨e, he, q⟩ := List.mem_map.mp (pm.mem_iff.mp hv)
    obtain ⟨k, tk, h1, _⟩ := g e he
    exact ⟨k, tk, by rw [← q]; exact h1⟩
  have ek : es.toList.map (fun e => PyProof.Rows.strOf e.2) = es.toList.map keyX := by
    refine List.map_congr_left fun e he => ?_
    obtain ⟨k, u, h1, _⟩ := g e he
    unfold keyX
    rw [h1]
    rfl
  have pk : (vs.map PyProof.Rows.strOf).Perm (es.toList.map keyX) := by
    have q := pm.map PyProof.Rows.strOf
    rw [List.map_map] at q
    rw [← ek]
    exact q
  have hfit : vs.length ≤ sizeLine := Nat.le_trans hvl (Nat.le_trans (Nat.le_of_lt h64) (by decide))
  refine wpAny_bind (wpAny_newList ?_ hfit)
  have hoL : (s1.heap.push (seqObj "list" vs.toArray 0)).get? s1.heap.objs.size = some (seqObj "list" vs.toArray 0) := Heap.get?_push_size _ rfl
  refine wpAny_bind (wpAny_holding (wpAny_call_entry slot_list_sort ⟨_, hoL, rfl⟩ entry_list_sort (list_sort_treeKAny strKind_oneLt hoL hI.keysOf (fun v₁ v₂ rest e => keyKind_strs (by rw [← e]; exact hI)) hfit fun st' hp hs => ⟨_, rfl, ?_⟩) (args_list_sort _)))
  obtain ⟨ys, a1, a2, a3⟩ := sorted_out_str hI hp hs
  obtain ⟨c, hc⟩ := sortedHeap_at (vs := vs) (out := (arrOf st').map (·.2)) hoL
  have pn : ys.Perm (es.toList.map keyX) := a2.trans pk
  refine wpAny_pure ⟨_, rfl, cont _ s1.heap.objs.size _ c ys (fun b u e => ?_) g1 o1 hz hc a1 (by rw [pn.length_eq, List.length_map, Array.length_toList]; exact hn) (pn.nodup_iff.mpr nd) (fun k => by rw [pn.mem_iff, ← hm k])⟩
  have q := k1 b u e
  have hlt := Heap.lt_size q
  show (sortedHeap (s1.heap.push (seqObj "list" vs.toArray 0)) s1.heap.objs.size vs _).get? b = some u
  rw [sortedHeap_old (Nat.ne_of_lt hlt) (by rw [size_push']; exact Nat.lt_succ_of_lt hlt)]
  exact Heap.get?_push_of_some _ q
end

/-! over the layer -/
def SetXO (w : World) (a : Addr) (S : Str → Prop) (n : Nat) : HO := .ext fun h => SetX w h a S n
theorem setXO_new {w : World} {P : Program} {H : Hp} {h : Heap} {a : Addr} {S : Str → Prop} {n : Nat} (R : SetX w h a S n) : ObjOk P w H h a (SetXO w a S n) := by
  obtain ⟨o, es, ep, t, ho, r⟩ := R.ex
  exact ⟨R, ⟨o, ho⟩, fun h1 h2 p k => SetX.at p k⟩
section
variable {X : Cx}
/-- set(xs), xs a list of texts -/
def rSetX (K : PySem.W.Frag) (w : World) : List V → Hp → VK → Prop := fun xs H Q => ∃ (l : Addr) (ts : List Str), xs = [V.ref l] ∧ SqL K H l (ts.map V.str) ∧ ts.length ≤ 1000 ∧ ∀ a, H a = none → Q (.ref a) (upd H a (SetXO w a (fun k => k ∈ ts) ts.length))
theorem cr_setX (hc : X.calm = true) : CallR X (.type "set") (rSetX X.K X.w) := by
  intro pins s σ H xs us Q I r hyp
  obtain ⟨l, ts, rfl, hl, hn, q⟩ := hyp
  rw [Vals.ref1 r]
  obtain ⟨its, rv, pl, hz⟩ := I.list hl
  refine call_setX (P := X.prog) (w := X.w) ts (I.ok.hd hc) pl.isList (by simpa using rv.strs) (by unfold scanBound; omega) fun h' tk R k => ?_
  exact ⟨.ref s.heap.objs.size, upd H s.heap.objs.size (SetXO X.w s.heap.objs.size (fun k => k ∈ ts) ts.length), I.laid (t' := tk) k (Nat.le_refl _) (setXO_new R), rfl, q _ (I.hok.fresh (Nat.le_refl _))⟩
/-- sorted of such a set -/
def rSortX (w : World) : List V → Hp → VK → Prop := fun vs H Q => ∃ (a : Addr) (S : Str → Prop) (n : Nat), vs = [V.ref a] ∧ H a = some (SetXO w a S n) ∧ n ≤ 1000 ∧
  ∀ (ys : List Str) (p : Addr), ys.Nodup → (∀ k, k ∈ ys ↔ S k) → H p = none → Q (.ref p) (upd H p (.lst (ys.map V.str)))
theorem cr_sortX (hc : X.calm = true) : CallR X (.builtin "sorted") (rSortX X.w) := by
  intro pins s σ H vs us Q I r hyp
  obtain ⟨a, S, n, rfl, ha, hn, q⟩ := hyp
  have R0 : SetX X.w s.heap a S n := (I.hok a _ ha).1
  rw [Vals.ref1 r]
  refine sorted_setX R0 (I.ok.hd hc) (by omega) fun s' p out c ys k g o hp hg hout hyn nd hm => ?_
  have hl2 : (ys.map V.str).length ≤ sizeLine := by
    rw [List.length_map]
    exact Nat.le_trans hyn (Nat.le_trans hn (by decide))
  have hnp : H p = none := I.hok.fresh hp
  have hv : Vals (ys.map V.str) out.toList := vals_of_strs hout
  have J : Inv X pins σ (upd H p (.lst (ys.map V.str))) { s with heap := s'.heap, gens := s'.gens, drawn := s'.drawn, toks := s'.toks } :=
    I.call (ch := []) (Un.laid k hp hnp) (I.hok.laid k hp ⟨hl2, out.toList, c, hv, hg⟩) (by rw [g]; exact I.bare) (fun _ z => nomatch z)
  have e : s' = { s with heap := s'.heap, gens := s'.gens, drawn := s'.drawn, toks := s'.toks } := by
    cases s'
    cases s
    cases o
    rfl
  rw [e]
  exact ⟨.ref p, _, J, rfl, q ys p nd hm hnp⟩
end
end Qs
end

section
set_option Elab.async false
set_option linter.all false
set_option maxRecDepth 100000
set_option maxHeartbeats 4000000
/-! t * k of a tuple that isn't empty, k from 1: with 1 the tuple itself. -/
namespace Qu
open PySem PySem.Spec PyProof.Rows L2
theorem tuple_mul1 (l : Addr) (items : Array Value) (n : Nat) (dd : Option Addr) (sl : Array (Option Value)) (u : Tok) :
    Meets (Builtin.«tuple.__mul__» ⟨[.ref l, .int 1 u], []⟩) (fun _ R s => s.heap.get? l = some { cls := .type "tuple", dict := dd, data := .seq items n, slots := sl } ∧
      R (.ok (.ret (Value.ref l))) s) :=
  .of_wp fun prog w A R s hyp => by
    obtain ⟨hp, g, d, tk, os⟩ := s
    obtain ⟨hl, cont⟩ := hyp
    have f1 := AutoSeq1.idx_int
    have c0 : (decide ((1 : Int) < -(2 ^ 63)) || decide ((1 : Int) ≥ 2 ^ 63)) = false := by decide
    have c1 : (items.isEmpty || (1 : Int) == 1) = true := by
      rw [show ((1 : Int) == 1) = true by decide, Bool.or_true]
    wp_walk using wpAny_loadPart' hl
    exact ⟨_, rfl, cont⟩
def rRepA (K : PySem.W.Frag) : R2 := fun x y H Q => ∃ l k xs, x = .ref l ∧ y = .int k ∧ SqT K H l xs ∧ xs ≠ [] ∧ 1 ≤ k ∧ k ≤ 1000 ∧ xs.length ≤ 1000 ∧ (k = 1 → Q (.ref l) H) ∧ (k ≠ 1 → ∀ p, H p = none → Q (.ref p) (upd H p (.tup (List.replicate k.toNat xs).flatten)))
theorem op_repA {X : Cx} {K : PySem.W.Frag} (eK : X.K = K) : OpR X (binaryOp .Mult) (rRepA K) := by
  subst eK
  intro pins s σ H x y v u Q I rx ry hyp
  obtain ⟨l, k, xs, rfl, rfl, hT, hne, h1, h2, hz, q1, q2⟩ := hyp
  by_cases k1 : k = 1
  · subst k1
    cases rx
    obtain ⟨t, rfl⟩ := ry
    obtain ⟨its, r, ⟨⟨cls, dd, data, sl⟩, ho, hc, n, hd⟩, hs⟩ := I.tuple hT
    simp only at hc hd
    subst hc
    subst hd
    refine wpAny_binaryOp_repeat_ref (T := "tuple") (U := "int") (by decide) ⟨_, ho, rfl⟩ (fun s' => typeIs_int s' 1 t) noFill_tuple_mul F.fills_int_mul F.slot_int_rmul repeat_tuple F.slot_int_index.lookup
      (call_meets F.slot_int_rmul (typeIs_int s 1 t) F.entry_int_rmul (F.args_int_rmul_2 _ _) (int_rmul_tuple 1 t l its.toArray n dd sl)
        ⟨ho, rfl, ⟨_, ho, rfl⟩, call_meets F.slot_tuple_mul ⟨_, ho, rfl⟩ F.entry_tuple_mul (F.args_tuple_mul_2 _ _) (tuple_mul1 l its.toArray n dd sl t) ⟨ho, ?_⟩⟩)
    exact ⟨.ref l, H, I, rfl, q1 rfl⟩
  · exact op_repT pins s σ H _ _ v u Q I rx ry ⟨l, k, xs, rfl, rfl, hT, hne, by omega, h2, hz, q2 k1⟩
end Qu
end

section
set_option Elab.async false
set_option linter.all false
set_option maxRecDepth 100000
set_option maxHeartbeats 1000000
/-! places of the text, short words, heaps. -/
namespace Qb
open PySem PySem.Spec PyProof.Rows L2

def topS (i : Nat) : Stmt := PySem.Challenge.pw_quiremarks_k80_whole_what_is_implied.main.body.getD i (.Pass ⟨0, 0, 0, 0⟩)

/-- a def under its name, its parameters, no defaults -/
structure Dn (K : PySem.W.Frag) (mg : Str → Option Value) (x : Str) (st : Stmt) (ps : List Str) : Prop where
  ex : ∃ f fd, C8.Def K mg x st f fd ∧ Binds K fd ps []
/-- the built-in names that stand as they were -/
structure Bls (mg : Str → Option Value) : Prop where
  len : mg "len" = none
  isinstance : mg "isinstance" = none
  tuple : mg "tuple" = none
  list : mg "list" = none
  int : mg "int" = none
  str : mg "str" = none
  bool : mg "bool" = none
  all : mg "all" = none
  range : mg "range" = none
  max : mg "max" = none
  min : mg "min" = none
  abs : mg "abs" = none
  zip : mg "zip" = none
  reversed : mg "reversed" = none
  enumerate : mg "enumerate" = none
  sorted : mg "sorted" = none
  set : mg "set" = none
section
variable {P : Program} {w : World} {K : PySem.W.Frag} {mg : Str → Option Value} {base : Heap}
theorem Dn.cal {x : Str} {st : Stmt} {N ps : List Str} {k : Nat} {sp : Sp} (D : Dn K mg x st ps) (S : C8.scC N ps (C8.fnScope st) = true) (len : ∀ vs H Q E, sp vs H Q E → vs.length = ps.length)
    (hbody : ∀ (f : Addr) (cdv : Value) (A : Around) (outer : List Env) (s : Shared) (H : Hp) (vs : List V) (Q : VK) (E : XK), N.Nodup → Room k (A.deeper (envOfC x (C8.fnScope st) s.heap.objs.size f cdv)) → sp vs H Q E →
      ∃ t, PSs (cxOf C8.CX0 P w K mg base N x (C8.fnScope st) f cdv A outer s H E).nox (C8.fnBody st) t ∧ t { nx := fun _ H' => Q .non H', rt := Q } (start N vs) H) : C8.Cal P w K mg base (k + 1) x sp [] := by
  obtain ⟨f, fd, F, b⟩ := D.ex
  have S2 := C8.fnScope_by S
  exact C8.cal0 F b .nil S2 len fun cdv A outer s H vs Q E hr h => hbody f cdv A outer s H vs Q E S2.nd hr h
end

/-! heaps -/
theorem same_new {H : Hp} {p : Addr} {o : HO} (h : H p = none) : Same H (upd H p o) := fun b x e => by
  rw [upd_ne (ne_of_none e h)]
  exact e
theorem same_mut {H H' : Hp} {p : Addr} {o : HO} (s : Same H H') (h : H p = none) : Same H (upd H' p o) := fun b x e => by
  rw [upd_ne (ne_of_none e h)]
  exact s b x e
theorem Same.t {K : PySem.W.Frag} {H H' : Hp} {a : Addr} {xs : List V} (e : Same H H') (h : SqT K H a xs) : SqT K H' a xs := by
  rcases h with (h | ⟨o, h⟩) | h
  · exact .inl (.inl (e _ _ h))
  · exact .inl (.inr ⟨o, e _ _ h⟩)
  · exact .inr h
theorem ne_upd {H : Hp} {p q : Addr} {o : HO} (h : upd H p o q = none) : q ≠ p := fun e => by
  rw [e, upd_same] at h
  cases h
theorem free_upd {H : Hp} {p q : Addr} {o : HO} (h : upd H p o q = none) : H q = none := by
  rw [upd_ne (ne_upd h)] at h
  exact h
theorem small {n : Nat} (h : n ≤ 100000) : n ≤ sizeLine := Nat.le_trans h (by decide)
theorem smallL {n : Nat} (h : n < 100000) : n < sizeLine := Nat.lt_of_lt_of_le h (by decide)

/-- a tuple's value, of these items -/
def Tu (K : PySem.W.Frag) (H : Hp) (v : V) (xs : List V) : Prop := ∃ a, v = V.ref a ∧ SqT K H a xs
theorem Tu.mono {K : PySem.W.Frag} {H H' : Hp} {v : V} {xs : List V} (e : Same H H') (h : Tu K H v xs) : Tu K H' v xs := by
  obtain ⟨a, e1, h⟩ := h
  exact ⟨a, e1, Same.t e h⟩
abbrev vI (xs : List Int) : List V := xs.map V.int
abbrev vT (xs : List Str) : List V := xs.map V.str

/-- a built-in class as a value -/
theorem pe_ty {X : Cx} {x : Str} {T : String} {pos : Pos} (hg : Gl X x) (hm : X.mg x = none) (hv : bootBuiltins x = some (.type T)) (hn : x ≠ "__name__" := by decide) (hd : (x == ("__debug__" : Str)) = false := by decide) : PE X (.Name x pos) (tC (.ty T)) :=
  pe_bltn hg hm hv (show L2.RelV (.ty T) (.type T) from rfl) hn hd
/-! what all but lists, dicts, sets keep: tuples -/
def Tm (H H' : Hp) : Prop := (∀ b xs, H b = some (.tup xs) → H' b = some (.tup xs)) ∧ ∀ b o u, H b = some (.frz o u) → H' b = some (.frz o u)
theorem Tm.refl (H : Hp) : Tm H H := ⟨fun _ _ h => h, fun _ _ _ h => h⟩
theorem Tm.trans {H H1 H2 : Hp} (a : Tm H H1) (b : Tm H1 H2) : Tm H H2 := ⟨fun c x h => b.1 c x (a.1 c x h), fun c o u h => b.2 c o u (a.2 c o u h)⟩
theorem Same.tm {H H' : Hp} (s : Same H H') : Tm H H' := ⟨fun b _ h => s b _ h, fun b _ _ h => s b _ h⟩
theorem tm_lst {H : Hp} {p : Addr} {xs : List V} {o : HO} (h : H p = some (.lst xs)) : Tm H (upd H p o) := by
  refine ⟨fun b ys e => ?_, fun b o2 u e => ?_⟩
  · have hb : b ≠ p := fun z => by
      rw [z, h] at e
      cases e
    rw [upd_ne hb]
    exact e
  · have hb : b ≠ p := fun z => by
      rw [z, h] at e
      cases e
    rw [upd_ne hb]
    exact e
theorem tm_dK {H : Hp} {p : Addr} {kvs : List (Key × V)} {o : HO} (h : H p = some (.dK kvs)) : Tm H (upd H p o) := by
  refine ⟨fun b ys e => ?_, fun b o2 u e => ?_⟩
  · have hb : b ≠ p := fun z => by
      rw [z, h] at e
      cases e
    rw [upd_ne hb]
    exact e
  · have hb : b ≠ p := fun z => by
      rw [z, h] at e
      cases e
    rw [upd_ne hb]
    exact e
theorem Tm.t {K : PySem.W.Frag} {H H' : Hp} {a : Addr} {xs : List V} (e : Tm H H') (h : SqT K H a xs) : SqT K H' a xs := by
  rcases h with (h | ⟨o, h⟩) | h
  · exact .inl (.inl (e.1 _ _ h))
  · exact .inl (.inr ⟨o, e.2 _ _ _ h⟩)
  · exact .inr h
theorem Tm.tu {K : PySem.W.Frag} {H H' : Hp} {v : V} {xs : List V} (e : Tm H H') (h : Tu K H v xs) : Tu K H' v xs := by
  obtain ⟨a, e1, h⟩ := h
  exact ⟨a, e1, e.t h⟩

/-! comprehensions whose element changes nothing that stood -/
section
variable {J : It} {n : Nat} {G : Hp → Prop} {Y : Nat → Hp → V → Hp → Prop} {g : TG} {tt : TT} {te : TE} {vs : List Nat} {σ : L2.St} {H1 : Hp} {D : Addr} {Qd : Hp → Prop}
theorem given_len_le (n : Nat) (f : Nat → Bool) : ((List.range n).filter f).length ≤ n := by
  have h := List.length_filter_le f (List.range n)
  rw [List.length_range] at h
  exact h
/-- element i is v i; it is kept where f i -/
theorem lc_filt (w : Walk J n G Y) (hY : ∀ i H x H', Y i H x H' → Same H H') (hG : ∀ H', Same H1 H' → G H') (hD : H1 D = none) (hn : n ≤ 50000) (f : Nat → Bool) (v : Nat → V)
    (hs : ∀ (i : Nat) (x : V) (H' H'' : Hp) (R : V → Hp → Prop) (R0 : Hp → Prop), i < n → Same H1 H' → Y i H' x H'' → (f i = true → ∀ H4, Same H'' H4 → R (v i) H4) → (f i = false → ∀ H4, Same H'' H4 → R0 H4) →
      g x (wipe σ vs) H'' fun σ2 H2 => wipe σ2 vs = wipe σ vs ∧ tt σ2 H2 fun b H3 => if b = true then te σ2 H3 R else R0 H3)
    (hd : ∀ H', Same H1 H' → H' D = some (.lst (((List.range n).filter f).map v)) → Qd H') :
    ∃ W : Nat → Nat → Hp → Prop, (∃ m, W 0 m (upd H1 D (.lst []))) ∧ ∀ i m H, W i m H →
      (J.stop i H ∧ Qd H) ∨ (J.go i H ∧ ∃ Nx : Hp → Prop, (∀ H', Nx H' → ∃ m', m' < m ∧ W (i + 1) m' H') ∧ ∀ x H', J.yld i H x H' → g x (wipe σ vs) H' fun σ2 H2 => wipe σ2 vs = wipe σ vs ∧ tt σ2 H2 fun b H3 =>
        if b = true then te σ2 H3 fun y H4 => ∃ acc, H4 D = some (.lst acc) ∧ acc.length < sizeLine ∧ Nx (upd H4 D (.lst (acc ++ [y]))) else Nx H3) := by
  refine lc_it w (fun i H => Same H1 H ∧ H D = some (.lst (((List.range i).filter f).map v))) ⟨same_new hD, upd_same⟩ (fun i H _ p => hG H p.1) (fun i x H H' hi p y => ?_) (fun H p => hd H p.1 p.2)
  have sY := hY i H x H' y
  refine hs i x H H' (fun y H4 => ∃ acc, H4 D = some (.lst acc) ∧ acc.length < sizeLine ∧ (Same H1 (upd H4 D (.lst (acc ++ [y]))) ∧ (upd H4 D (.lst (acc ++ [y]))) D = some (.lst (((List.range (i + 1)).filter f).map v)))) _ hi p.1 y (fun hf H4 s4 => ?_) (fun hf H4 s4 => ?_)
  · refine ⟨_, s4 _ _ (sY _ _ p.2), ?_, same_mut (p.1.trans (sY.trans s4)) hD, ?_⟩
    · rw [List.length_map]
      have := given_len_le i f
      exact smallL (by omega)
    · rw [upd_same, List.range_succ, List.filter_append, List.map_append, List.filter_cons, if_pos hf]
      rfl
  · refine ⟨p.1.trans (sY.trans s4), ?_⟩
    rw [List.range_succ, List.filter_append, List.map_append, List.filter_cons, if_neg (by rw [hf]; exact Bool.false_ne_true)]
    show _ = some (HO.lst (_ ++ []))
    rw [List.append_nil]
    exact s4 _ _ (sY _ _ p.2)
/-- element i is v i, all are kept -/
theorem lc_vals (w : Walk J n G Y) (hY : ∀ i H x H', Y i H x H' → Same H H') (hG : ∀ H', Same H1 H' → G H') (hD : H1 D = none) (hn : n ≤ 50000) (v : Nat → V)
    (hs : ∀ (i : Nat) (x : V) (H' H'' : Hp) (R : V → Hp → Prop), i < n → Same H1 H' → Y i H' x H'' → (∀ H4, Same H'' H4 → R (v i) H4) →
      g x (wipe σ vs) H'' fun σ2 H2 => wipe σ2 vs = wipe σ vs ∧ te σ2 H2 R)
    (hd : ∀ H', Same H1 H' → H' D = some (.lst ((List.range n).map v)) → Qd H') :
    ∃ W : Nat → Nat → Hp → Prop, (∃ m, W 0 m (upd H1 D (.lst []))) ∧ ∀ i m H, W i m H →
      (J.stop i H ∧ Qd H) ∨ (J.go i H ∧ ∃ Nx : Hp → Prop, (∀ H', Nx H' → ∃ m', m' < m ∧ W (i + 1) m' H') ∧ ∀ x H', J.yld i H x H' → g x (wipe σ vs) H' fun σ2 H2 => wipe σ2 vs = wipe σ vs ∧ tYes σ2 H2 fun b H3 =>
        if b = true then te σ2 H3 fun y H4 => ∃ acc, H4 D = some (.lst acc) ∧ acc.length < sizeLine ∧ Nx (upd H4 D (.lst (acc ++ [y]))) else Nx H3) := by
  refine lc_it (tt := tYes) w (fun i H => Same H1 H ∧ H D = some (.lst ((List.range i).map v))) ⟨same_new hD, upd_same⟩ (fun i H _ p => hG H p.1) (fun i x H H' hi p y => ?_) (fun H p => hd H p.1 p.2)
  have sY := hY i H x H' y
  refine hs i x H H' (fun y H4 => ∃ acc, H4 D = some (.lst acc) ∧ acc.length < sizeLine ∧ (Same H1 (upd H4 D (.lst (acc ++ [y]))) ∧ (upd H4 D (.lst (acc ++ [y]))) D = some (.lst ((List.range (i + 1)).map v)))) hi p.1 y (fun H4 s4 => ?_)
  refine ⟨_, s4 _ _ (sY _ _ p.2), ?_, same_mut (p.1.trans (sY.trans s4)) hD, ?_⟩
  · rw [List.length_map, List.length_range]
    exact smallL (by omega)
  · rw [upd_same, List.range_succ, List.map_append]
    rfl
/-- element i is some y with Pr i y, which tuples alone bear -/
theorem lc_new (w : Walk J n G Y) (hY : ∀ i H x H', Y i H x H' → Same H H') (hG : ∀ H', Same H1 H' → G H') (hD : H1 D = none) (hn : n ≤ 50000) (Pr : Nat → V → Hp → Prop) (hP : ∀ i y H H', Tm H H' → Pr i y H → Pr i y H')
    (hs : ∀ (i : Nat) (x : V) (H' H'' : Hp) (R : V → Hp → Prop), i < n → Same H1 H' → Y i H' x H'' → (∀ y H4, Same H'' H4 → Pr i y H4 → R y H4) →
      g x (wipe σ vs) H'' fun σ2 H2 => wipe σ2 vs = wipe σ vs ∧ te σ2 H2 R)
    (hd : ∀ H' ys, Same H1 H' → H' D = some (.lst ys) → ys.length = n → (∀ i y, ys[i]? = some y → Pr i y H') → Qd H') :
    ∃ W : Nat → Nat → Hp → Prop, (∃ m, W 0 m (upd H1 D (.lst []))) ∧ ∀ i m H, W i m H →
      (J.stop i H ∧ Qd H) ∨ (J.go i H ∧ ∃ Nx : Hp → Prop, (∀ H', Nx H' → ∃ m', m' < m ∧ W (i + 1) m' H') ∧ ∀ x H', J.yld i H x H' → g x (wipe σ vs) H' fun σ2 H2 => wipe σ2 vs = wipe σ vs ∧ tYes σ2 H2 fun b H3 =>
        if b = true then te σ2 H3 fun y H4 => ∃ acc, H4 D = some (.lst acc) ∧ acc.length < sizeLine ∧ Nx (upd H4 D (.lst (acc ++ [y]))) else Nx H3) := by
  refine lc_it (tt := tYes) w (fun i H => Same H1 H ∧ ∃ ys : List V, H D = some (.lst ys) ∧ ys.length = i ∧ ∀ k y, ys[k]? = some y → Pr k y H) ⟨same_new hD, [], upd_same, rfl, fun k y e => by simp at e⟩ (fun i H _ p => hG H p.1) (fun i x H H' hi p y => ?_) (fun H p => ?_)
  · have sY := hY i H x H' y
    obtain ⟨s1, ys, e1, e2, e3⟩ := p
    refine hs i x H H' (fun y H4 => ∃ acc, H4 D = some (.lst acc) ∧ acc.length < sizeLine ∧ (Same H1 (upd H4 D (.lst (acc ++ [y]))) ∧ ∃ ys : List V, (upd H4 D (.lst (acc ++ [y]))) D = some (.lst ys) ∧ ys.length = i + 1 ∧ ∀ k z, ys[k]? = some z → Pr k z (upd H4 D (.lst (acc ++ [y]))))) hi s1 y (fun y H4 s4 hp => ?_)
    have h4 : H4 D = some (.lst ys) := s4 _ _ (sY _ _ e1)
    refine ⟨ys, h4, smallL (by omega), same_mut (s1.trans (sY.trans s4)) hD, ys ++ [y], upd_same, by rw [List.length_append, e2]; rfl, fun k z e => ?_⟩
    have tm : Tm H4 (upd H4 D (.lst (ys ++ [y]))) := tm_lst h4
    by_cases hk : k < ys.length
    · rw [List.getElem?_append_left hk] at e
      exact hP k z _ _ ((Same.tm (sY.trans s4)).trans tm) (e3 k z e)
    · rw [List.getElem?_append_right (by omega)] at e
      have hk0 : k - ys.length = 0 := by
        have := (List.getElem?_eq_some_iff.mp e).1
        simp at this
        omega
      rw [hk0] at e
      have ez : y = z := Option.some.inj e
      have ek : k = i := by omega
      rw [← ez, ek]
      exact hP i y _ _ tm hp
  · obtain ⟨s1, ys, e1, e2, e3⟩ := p
    exact hd H ys s1 e1 e2 e3
end
theorem yat_same {xs : List V} : ∀ i H x H', YAt xs i H x H' → Same H H' := fun i H x H' y => by
  rw [y.1]
  exact Same.refl H
theorem yfn_same {f : Nat → V} : ∀ i H x H', YFn f i H x H' → Same H H' := fun i H x H' y => by
  rw [y.1]
  exact Same.refl H
theorem ypair_same {a b : Nat → Option V} : ∀ i H x H', YPair a b i H x H' → Same H H' := fun i H x H' y => by
  obtain ⟨T, x1, x2, _, hT, e, _⟩ := y
  rw [e]
  exact same_new hT
theorem tru {c : Prop} [Decidable c] (h : c) : V.bl (decide c) = V.bl true := by rw [decide_eq_true h]
theorem fls {c : Prop} [Decidable c] (h : ¬ c) : V.bl (decide c) = V.bl false := by rw [decide_eq_false h]
/-! lists of tuples, told as pairs of an address and what stands there -/
abbrev refs {β : Type} (L : List (Addr × β)) : List V := L.map fun q => V.ref q.1
abbrev vN (c : List Nat) : List V := c.map fun (h : Nat) => V.int (h : Int)
def Lp {β : Type} (K : PySem.W.Frag) (f : β → List V) (H : Hp) (L : List (Addr × β)) : Prop := ∀ q ∈ L, SqT K H q.1 (f q.2)
theorem Tm.lp {β : Type} {K : PySem.W.Frag} {f : β → List V} {H H' : Hp} {L : List (Addr × β)} (e : Tm H H') (h : Lp K f H L) : Lp K f H' L := fun q hq => e.t (h q hq)
theorem Same.lp {β : Type} {K : PySem.W.Frag} {f : β → List V} {H H' : Hp} {L : List (Addr × β)} (e : Same H H') (h : Lp K f H L) : Lp K f H' L := fun q hq => Same.t e (h q hq)
theorem to_pairs {β : Type} {K : PySem.W.Frag} {f : β → List V} {H : Hp} : ∀ {ys : List V} {css : List β}, ys.length = css.length → (∀ (i : Nat) (y : V), ys[i]? = some y → ∃ c : β, css[i]? = some c ∧ Tu K H y (f c)) →
    ∃ L : List (Addr × β), ys = refs L ∧ L.map (·.2) = css ∧ Lp K f H L
  | [], [], _, _ => ⟨[], rfl, rfl, fun q hq => absurd hq (by simp)⟩
  | [], _ :: _, e, _ => by simp at e
  | _ :: _, [], e, _ => by simp at e
  | y :: ys, c :: css, e, h => by
    obtain ⟨c', e1, a, e2, s⟩ := h 0 y rfl
    have ec : c = c' := Option.some.inj e1
    obtain ⟨L, h1, h2, h3⟩ := to_pairs (ys := ys) (css := css) (by simpa using e) fun i z hz => h (i + 1) z hz
    refine ⟨(a, c) :: L, ?_, ?_, fun q hq => ?_⟩
    · rw [e2, h1]
      rfl
    · show c :: L.map (·.2) = c :: css
      rw [h2]
    · rcases List.mem_cons.mp hq with z | z
      · rw [z, ec]
        exact s
      · exact h3 q z
theorem refs_at {β : Type} {L : List (Addr × β)} {i : Nat} (h : i < L.length) : (refs L)[i]? = some (.ref L[i].1) := by
  rw [List.getElem?_map, List.getElem?_eq_getElem h]
  rfl
theorem refs_len {β : Type} (L : List (Addr × β)) : (refs L).length = L.length := List.length_map _
theorem Lp.get {β : Type} {K : PySem.W.Frag} {f : β → List V} {H : Hp} {L : List (Addr × β)} (h : Lp K f H L) {i : Nat} (hi : i < L.length) : SqT K H L[i].1 (f L[i].2) := h _ (List.getElem_mem hi)
theorem Lp.app {β : Type} {K : PySem.W.Frag} {f : β → List V} {H : Hp} {L M : List (Addr × β)} (h : Lp K f H L) (k : Lp K f H M) : Lp K f H (L ++ M) := fun q hq => by
  rcases List.mem_append.mp hq with z | z
  · exact h q z
  · exact k q z
/-! slices, ranges by two -/
theorem cut_nat {xs : List V} {i j : Nat} (hij : i ≤ j) (hj : j ≤ xs.length) : cutV xs (some (i : Int)) (some (j : Int)) = (xs.drop i).take (j - i) := by
  unfold cutV
  rw [HT.sIx_nat, HT.sIx_nat, show min i xs.length = i by omega, show min j xs.length = j by omega]
theorem slA_ans {K : PySem.W.Frag} {H : Hp} {Q : VK} {a : Addr} {xs : List V} {lo hi : Option Int} (h : SqT K H a xs) (q : ∀ c H', Same H H' → SqT K H' c (cutV xs lo hi) → Q (.ref c) H') : rSlA K (.ref a) lo hi H Q := by
  refine ⟨a, xs, rfl, h, fun hw => ?_, fun _ p hp => q p _ (same_new hp) (.inl (.inl upd_same))⟩
  have e : cutV xs lo hi = xs := by
    unfold cutV
    rw [hw.1, hw.2, List.drop_zero, Nat.sub_zero, List.take_length]
  refine q a H (Same.refl H) ?_
  rw [e]
  exact h
theorem catA_ans {K : PySem.W.Frag} {H : Hp} {Q : VK} {a b : Addr} {xs ys : List V} (h : SqT K H a xs) (h2 : SqT K H b ys) (hl : xs.length + ys.length ≤ 100000) (q : ∀ c H', Same H H' → SqT K H' c (xs ++ ys) → Q (.ref c) H') : rCatA K (.ref a) (.ref b) H Q := by
  refine ⟨a, b, xs, ys, rfl, rfl, h, h2, small hl, fun e => ?_, fun _ e => ?_, fun _ _ p hp => q p _ (same_new hp) (.inl (.inl upd_same))⟩
  · refine q b H (Same.refl H) ?_
    rw [e]
    exact h2
  · refine q a H (Same.refl H) ?_
    rw [e, List.append_nil]
    exact h
theorem rg_two {i j : Int} {n : Nat} (hi : 0 ≤ i ∧ i ≤ 100) (hj : 0 ≤ j ∧ j ≤ 100) (hn : (i < j → (n : Int) = (j - i - 1) / 2 + 1) ∧ (¬ i < j → n = 0)) : RgC i j 2 n := by
  have e : Builtin.Range.rangeSize i j 2 = n := by
    unfold Builtin.Range.rangeSize
    rw [if_pos (by decide)]
    by_cases c : i < j
    · rw [if_pos c]
      exact (hn.1 c).symm
    · rw [if_neg c, hn.2 c]
      rfl
  refine ⟨by decide, by decide, ?_, e⟩
  unfold Builtin.Range.small
  rw [e]
  have hn2 : n ≤ 51 := by
    by_cases c : i < j
    · have := hn.1 c
      omega
    · have := hn.2 c
      omega
  simp only [Builtin.Range.rangeFitsLong, Bool.and_eq_true, Bool.or_eq_true, decide_eq_true_eq, beq_iff_eq, show ((2 : Int) > 0) by decide, if_true]
  refine ⟨⟨⟨⟨by omega, by omega⟩, by omega, by omega⟩, by omega, by omega⟩, .inr ⟨by omega, by omega⟩⟩
/-! rules with K as a letter of its own, for the bodies of comprehensions -/
section
variable {X : Cx} {K : PySem.W.Frag}
def rLenK (K : PySem.W.Frag) : List V → Hp → VK → Prop := fun xs H Q => ∃ p ys, xs = [.ref p] ∧ (SqL K H p ys ∨ SqT K H p ys) ∧ Q (.int (ys.length : Int)) H
theorem len_K (e : X.K = K) : CallR X (.builtin "len") (rLenK K) := by
  subst e
  exact call_len_seq
theorem ixT_K (e : X.K = K) : IxR X (rIxT K) := by
  subst e
  exact ix_tup
theorem ixL_K (e : X.K = K) : IxR X (rIxL K) := by
  subst e
  exact ix_list
theorem isi_K (e : X.K = K) : CallR X (.builtin "isinstance") (rIsi K) := by
  subst e
  exact call_isi
theorem in_K (e : X.K = K) : OpR X (compareOp .In) (rIn K false) := by
  subst e
  exact op_in_seq
theorem notIn_K (e : X.K = K) : OpR X (compareOp .NotIn) (rIn K true) := by
  subst e
  exact op_notIn_seq
theorem catT_K (e : X.K = K) : OpR X (binaryOp .Add) (rCatA K) := by
  subst e
  exact op_catA
theorem slT_K (e : X.K = K) : SlR X (rSlA K) := by
  subst e
  exact sl_tupA
theorem all_K (e : X.K = K) (hc : X.calm = true) : CallR X (.builtin "all") (rAll K) := by
  subst e
  exact cr_all hc
end
/-! readings of some calls, answered in one line -/
section
variable {K : PySem.W.Frag} {H : Hp} {Q : VK}
theorem ty_tup {a : Addr} {xs : List V} (h : SqT K H a xs) : TyX K H (.ref a) (.type "tuple") := by
  rcases h with (h | ⟨o, h⟩) | ⟨o, its, n, h, c, _⟩
  · exact .base (.tup h)
  · exact .fTuple h
  · exact .kTuple h c
theorem isi_int {i : Int} {T : String} (r : Bool) (h : kitB "int" T = some r) (q : Q (.bl r) H) : rIsi K [.int i, .ty T] H Q := ⟨_, _, _, _, r, rfl, .ty T, .base (.int i), kit_ty h, q⟩
theorem isi_str {x : Str} {T : String} (r : Bool) (h : kitB "str" T = some r) (q : Q (.bl r) H) : rIsi K [.str x, .ty T] H Q := ⟨_, _, _, _, r, rfl, .ty T, .base (.str x), kit_ty h, q⟩
theorem isi_tup {a : Addr} {xs : List V} {T : String} (s : SqT K H a xs) (r : Bool) (h : kitB "tuple" T = some r) (q : Q (.bl r) H) : rIsi K [.ref a, .ty T] H Q := ⟨_, _, _, _, r, rfl, .ty T, ty_tup s, kit_ty h, q⟩
end

/-! texts, zip of tuples, filters by place -/
abbrev tT : Str := "t"
abbrev tN : Str := "n"
abbrev tQ : Str := "?"
theorem vT_len (o : List Str) : (vT o).length = o.length := List.length_map _
theorem vT_at {o : List Str} {i : Nat} (d : Str) (h : i < o.length) : (vT o)[i]? = some (.str (o.getD i d)) := by
  unfold vT
  rw [List.getElem?_map, List.getElem?_eq_getElem h, List.getD_eq_getElem?_getD, List.getElem?_eq_getElem h]
  rfl
theorem eqV_str (a b : Str) : eqV (.str a) (.str b) = decide (a = b) := by
  show (a == b) = decide (a = b)
  by_cases h : a = b
  · rw [decide_eq_true h, h]
    exact beq_self_eq_true b
  · rw [decide_eq_false h]
    exact beq_eq_false_iff_ne.mpr h
theorem walk_zipT {K : PySem.W.Frag} {a b : Addr} {xs ys : List V} (hl : xs.length = ys.length) : Walk (RZ.ItzT K a b) xs.length (fun H => SqT K H a xs ∧ SqT K H b ys) (YPair (fun i => xs[i]?) (fun i => ys[i]?)) := by
  refine ⟨fun i _ hi q => ?_, fun _ q => ⟨xs, ys, q.1, q.2, .inl (Nat.le_refl _)⟩, fun i H v H' _ q y => ?_⟩
  · exact ⟨xs, ys, xs[i], ys[i]'(by omega), q.1, q.2, by simp [hi], by simp [show i < ys.length by omega]⟩
  · obtain ⟨T, x, z, h1, h2, h3, h4, h5⟩ := y
    exact ⟨T, x, z, h1, h2, h3, h4 xs q.1, h5 ys q.2⟩
theorem range_getD {β : Type} (M : List β) (d : β) : (List.range M.length).map (fun i => M.getD i d) = M := by
  apply List.ext_getElem
  · simp
  · intro i h1 h2
    rw [List.getElem_map, List.getElem_range, List.getD_eq_getElem?_getD, List.getElem?_eq_getElem h2]
    rfl
theorem filt_at {β γ : Type} (M : List β) (d : β) (F : β → Bool) (v : β → γ) : ((List.range M.length).filter fun i => F (M.getD i d)).map (fun i => v (M.getD i d)) = (M.filter F).map v := by
  conv => rhs; rw [← range_getD M d]
  rw [List.filter_map, List.map_map]
  rfl
end Qb
end

section
set_option Elab.async false
set_option linter.all false
set_option maxRecDepth 100000
set_option maxHeartbeats 1000000
namespace Qa
open PySem PySem.Spec PyProof.Rows L2 Qb
open Qm (Pap Sq nth sat)
section
variable {P : Program} {w : World} {K : PySem.W.Frag} {mg : Str → Option Value} {base : Heap}
def spWhole : Sp := fun vs H Q _ => ∃ i lo hi : Int, vs = [.int i, .int lo, .int hi] ∧ Q (.bl (decide (lo ≤ i) && decide (i ≤ hi))) H
theorem cal_whole (B : Bls mg) (D : Dn K mg "is_whole" (topS 6) ["value", "low", "high"]) : C8.Cal P w K mg base 1 "is_whole" spWhole [] := by
  refine D.cal (N := ["value", "low", "high"]) (by decide +kernel) (fun vs H Q E h => ?_) (fun f cdv A outer s H vs Q E nd hr h => ?_)
  · obtain ⟨i, lo, hi, rfl, _⟩ := h
    rfl
  · obtain ⟨i, lo, hi, rfl, q⟩ := h
    refine ⟨_, pss_one (ps_ret (pe_and (pe_callB (isi_K (K := K) rfl) (by rfl) B.isinstance boot_isinstance (pa_cons (pv 0) (pa_cons (pe_ty (by rfl) B.int boot_int) pa_nil)))
      (pe_and (pe_not (pe_callB (isi_K (K := K) rfl) (by rfl) B.isinstance boot_isinstance (pa_cons (pv 0) (pa_cons (pe_ty (by rfl) B.bool boot_bool) pa_nil))))
        (pe_one (pe_chain op_le op_le (pv 1) (pv 0) (pv 2)))))), ?_⟩
    refine ⟨_, rfl, .int i, .ty "int", _, _, true, rfl, .ty _, .base (.int i), kit_ty (by decide +kernel), true, rfl, iteT ?_⟩
    refine ⟨_, rfl, .int i, .ty "bool", _, _, false, rfl, .ty _, .base (.int i), kit_ty (by decide +kernel), false, rfl, true, rfl, iteT ?_⟩
    refine ⟨_, rfl, _, rfl, lo, i, rfl, rfl, _, rfl, ?_⟩
    by_cases h1 : lo ≤ i
    · rw [decide_eq_true h1] at q ⊢
      exact iteT ⟨_, rfl, i, hi, rfl, rfl, q⟩
    · rw [decide_eq_false h1] at q ⊢
      exact iteF q

def spPaper (K : PySem.W.Frag) : Sp := fun vs H Q _ => ∃ (a : Addr) (p : List Int), vs = [.ref a] ∧ SqT K H a (vI p) ∧ Pap p ∧ ∀ H', Same H H' → Q (.bl true) H'
theorem vI_at {p : List Int} {i : Nat} (h : i < p.length) : (vI p)[i]? = some (.int (sat p i)) := by
  unfold vI sat
  rw [List.getElem?_map, List.getElem?_eq_getElem h, List.getD_eq_getElem?_getD, List.getElem?_eq_getElem h]
  rfl
theorem vI_len (p : List Int) : (vI p).length = p.length := List.length_map _
theorem vI_nth {p : List Int} {x : Int} (h0 : 0 ≤ x) (h1 : x < (p.length : Int)) : atI (vI p) x = some (.int (nth p x)) := by
  obtain ⟨n, e⟩ : ∃ n : Nat, x = (n : Int) := ⟨x.toNat, by omega⟩
  subst e
  exact atI_nat (by rw [vI_at (by omega)]; rfl)
theorem trues (n : Nat) : ((List.range n).map fun _ => V.bl true) = ((List.range n).map fun _ => true).map V.bl := by
  rw [List.map_map]
  rfl
theorem trues_all (n : Nat) : (((List.range n).map fun _ => true).all id) = true := by
  rw [List.all_eq_true]
  intro b hb
  obtain ⟨i, _, e⟩ := List.mem_map.mp hb
  rw [← e]
  rfl
theorem cal_paper (B : Bls mg) (D : Dn K mg "is_paper" (topS 7) ["value"]) (hM : ∃ u, mg "MOST_MARKS" = some u ∧ RelV (.int 6) u) (cW : C8.Cal P w K mg base 1 "is_whole" spWhole []) : C8.Cal P w K mg base 2 "is_paper" (spPaper K) [] := by
  refine D.cal (N := ["value", "mark"]) (by decide +kernel) (fun vs H Q E h => ?_) (fun f cdv A outer s H vs Q E nd hr h => ?_)
  · obtain ⟨a, p, rfl, _⟩ := h
    rfl
  · obtain ⟨a, p, rfl, hp, hP, q⟩ := h
    have l1 := hP.l1
    have l6 := hP.l6
    refine ⟨_, pss_cons (ps_if (PW.pt (pw_or (pt_not (pt_val (pe_callB (isi_K (K := K) rfl) (by rfl) B.isinstance boot_isinstance (pa_cons (pv 0) (pa_cons (pe_ty (by rfl) B.tuple boot_tuple) pa_nil)))))
        (pw_or1 (pt_not (pt_chain op_le op_le pe_int (pe_callB (len_K (K := K) rfl) (by rfl) B.len PySem.boot_len (pa_cons (pv 0) pa_nil)) (C8.pe_gc (by rfl) hM))))))
        (pss_one (ps_ret pe_bl)) pss_nil)
      (pss_cons (ps_if (pt_not (pt_val (pe_callB (all_K (K := K) rfl rfl) (by rfl) B.all boot_all (pa_cons
          (pe_lc (own := [("mark", 1)]) (g := gName 1) (tt := tYes) rfl nd (pi_tup (pv 0)) (blkOk_by (N := ["value", "mark"]) (sc := C8.fnScope (topS 7)) (by decide +kernel)) (fun _ _ _ _ _ => pg_name (i := 1) nd rfl (Or.inl rfl)) (fun _ _ _ _ _ => pts_nil)
            (fun _ _ _ _ _ => C8.pe_c cW hr (by decide) (by rfl) (pa_cons (pv 1) (pa_cons pe_int (pa_cons (pe_op op_sub (pe_callB (len_K (K := K) rfl) (by rfl) B.len PySem.boot_len (pa_cons (pv 0) pa_nil)) pe_int) pa_nil))))) pa_nil))))
        (pss_one (ps_ret pe_bl)) pss_nil)
      (pss_one (ps_ret (pe_callB (all_K (K := K) rfl rfl) (by rfl) B.all boot_all (pa_cons
          (pe_lc (own := [("mark", 1)]) (g := gName 1) (tt := tYes) rfl nd (pi_range1 (by rfl) B.range (pa_cons (pe_callB (len_K (K := K) rfl) (by rfl) B.len PySem.boot_len (pa_cons (pv 0) pa_nil)) pa_nil)) (blkOk_by (N := ["value", "mark"]) (sc := C8.fnScope (topS 7)) (by decide +kernel)) (fun _ _ _ _ _ => pg_name (i := 1) nd rfl (Or.inl rfl)) (fun _ _ _ _ _ => pts_nil)
            (fun _ _ _ _ _ => pe_cmpR op_eq (pe_ix (ixT_K (K := K) rfl) (pv 0) (pe_ix (ixT_K (K := K) rfl) (pv 0) (pv 1) (fun _ _ => rfl)) (fun _ _ => rfl)) (pv 1) (nomark _))) pa_nil))))), ?_⟩
    -- the form
    refine ⟨.ref a, rfl, .ref a, .ty "tuple", _, _, true, rfl, .ty _, ty_tup hp, kit_ty (by decide +kernel), true, rfl, iteF ?_⟩
    refine ⟨.ref a, rfl, a, _, rfl, .inr hp, 1, ((vI p).length : Int), rfl, rfl, true, ?_, iteT ⟨_, _, rfl, rfl, true, ?_, iteF ?_⟩⟩
    · exact tru (by rw [vI_len]; omega)
    · exact tru (by rw [vI_len]; omega)
    -- all marks
    refine ⟨.ref a, rfl, a, rfl, ⟨_, hp⟩, fun D nD => lc_vals walk_tup yat_same (fun H' s => Same.t s hp) nD (by rw [vI_len]; omega) (fun _ => V.bl true) (fun i x H' H'' R hi s1 y hR => ?_) (fun H' s1 hD => ?_)⟩
    · obtain ⟨e, hx⟩ := y
      subst e
      rw [vI_len] at hi
      rw [vI_at hi] at hx
      have ex := (Option.some.inj hx).symm
      subst ex
      have m := hP.rng _ (Qm.sat_mem hi)
      refine ⟨rfl, _, rfl, .ref a, rfl, a, _, rfl, .inr (Same.t s1 hp), _, _, rfl, rfl, sat p i, 0, _, rfl, ?_⟩
      rw [vI_len, decide_eq_true m.1, decide_eq_true (show sat p i ≤ (p.length : Int) - 1 by omega)]
      exact hR _ (Same.refl _)
    · rw [trues] at hD
      refine ⟨D, _, rfl, .inl (.inl hD), true, ?_, iteF ?_⟩
      · rw [trues_all]
      -- counterparts
      refine ⟨.ref a, rfl, a, _, rfl, .inr (Same.t s1 hp), _, rfl, ?_⟩
      refine ⟨by rw [vI_len]; omega, by rw [vI_len]; omega, fun D2 nD2 => lc_vals walk_range yfn_same (G := fun _ => True) (fun _ _ => trivial) nD2 (by rw [vI_len]; omega) (fun _ => V.bl true) (fun i x H2 H3 R hi s2 y hR => ?_) (fun H2 s2 hD2 => ?_)⟩
      · obtain ⟨e, hx⟩ := y
        subst e
        subst hx
        have e1 : ((vI p).length : Int).toNat = p.length := by rw [vI_len]; omega
        rw [e1] at hi
        have m := hP.rng _ (Qm.nth_mem (p := p) (x := (0 + (i : Int))) (by omega) (by omega))
        refine ⟨rfl, .ref a, rfl, .ref a, rfl, _, rfl, a, _, _, _, rfl, rfl, Same.t (s1.trans s2) hp, vI_nth (x := 0 + (i : Int)) (by omega) (by omega), a, _, _, _, rfl, rfl, Same.t (s1.trans s2) hp, vI_nth m.1 m.2, _, rfl, rfl, ?_⟩
        rw [hP.inv _ (by omega) (by omega), decide_eq_true rfl]
        exact hR _ (Same.refl _)
      · rw [trues] at hD2
        refine ⟨D2, _, rfl, .inl (.inl hD2), ?_⟩
        rw [trues_all]
        exact q _ (s1.trans s2)

def spMarks (K : PySem.W.Frag) : Sp := fun vs H Q _ => ∃ (a b : Addr) (p t : List Int), vs = [.ref a, .ref b] ∧ SqT K H a (vI p) ∧ SqT K H b (vI t) ∧ (∀ x ∈ t, 0 ≤ x ∧ x < (p.length : Int)) ∧ t.length ≤ 16 ∧ ∀ H', Same H H' → Q (.bl true) H'
theorem cal_marks (B : Bls mg) (D : Dn K mg "are_marks" (topS 8) ["paper", "value"]) (cW : C8.Cal P w K mg base 1 "is_whole" spWhole []) : C8.Cal P w K mg base 2 "are_marks" (spMarks K) [] := by
  refine D.cal (N := ["paper", "value", "mark"]) (by decide +kernel) (fun vs H Q E h => ?_) (fun f cdv A outer s H vs Q E nd hr h => ?_)
  · obtain ⟨a, b, p, t, rfl, _⟩ := h
    rfl
  · obtain ⟨a, b, p, t, rfl, hp, ht, hm, hl, q⟩ := h
    refine ⟨_, pss_one (ps_ret (pe_and (pe_callB (isi_K (K := K) rfl) (by rfl) B.isinstance boot_isinstance (pa_cons (pv 1) (pa_cons (pe_ty (by rfl) B.tuple boot_tuple) pa_nil)))
      (pe_one (pe_callB (all_K (K := K) rfl rfl) (by rfl) B.all boot_all (pa_cons
          (pe_lc (own := [("mark", 2)]) (g := gName 2) (tt := tYes) rfl nd (pi_tup (pv 1)) (blkOk_by (N := ["paper", "value", "mark"]) (sc := C8.fnScope (topS 8)) (by decide +kernel)) (fun _ _ _ _ _ => pg_name (i := 2) nd rfl (Or.inl rfl)) (fun _ _ _ _ _ => pts_nil)
            (fun _ _ _ _ _ => C8.pe_c cW hr (by decide) (by rfl) (pa_cons (pv 2) (pa_cons pe_int (pa_cons (pe_op op_sub (pe_callB (len_K (K := K) rfl) (by rfl) B.len PySem.boot_len (pa_cons (pv 0) pa_nil)) pe_int) pa_nil))))) pa_nil))))), ?_⟩
    refine ⟨.ref b, rfl, .ref b, .ty "tuple", _, _, true, rfl, .ty _, ty_tup ht, kit_ty (by decide +kernel), true, rfl, iteT ?_⟩
    refine ⟨.ref b, rfl, b, rfl, ⟨_, ht⟩, fun D nD => lc_vals walk_tup yat_same (fun H' s => Same.t s ht) nD (by rw [vI_len]; omega) (fun _ => V.bl true) (fun i x H' H'' R hi s1 y hR => ?_) (fun H' s1 hD => ?_)⟩
    · obtain ⟨e, hx⟩ := y
      subst e
      rw [vI_len] at hi
      rw [vI_at hi] at hx
      have ex := (Option.some.inj hx).symm
      subst ex
      have m := hm _ (Qm.sat_mem hi)
      refine ⟨rfl, _, rfl, .ref a, rfl, a, _, rfl, .inr (Same.t s1 hp), _, _, rfl, rfl, sat t i, 0, _, rfl, ?_⟩
      rw [vI_len, decide_eq_true m.1, decide_eq_true (show sat t i ≤ (p.length : Int) - 1 by omega)]
      exact hR _ (Same.refl _)
    · rw [trues] at hD
      refine ⟨D, _, rfl, .inl (.inl hD), ?_⟩
      rw [trues_all]
      exact q _ s1
theorem cal_seq (B : Bls mg) (D : Dn K mg "is_sequence" (topS 9) ["paper", "value"]) (hM : ∃ u, mg "MOST_LEAVES" = some u ∧ RelV (.int 16) u) (cM : C8.Cal P w K mg base 2 "are_marks" (spMarks K) []) : C8.Cal P w K mg base 3 "is_sequence" (spMarks K) [] := by
  refine D.cal (N := ["paper", "value"]) (by decide +kernel) (fun vs H Q E h => ?_) (fun f cdv A outer s H vs Q E nd hr h => ?_)
  · obtain ⟨a, b, p, t, rfl, _⟩ := h
    rfl
  · obtain ⟨a, b, p, t, rfl, hp, ht, hm, hl, q⟩ := h
    refine ⟨_, pss_one (ps_ret (pe_and (C8.pe_c cM hr (by decide) (by rfl) (pa_cons (pv 0) (pa_cons (pv 1) pa_nil)))
      (pe_one (pe_cmpR op_le (pe_callB (len_K (K := K) rfl) (by rfl) B.len PySem.boot_len (pa_cons (pv 1) pa_nil)) (C8.pe_gc (by rfl) hM) (nomark _))))), ?_⟩
    refine ⟨_, rfl, _, rfl, a, b, p, t, rfl, hp, ht, hm, hl, fun H' s1 => ⟨true, rfl, iteT ⟨_, rfl, b, _, rfl, .inr (Same.t s1 ht), _, _, rfl, rfl, ?_⟩⟩⟩
    have e : V.bl (decide (((vI t).length : Int) ≤ 16)) = V.bl true := tru (by rw [vI_len]; omega)
    show Q (V.bl (decide (((vI t).length : Int) ≤ 16))) H'
    rw [e]
    exact q H' s1

/-! gatherings -/
def isG (p t : List Int) : Prop := Qm.G p t 0 t.length
def spConf (K : PySem.W.Frag) : Sp := fun vs H Q _ => ∃ (a b : Addr) (p t : List Int), vs = [.ref a, .ref b] ∧ SqT K H a (vI p) ∧ SqT K H b (vI t) ∧ (∀ x ∈ t, 0 ≤ x ∧ x < (p.length : Int)) ∧ t.length ≤ 16 ∧
  ∀ v H', Same H H' → (v = .non ↔ isG p t) → Q v H'
theorem cal_conf (B : Bls mg) (D : Dn K mg "conflict_of" (topS 11) ["paper", "sequence"]) : C8.Cal P w K mg base 1 "conflict_of" (spConf K) [] := by
  refine D.cal (N := ["paper", "sequence", "many", "leaf"]) (by decide +kernel) (fun vs H Q E h => ?_) (fun f cdv A outer s H vs Q E nd hr h => ?_)
  · obtain ⟨a, b, p, t, rfl, _⟩ := h
    rfl
  · obtain ⟨a, b, p, t, rfl, hp, ht, hm, hl, q⟩ := h
    refine ⟨_, pss_cons (ps_set (i := 2) nd rfl (.inl rfl) (pe_callB (len_K (K := K) rfl) (by rfl) B.len PySem.boot_len (pa_cons (pv 1) pa_nil)))
      (pss_cons (ps_if (pt_cmpR op_eq (pv 2) pe_int (nomark _)) (pss_one (ps_ret (pe_tup pa_nil))) pss_nil)
      (pss_cons (ps_if (pt_cmpR op_eq (pe_op op_mod (pv 2) pe_int) pe_int (nomark _)) (pss_one (ps_ret (pe_tup (pa_cons (pe_op op_fdiv (pv 2) pe_int) pa_nil)))) pss_nil)
      (pss_cons (ps_for PassesOwn.never rfl (pi_range1 (by rfl) B.range (pa_cons (pe_op op_fdiv (pv 2) pe_int) pa_nil)) (pg_name (i := 3) nd rfl (.inl rfl))
        (pss_one (ps_if (pt_cmpR op_ne (pe_ix (ixT_K (K := K) rfl) (pv 0) (pe_ix (ixT_K (K := K) rfl) (pv 1) (pv 3) (fun _ _ => rfl)) (fun _ _ => rfl)) (pe_ix (ixT_K (K := K) rfl) (pv 1) (pe_op op_sub (pe_op op_sub (pv 2) pe_int) (pv 3)) (fun _ _ => rfl)) (nomark _))
          (pss_one (ps_ret (pe_tup (pa_cons (pv 3) (pa_cons (pe_op op_sub (pe_op op_sub (pv 2) pe_int) (pv 3)) pa_nil))))) pss_nil)))
      (pss_one (ps_ret pe_non))))), ?_⟩
    refine ⟨.ref b, rfl, b, _, rfl, .inr ht, ?_⟩
    rw [vI_len]
    refine ⟨_, rfl, rfl, _, rfl, ite2 (fun c => ?_) (fun c => ?_)⟩
    · have c0 : (t.length : Int) = 0 := V.int.inj (of_decide_eq_true c)
      refine ⟨Nat.zero_le _, fun o no => q _ _ (same_new no) ⟨fun z => (nomatch z), fun g => ?_⟩⟩
      have := g.1
      omega
    · have c0 : (t.length : Int) ≠ 0 := fun z => c (decide_eq_true (congrArg V.int z))
      refine ⟨_, rfl, _, _, rfl, rfl, (by show (0 : Int) < 2; decide), rfl, _, rfl, ite2 (fun d => ?_) (fun d => ?_)⟩
      · have d0 : (t.length : Int) % 2 = 1 := V.int.inj (of_decide_eq_true d)
        refine ⟨_, rfl, _, _, rfl, rfl, ⟨by decide, by decide⟩, (by show 1 ≤ sizeLine; decide), fun o no => q _ _ (same_new no) ⟨fun z => (nomatch z), fun g => ?_⟩⟩
        have := g.2.2.1
        omega
      · have d0 : (t.length : Int) % 2 ≠ 1 := fun z => d (decide_eq_true (congrArg V.int z))
        have half : ((t.length : Int) / 2) = ((t.length / 2 : Nat) : Int) := by omega
        refine ⟨_, rfl, _, _, rfl, rfl, ⟨by decide, by decide⟩, _, rfl, by omega, by omega, for_it walk_range (fun i σ H1 => (∃ y, σ = [some (.ref a), some (.ref b), some (.int t.length), y]) ∧ Same H H1 ∧ ∀ k : Nat, k < i → nth p (sat t k) = sat t (t.length - 1 - k)) ⟨⟨_, rfl⟩, Same.refl _, fun k hk => absurd hk (by omega)⟩ (fun _ _ _ _ _ => trivial) (fun i x σ H1 H2 hi hw y => ?_) (fun σ H1 hw => ?_)⟩
        · obtain ⟨⟨y3, rfl⟩, s1, hk⟩ := hw
          obtain ⟨e1, e2⟩ := y
          subst e1
          subst e2
          have hi2 : i < t.length / 2 := by omega
          have e0 : (0 : Int) + (i : Int) = (i : Int) := Int.zero_add _
          have m := hm _ (Qm.sat_mem (s := t) (i := i) (by omega))
          have e3 : (t.length : Int) - 1 - (0 + (i : Int)) = ((t.length - 1 - i : Nat) : Int) := by omega
          refine ⟨.ref a, rfl, .ref b, rfl, _, rfl, b, _, _, _, rfl, rfl, Same.t s1 ht, (by rw [e0]; exact atI_nat (vI_at (by omega))), a, _, _, _, rfl, rfl, Same.t s1 hp, vI_nth m.1 m.2, .ref b, rfl, _, rfl, _, _, rfl, rfl, _, rfl, _, _, rfl, rfl, b, _, _, _, rfl, rfl, Same.t s1 ht, (by rw [e3]; exact atI_nat (vI_at (by omega))), rfl, _, rfl, ?_⟩
          by_cases c1 : nth p (sat t i) = sat t (t.length - 1 - i)
          · rw [c1, decide_eq_true rfl]
            refine iteF ⟨⟨_, rfl⟩, s1, fun k hk2 => ?_⟩
            by_cases ek : k = i
            · rw [ek]
              exact c1
            · exact hk k (by omega)
          · rw [decide_eq_false (fun z => c1 (V.int.inj z))]
            refine iteT ⟨_, rfl, _, rfl, _, _, rfl, rfl, _, rfl, _, _, rfl, rfl, (by show 2 ≤ sizeLine; decide), fun o no => q _ _ (s1.trans (same_new no)) ⟨fun z => (nomatch z), fun g => ?_⟩⟩
            have z := g.2.2.2 i (by omega)
            rw [Nat.zero_add] at z
            exact absurd z c1
        · obtain ⟨⟨y3, rfl⟩, s1, hk⟩ := hw
          refine q _ _ s1 ⟨fun _ => ⟨by omega, Nat.le_refl _, by omega, fun k hk2 => ?_⟩, fun _ => rfl⟩
          rw [Nat.zero_add]
          exact hk k (by omega)
end
end Qa
end

section
set_option Elab.async false
set_option linter.all false
set_option maxRecDepth 100000
set_option maxHeartbeats 1000000
namespace Qa
open PySem PySem.Spec PyProof.Rows L2 Qb
open Qm (Pap Sq nth sat sl IsSh Fac sums)
section
variable {P : Program} {w : World} {K : PySem.W.Frag} {mg : Str → Option Value} {base : Heap}
instance (p t : List Int) : Decidable (isG p t) := inferInstanceAs (Decidable (Qm.G p t 0 t.length))
def spGath (K : PySem.W.Frag) : Sp := fun vs H Q _ => ∃ (a b : Addr) (p t : List Int), vs = [.ref a, .ref b] ∧ SqT K H a (vI p) ∧ SqT K H b (vI t) ∧ (∀ x ∈ t, 0 ≤ x ∧ x < (p.length : Int)) ∧ t.length ≤ 16 ∧
  ∀ H', Same H H' → Q (.bl (decide (isG p t))) H'
theorem cal_gath (D : Dn K mg "is_gathering_of" (topS 12) ["paper", "sequence"]) (cC : C8.Cal P w K mg base 1 "conflict_of" (spConf K) []) : C8.Cal P w K mg base 2 "is_gathering_of" (spGath K) [] := by
  refine D.cal (N := ["paper", "sequence"]) (by decide +kernel) (fun vs H Q E h => ?_) (fun f cdv A outer s H vs Q E nd hr h => ?_)
  · obtain ⟨a, b, p, t, rfl, _⟩ := h
    rfl
  · obtain ⟨a, b, p, t, rfl, hp, ht, hm, hl, q⟩ := h
    refine ⟨_, pss_one (ps_ret (pe_cmpR op_isN (C8.pe_c cC hr (by decide) (by rfl) (pa_cons (pv 0) (pa_cons (pv 1) pa_nil))) pe_non (nomark _))), ?_⟩
    refine ⟨_, rfl, _, rfl, a, b, p, t, rfl, hp, ht, hm, hl, fun v H' s1 iff => ⟨rfl, ?_⟩⟩
    rw [decide_eq_decide.mpr iff]
    exact q H' s1
theorem vI_cut {t : List Int} {i j : Nat} (hij : i ≤ j) (hj : j ≤ t.length) : cutV (vI t) (some (i : Int)) (some (j : Int)) = vI (sl t i j) := by
  rw [cut_nat hij (by rw [vI_len]; exact hj)]
  unfold vI sl
  rw [List.map_take, List.map_drop]
theorem isG_sl {p t : List Int} {i j : Nat} (hij : i ≤ j) (hj : j ≤ t.length) : isG p (sl t i j) ↔ Qm.G p t i j := Qm.G_sl hij hj

/-! factors -/
def spShort (K : PySem.W.Frag) : Sp := fun vs H Q _ => ∃ (a b : Addr) (p t : List Int) (i : Nat), vs = [.ref a, .ref b, .int i] ∧ SqT K H a (vI p) ∧ SqT K H b (vI t) ∧ Sq p t ∧ i ≤ t.length ∧
  ∀ (L : Nat) H', Same H H' → IsSh p t i L → Q (.int L) H'
theorem cal_short (B : Bls mg) (D : Dn K mg "shortest_at" (topS 14) ["paper", "sequence", "start"]) (cG : C8.Cal P w K mg base 2 "is_gathering_of" (spGath K) []) : C8.Cal P w K mg base 3 "shortest_at" (spShort K) [] := by
  refine D.cal (N := ["paper", "sequence", "start", "end"]) (by decide +kernel) (fun vs H Q E h => ?_) (fun f cdv A outer s H vs Q E nd hr h => ?_)
  · obtain ⟨a, b, p, t, i, rfl, _⟩ := h
    rfl
  · obtain ⟨a, b, p, t, i, rfl, hp, ht, hS, hi, q⟩ := h
    have l16 := hS.l16
    refine ⟨_, pss_cons (ps_for PassesOwn.never rfl (pi_range3 (by rfl) B.range (pa_cons (pe_op op_add (pv 2) pe_int) (pa_cons (pe_op op_add (pe_callB (len_K (K := K) rfl) (by rfl) B.len PySem.boot_len (pa_cons (pv 1) pa_nil)) pe_int) (pa_cons pe_int pa_nil)))) (pg_name (i := 3) nd rfl (.inl rfl))
        (pss_one (ps_if (pt_val (C8.pe_c cG hr (by decide) (by rfl) (pa_cons (pv 0) (pa_cons (pe_slice (slT_K (K := K) rfl) (pv 1) (po_some (pv 2)) (po_some (pv 3))) pa_nil)))) (pss_one (ps_ret (pe_op op_sub (pv 3) (pv 2)))) pss_nil)))
      (pss_one (ps_ret pe_int)), ?_⟩
    refine ⟨_, rfl, _, _, rfl, rfl, .ref b, rfl, b, _, rfl, .inr ht, _, _, rfl, rfl, _, _, _, (t.length - i) / 2, rfl, rg_two (by omega) (by rw [vI_len]; omega) (by rw [vI_len]; omega), ?_⟩
    refine for_it walk_rangeC (fun k σ H1 => (∃ y, σ = [some (.ref a), some (.ref b), some (.int i), y]) ∧ Same H H1 ∧ ∀ e, e < i + 2 + 2 * k → ¬ Qm.G p t i e) ⟨⟨_, rfl⟩, Same.refl _, fun e he g => ?_⟩ (fun _ _ _ _ _ => trivial) (fun k x σ H1 H2 hk hw y => ?_) (fun σ H1 hw => ?_)
    · have := g.1
      have := g.2.2.1
      omega
    · obtain ⟨⟨y3, rfl⟩, s1, no⟩ := hw
      obtain ⟨e1, e2⟩ := y
      subst e1
      have ee : (i : Int) + 2 + ((k : Nat) : Int) * 2 = ((i + 2 + 2 * k : Nat) : Int) := by omega
      have e2 : x = V.int ((i + 2 + 2 * k : Nat) : Int) := e2.trans (congrArg V.int ee)
      subst e2
      refine ⟨.ref a, rfl, .ref b, rfl, _, rfl, _, rfl, _, rfl, _, rfl, slA_ans (Same.t s1 ht) fun c H3 s3 hc => ?_⟩
      rw [vI_cut (by omega) (by omega)] at hc
      refine ⟨a, c, p, sl t i (i + 2 + 2 * k), rfl, Same.t (s1.trans s3) hp, hc, fun x hx => hS.rng x (Qm.sl_mem hx), by rw [Qm.sl_len (by omega)]; omega, fun H4 s4 => ⟨_, rfl, ite2 (fun g => ?_) (fun g => ?_)⟩⟩
      · have g1 := (isG_sl (by omega) (by omega)).mp (of_decide_eq_true g)
        refine ⟨_, rfl, _, rfl, _, _, rfl, rfl, ?_⟩
        have e3 : ((i + 2 + 2 * k : Nat) : Int) - (i : Int) = ((2 + 2 * k : Nat) : Int) := by omega
        dsimp only
        rw [e3]
        refine q _ H4 ((s1.trans s3).trans s4) (.inr ⟨by omega, ?_, fun e he => no e (by omega)⟩)
        rw [show i + (2 + 2 * k) = i + 2 + 2 * k by omega]
        exact g1
      · refine ⟨⟨_, rfl⟩, (s1.trans s3).trans s4, fun e he g2 => ?_⟩
        by_cases c1 : e < i + 2 + 2 * k
        · exact no e c1 g2
        · have h3 := g2.2.2.1
          have h1 := g2.1
          have e4 : e = i + 2 + 2 * k := by omega
          rw [e4] at g2
          exact g (decide_eq_true ((isG_sl (by omega) (by omega)).mpr g2))
    · obtain ⟨⟨y3, rfl⟩, s1, no⟩ := hw
      refine q 0 H1 s1 (.inl ⟨rfl, fun e g => no e ?_ g⟩)
      have := g.2.1
      have := g.2.2.1
      omega

def spSplit (K : PySem.W.Frag) : Sp := fun vs H Q _ => ∃ (a b : Addr) (p t : List Int), vs = [.ref a, .ref b] ∧ SqT K H a (vI p) ∧ SqT K H b (vI t) ∧ Sq p t ∧
  ∀ (r c : Addr) (ls : List Nat) (z : V) H', Same H H' → Fac p t 0 ls → SqT K H' r [.ref c, z] → SqT K H' c (ls.map fun (L : Nat) => V.int (L : Int)) → Q (.ref r) H'
theorem cal_split (B : Bls mg) (D : Dn K mg "split_of" (topS 15) ["paper", "sequence"]) (cS : C8.Cal P w K mg base 3 "shortest_at" (spShort K) []) : C8.Cal P w K mg base 4 "split_of" (spSplit K) [] := by
  refine D.cal (N := ["paper", "sequence", "lengths", "start", "length"]) (by decide +kernel) (fun vs H Q E h => ?_) (fun f cdv A outer s H vs Q E nd hr h => ?_)
  · obtain ⟨a, b, p, t, rfl, _⟩ := h
    rfl
  · obtain ⟨a, b, p, t, rfl, hp, ht, hS, q⟩ := h
    have l16 := hS.l16
    refine ⟨_, pss_cons (ps_set (i := 2) nd rfl (.inl rfl) (pe_lst pa_nil))
      (pss_cons (ps_set (i := 3) nd rfl (.inl rfl) pe_int)
      (pss_cons (ps_set (i := 4) nd rfl (.inl rfl) (C8.pe_c cS hr (by decide) (by rfl) (pa_cons (pv 0) (pa_cons (pv 1) (pa_cons pe_int pa_nil)))))
      (pss_cons (ps_while PassesOwn.never (pt_cmpR op_gt (pv 4) pe_int (nomark _))
        (pss_cons (ps_expr (pe_bm PySem.F.plainAttrs_list PySem.F.slot_list_append PySem.F.type_list_append mt_append (pv 2) (pa_cons (pv 4) pa_nil)))
        (pss_cons (ps_set (i := 3) nd rfl (.inl rfl) (pe_op op_add (pv 3) (pv 4)))
        (pss_one (ps_set (i := 4) nd rfl (.inl rfl) (C8.pe_c cS hr (by decide) (by rfl) (pa_cons (pv 0) (pa_cons (pv 1) (pa_cons (pv 3) pa_nil)))))))))
      (pss_one (ps_ret (pe_tup (pa_cons (pe_callTy call_tuple_of (by rfl) B.tuple boot_tuple (pa_cons (pv 2) pa_nil)) (pa_cons (pe_op op_sub (pe_callB (len_K (K := K) rfl) (by rfl) B.len PySem.boot_len (pa_cons (pv 1) pa_nil)) (pv 3)) pa_nil)))))))), ?_⟩
    refine ⟨Nat.zero_le _, fun l nl => ?_⟩
    have s1 : Same H (upd H l (.lst [])) := same_new nl
    refine ⟨_, rfl, _, rfl, a, b, p, t, 0, rfl, Same.t s1 hp, Same.t s1 ht, hS, Nat.zero_le _, fun L H2 s2 hL => ?_⟩
    -- the word of the while
    refine ⟨fun m σ H3 => ∃ (ls : List Nat) (i L : Nat), σ = [some (.ref a), some (.ref b), some (.ref l), some (.int i), some (.int L)] ∧ Same H H3 ∧ H3 l = some (.lst (ls.map fun (L : Nat) => V.int (L : Int))) ∧ i ≤ t.length ∧ ls.length ≤ i ∧ m = t.length - i ∧ IsSh p t i L ∧ ∀ rs, Fac p t i rs → Fac p t 0 (ls ++ rs),
      ⟨t.length, [], 0, L, rfl, s1.trans s2, s2 _ _ upd_same, Nat.zero_le _, Nat.zero_le _, rfl, hL, fun rs h => h⟩, fun m σ H3 hW => ?_⟩
    obtain ⟨ls, i, L, rfl, s3, hl, hi, hn, rfl, hsh, fac⟩ := hW
    refine ⟨_, rfl, _, _, rfl, rfl, _, rfl, ite2 (fun c => ?_) (fun c => ?_)⟩
    · have c0 : (0 : Int) < (L : Int) := of_decide_eq_true c
      have hLp : 0 < L := by omega
      have g : Qm.G p t i (i + L) := by
        rcases hsh with z | z
        · omega
        · exact z.2.1
      have g2 := g.2.1
      refine ⟨fun σ H3 => ∃ (ls : List Nat) (j L : Nat), σ = [some (.ref a), some (.ref b), some (.ref l), some (.int j), some (.int L)] ∧ i < j ∧ Same H H3 ∧ H3 l = some (.lst (ls.map fun (L : Nat) => V.int (L : Int))) ∧ j ≤ t.length ∧ ls.length ≤ j ∧ IsSh p t j L ∧ ∀ rs, Fac p t j rs → Fac p t 0 (ls ++ rs),
        fun σ' H' hN => ?_, ?_⟩
      · obtain ⟨ls2, j, L2, e1, e2, e3, e4, e5, e6, e7, e8⟩ := hN
        exact ⟨t.length - j, by omega, ls2, j, L2, e1, e3, e4, e5, e6, rfl, e7, e8⟩
      · refine ⟨.ref l, rfl, .inl ⟨rfl, _, .inl (.inl hl)⟩, _, rfl, l, _, _, rfl, rfl, hl, ?_, ?_⟩
        · rw [List.length_map]
          exact smallL (by omega)
        · refine ⟨_, rfl, _, rfl, _, _, rfl, rfl, ?_⟩
          have ei : (i : Int) + (L : Int) = ((i + L : Nat) : Int) := by omega
          dsimp only
          rw [ei]
          have s4 : Same H (upd H3 l (.lst ((ls.map fun (L : Nat) => V.int (L : Int)) ++ [.int (L : Int)]))) := same_mut s3 nl
          refine ⟨_, rfl, _, rfl, _, rfl, a, b, p, t, i + L, rfl, Same.t s4 hp, Same.t s4 ht, hS, g2, fun L2 H5 s5 hL2 => ⟨ls ++ [L], i + L, L2, rfl, by omega, s4.trans s5, ?_, g2, ?_, hL2, fun rs hf => ?_⟩⟩
          · rw [s5 _ _ upd_same, List.map_append]
            rfl
          · rw [List.length_append]
            show ls.length + 1 ≤ i + L
            omega
          · rw [List.append_assoc]
            exact fac _ ⟨hLp, hsh, hf⟩
    · have c0 : ¬ (0 : Int) < (L : Int) := fun z => c (decide_eq_true z)
      have hL0 : L = 0 := by omega
      subst hL0
      have hf : Fac p t 0 (ls ++ []) := fac [] hsh
      rw [List.append_nil] at hf
      refine ⟨.ref l, rfl, l, _, rfl, .inl ⟨.inl (.inl hl), fun c nc => ?_⟩⟩
      have s4 := s3.trans (same_new (o := .tup (ls.map fun (L : Nat) => V.int (L : Int))) nc)
      refine ⟨.ref b, rfl, b, _, rfl, .inr (Same.t s4 ht), _, rfl, _, _, rfl, rfl, (by show 2 ≤ sizeLine; decide), fun r nr => ?_⟩
      exact q r c ls _ _ (s4.trans (same_new nr)) hf (.inl (.inl upd_same)) (.inl (.inl (same_new nr _ _ upd_same)))

def spStarts (K : PySem.W.Frag) : Sp := fun vs H Q _ => ∃ (a b : Addr) (p t : List Int), vs = [.ref a, .ref b] ∧ SqT K H a (vI p) ∧ SqT K H b (vI t) ∧ Sq p t ∧
  ∀ (r : Addr) (ls : List Nat) H', Same H H' → Fac p t 0 ls → H r = none → H' r = some (.lst ((sums 0 ls).map fun (x : Nat) => V.int (x : Int))) → Q (.ref r) H'
theorem cal_starts (D : Dn K mg "starts_of" (topS 16) ["paper", "sequence"]) (cS : C8.Cal P w K mg base 4 "split_of" (spSplit K) []) : C8.Cal P w K mg base 5 "starts_of" (spStarts K) [] := by
  refine D.cal (N := ["paper", "sequence", "found", "length"]) (by decide +kernel) (fun vs H Q E h => ?_) (fun f cdv A outer s H vs Q E nd hr h => ?_)
  · obtain ⟨a, b, p, t, rfl, _⟩ := h
    rfl
  · obtain ⟨a, b, p, t, rfl, hp, ht, hS, q⟩ := h
    have l16 := hS.l16
    refine ⟨_, pss_cons (ps_set (i := 2) nd rfl (.inl rfl) (pe_lst (pa_cons pe_int pa_nil)))
      (pss_cons (ps_for PassesOwn.never rfl (pi_tup (pe_ix (ixT_K (K := K) rfl) (C8.pe_c cS hr (by decide) (by rfl) (pa_cons (pv 0) (pa_cons (pv 1) pa_nil))) pe_int (fun _ _ => rfl))) (pg_name (i := 3) nd rfl (.inl rfl))
        (pss_one (ps_expr (pe_bm PySem.F.plainAttrs_list PySem.F.slot_list_append PySem.F.type_list_append mt_append (pv 2) (pa_cons (pe_op op_add (pe_ix (ixL_K (K := K) rfl) (pv 2) (pe_un un_neg pe_int) (fun _ _ => rfl)) (pv 3)) pa_nil)))))
      (pss_one (ps_ret (pv 2)))), ?_⟩
    refine ⟨(by show 1 ≤ sizeLine; decide), fun l nl => ?_⟩
    have s1 : Same H (upd H l (.lst [.int 0])) := same_new nl
    refine ⟨_, rfl, _, rfl, a, b, p, t, rfl, Same.t s1 hp, Same.t s1 ht, hS, fun r c ls z H2 s2 hf hr2 hc => ?_⟩
    have num := Qm.fac_num ls 0 (Nat.zero_le _) hf
    refine ⟨r, _, 0, .ref c, rfl, rfl, hr2, atI_nat (j := 0) rfl, c, rfl, ⟨_, hc⟩, ?_⟩
    have hlen : (ls.map fun (L : Nat) => V.int (L : Int)).length = ls.length := List.length_map _
    refine for_it walk_tup (fun k σ H3 => (∃ y, σ = [some (.ref a), some (.ref b), some (.ref l), y]) ∧ Same H H3 ∧ SqT K H3 c (ls.map fun (L : Nat) => V.int (L : Int)) ∧ H3 l = some (.lst ((sums 0 (ls.take k)).map fun (x : Nat) => V.int (x : Int)))) ⟨⟨_, rfl⟩, s1.trans s2, hc, s2 _ _ upd_same⟩ (fun k σ H3 _ hw => hw.2.2.1) (fun k x σ H3 H4 hk hw y => ?_) (fun σ H3 hw => ?_)
    · obtain ⟨⟨y3, rfl⟩, s3, hc3, hl3⟩ := hw
      obtain ⟨e1, e2⟩ := y
      subst e1
      rw [hlen] at hk
      have e3 : ls[k]? = some ls[k] := List.getElem?_eq_getElem hk
      rw [List.getElem?_map, e3] at e2
      have e2 : x = V.int (ls[k] : Int) := (Option.some.inj e2).symm
      subst e2
      have lst : atI ((sums 0 (ls.take k)).map fun (x : Nat) => V.int (x : Int)) (-1) = some (.int (((ls.take k).sum : Nat) : Int)) := by
        have q1 := Qm.sums_last (ls.take k) 0
        have q2 := Qm.sums_len (ls.take k) 0
        have q3 : ((sums 0 (ls.take k)).map fun (x : Nat) => V.int (x : Int))[(ls.take k).length]? = some (.int (((ls.take k).sum : Nat) : Int)) := by
          rw [List.getElem?_map, q1, Nat.zero_add]
          rfl
        have q4 : ((sums 0 (ls.take k)).map fun (x : Nat) => V.int (x : Int)).length = (ls.take k).length + 1 := by rw [List.length_map, q2]
        unfold atI ixN
        rw [if_neg (by decide), q4]
        have q5 : (-(((ls.take k).length + 1 : Nat) : Int)) ≤ -1 := by omega
        rw [if_pos q5]
        show ((sums 0 (ls.take k)).map fun (x : Nat) => V.int (x : Int))[((-1 : Int) + (((ls.take k).length + 1 : Nat) : Int)).toNat]? = _
        rw [show ((-1 : Int) + (((ls.take k).length + 1 : Nat) : Int)).toNat = (ls.take k).length by omega]
        exact q3
      refine ⟨.ref l, rfl, .inl ⟨rfl, _, .inl (.inl hl3)⟩, .ref l, rfl, 1, rfl, l, _, _, _, rfl, rfl, .inl (.inl hl3), lst, _, rfl, _, _, rfl, rfl, l, _, _, rfl, rfl, hl3, ?_, ?_⟩
      · rw [List.length_map, Qm.sums_len, List.length_take]
        exact smallL (by omega)
      · refine ⟨⟨_, rfl⟩, same_mut s3 nl, (tm_lst hl3).t hc3, ?_⟩
        rw [upd_same, List.take_add_one, e3]
        show some (HO.lst _) = some (HO.lst ((sums 0 (ls.take k ++ [ls[k]])).map _))
        rw [Qm.sums_snoc, List.map_append, List.sum_append]
        show some (HO.lst (_ ++ [V.int (((ls.take k).sum : Nat) + (ls[k] : Nat) : Int)])) = some (HO.lst (_ ++ [V.int ((0 + ((ls.take k).sum + (ls[k] + 0)) : Nat) : Int)]))
        rw [show ((0 + ((ls.take k).sum + (ls[k] + 0)) : Nat) : Int) = (((ls.take k).sum : Nat) : Int) + ((ls[k] : Nat) : Int) by omega]
    · obtain ⟨⟨y3, rfl⟩, s3, hc3, hl3⟩ := hw
      rw [hlen, List.take_length] at hl3
      exact ⟨_, rfl, q l ls H3 s3 hf nl hl3⟩
end
end Qa
end

section
set_option Elab.async false
set_option linter.all false
set_option maxRecDepth 100000
set_option maxHeartbeats 2000000
namespace Qa
open PySem PySem.Spec PyProof.Rows L2 Qb
open Qm (Pap Sq nth sat sl IsSh Fac sums Tl Fd Colls)
section
variable {P : Program} {w : World} {K : PySem.W.Frag} {mg : Str → Option Value} {base : Heap}
/-- the tails that stand in the dict at d -/
structure TS (K : PySem.W.Frag) (p t : List Int) (H H' : Hp) (r d : Addr) (E : List Nat) (dn : Nat → Prop) (most : Nat) : Prop where
  same : Same H H'
  hr : H' r = some (.lst (vN E))
  ex : ∃ kvs : List (Key × V), H' d = some (.dK kvs) ∧ kvs.length ≤ most ∧ ∀ e, dn e → ∃ (l : Addr) (L : List (Addr × List Nat)), valV kvs (.inl (e : Int)) = some (.ref l) ∧ H l = none ∧ H' l = some (.lst (refs L)) ∧ Lp K vN H' L ∧ Tl p t e (L.map (·.2))
theorem TS.mono {p t : List Int} {H H1 H2 : Hp} {r d : Addr} {E : List Nat} {dn : Nat → Prop} {m : Nat} (h : TS K p t H H1 r d E dn m) (s : Same H1 H2) : TS K p t H H2 r d E dn m := by
  obtain ⟨kvs, h1, h2, h3⟩ := h.ex
  refine ⟨h.same.trans s, s _ _ h.hr, kvs, s _ _ h1, h2, fun e he => ?_⟩
  obtain ⟨l, L, a1, a2, a3, a4, a5⟩ := h3 e he
  exact ⟨l, L, a1, a2, s _ _ a3, Same.lp s a4, a5⟩
def spTails (K : PySem.W.Frag) : Sp := fun vs H Q _ => ∃ (a b : Addr) (p t : List Int), vs = [.ref a, .ref b] ∧ SqT K H a (vI p) ∧ SqT K H b (vI t) ∧ Pap p ∧ Sq p t ∧
  ∀ (d l : Addr) (kvs : List (Key × V)) (L : List (Addr × List Nat)) H', Same H H' → H' d = some (.dK kvs) → valV kvs (.inl 0) = some (.ref l) → H l = none → H' l = some (.lst (refs L)) → Lp K vN H' L → Colls p t (L.map (·.2)) → Q (.ref d) H'
theorem cal_tails (B : Bls mg) (D : Dn K mg "tails_of" (topS 18) ["paper", "sequence"]) (cS : C8.Cal P w K mg base 5 "starts_of" (spStarts K) []) (cG : C8.Cal P w K mg base 2 "is_gathering_of" (spGath K) []) : C8.Cal P w K mg base 6 "tails_of" (spTails K) [] := by
  refine D.cal (N := ["paper", "sequence", "starts", "tails", "start", "found", "end", "tail"]) (by decide +kernel) (fun vs H Q E h => ?_) (fun f cdv A outer s H vs Q E nd hr h => ?_)
  · obtain ⟨a, b, p, t, rfl, _⟩ := h
    rfl
  · obtain ⟨a, b, p, t, rfl, hp, ht, hP, hS, q⟩ := h
    have l16 := hS.l16
    refine ⟨_, pss_cons (ps_set (i := 2) nd rfl (.inl rfl) (C8.pe_c cS hr (by decide) (by rfl) (pa_cons (pv 0) (pa_cons (pv 1) pa_nil))))
      (pss_cons (ps_set (i := 3) nd rfl (.inl rfl) (pe_disp (pps_cons (pe_callB (len_K (K := K) rfl) (by rfl) B.len PySem.boot_len (pa_cons (pv 1) pa_nil)) (pe_lst (pa_cons (pe_tup pa_nil) pa_nil)) pps_nil) (by rfl) (by rfl) (fun z => by cases z) (by decide)))
      (pss_cons (ps_for PassesOwn.never rfl (pi_reversed (by rfl) B.reversed (pa_cons (pv 2) pa_nil)) (pg_name (i := 4) nd rfl (.inr rfl))
        (pss_one (ps_if (pt_cmpR op_lt (pv 4) (pe_callB (len_K (K := K) rfl) (by rfl) B.len PySem.boot_len (pa_cons (pv 1) pa_nil)) (nomark _))
          (pss_cons (ps_set (i := 5) nd rfl (.inl rfl) (pe_lst pa_nil))
          (pss_cons (ps_for PassesOwn.never rfl (pi_list (pv 2)) (pg_name (i := 6) nd rfl (.inr rfl))
            (pss_one (ps_if (PW.pt (pw_and (pt_cmpR op_gt (pv 6) (pv 4) (nomark _)) (pw_and (pt_cmp (pc_din (hu_of hr) (pv 6) (pv 3)))
                (pw_and1 (pt_val (C8.pe_c cG hr (by decide) (by rfl) (pa_cons (pv 0) (pa_cons (pe_slice (slT_K (K := K) rfl) (pv 1) (po_some (pv 4)) (po_some (pv 6))) pa_nil))))))))
              (pss_one (ps_expr (pe_bm PySem.F.plainAttrs_list PySem.F.slot_list_extend PySem.F.type_list_extend mt_extend (pv 5) (pa_cons
                (pe_lc (own := [("tail", 7)]) (g := gName 7) (tt := tYes) rfl nd (pi_list (pe_dget (hu_of hr) (pv 3) (pv 6) (fun _ _ => rfl))) (blkOk_by (N := ["paper", "sequence", "starts", "tails", "start", "found", "end", "tail"]) (sc := C8.fnScope (topS 18)) (by decide +kernel)) (fun _ _ _ _ _ => pg_name (i := 7) nd rfl (Or.inl rfl)) (fun _ _ _ _ _ => pts_nil)
                  (fun _ _ _ _ _ => pe_op (catT_K (K := K) rfl) (pe_tup (pa_cons (pe_op op_fdiv (pe_op op_sub (pv 6) (pv 4)) pe_int) pa_nil)) (pv 7))) pa_nil)))) pss_nil)))
          (pss_one (ps_dput (hu_of hr) (pv 3) (pv 4) (pv 5) rfl)))) pss_nil)))
      (pss_one (ps_ret (pv 3))))), ?_⟩
    refine ⟨_, rfl, _, rfl, a, b, p, t, rfl, hp, ht, hS, fun r ls H1 s1 hf nr hr1 => ?_⟩
    have clo := Qm.fac_clo ls 0 hf
    have asc := Qm.fac_asc ls 0 hf
    have le := Qm.fac_le ls 0 (Nat.zero_le _) hf
    have z0 : (sums 0 ls)[0]? = some 0 := by cases ls <;> rfl
    have num := Qm.fac_num ls 0 (Nat.zero_le _) hf
    have hm0 := Qm.sums_len ls 0
    generalize sums 0 ls = E at clo asc le z0 hr1 hm0
    have hm : E.length ≤ 9 := by omega
    have hvl : (vN E).length = E.length := List.length_map _
    -- {len(sequence): [()]}
    refine fun d nd => ?_
    have t1 : Same H1 (upd H1 d (.dK [])) := same_new nd
    refine ⟨.ref b, rfl, b, _, rfl, .inr (Same.t (s1.trans t1) ht), Nat.zero_le _, fun o no => ⟨(by show 1 ≤ sizeLine; decide), fun l0 nl0 => ?_⟩⟩
    have od : o ≠ d := ne_upd no
    have lo : l0 ≠ o := ne_upd nl0
    have ld : l0 ≠ d := ne_upd (free_upd nl0)
    refine ⟨by rw [upd_ne ld.symm, upd_ne od.symm, upd_same], [(.inl (((vI t).length : Nat) : Int), .ref l0)], rfl, by show 1 ≤ 15; decide, ?_⟩
    have nd0 : H d = none := Same.free s1 nd
    have nl00 : H l0 = none := Same.free s1 (Same.free t1 (free_upd nl0))
    have sW : Same H1 (upd (upd (upd (upd H1 d (.dK [])) o (.tup [])) l0 (.lst [.ref o])) d (.dK (mergeK [] [(.inl (((vI t).length : Nat) : Int), .ref l0)]))) :=
      same_mut (t1.trans ((same_new no).trans (same_new nl0))) nd
    have w0 : TS K p t H (upd (upd (upd (upd H1 d (.dK [])) o (.tup [])) l0 (.lst [.ref o])) d (.dK (mergeK [] [(.inl (((vI t).length : Nat) : Int), .ref l0)]))) r d E (fun e => e = t.length ∨ ∃ i, E.length - 0 ≤ i ∧ E[i]? = some e) 1 := by
      refine ⟨s1.trans sW, sW _ _ hr1, _, upd_same, Nat.le_refl _, fun e he => ⟨l0, [(o, [])], ?_, nl00, ?_, ?_, ?_⟩⟩
      · have ee : e = t.length := by
          rcases he with he | ⟨i, h1, h2⟩
          · exact he
          · have := (List.getElem?_eq_some_iff.mp h2).1
            omega
        rw [ee]
        show valV [(.inl (((vI t).length : Nat) : Int), V.ref l0)] (Sum.inl ((t.length : Nat) : Int) : Key) = _
        rw [vI_len]
        exact valV_pos rfl
      · rw [upd_ne ld, upd_same]
        rfl
      · intro q hq
        rw [List.mem_singleton.mp hq]
        refine .inl (.inl ?_)
        rw [upd_ne od, upd_ne lo.symm, upd_same]
        rfl
      · have ee : e = t.length := by
          rcases he with he | ⟨i, h1, h2⟩
          · exact he
          · have := (List.getElem?_eq_some_iff.mp h2).1
            omega
        rw [ee]
        exact Qm.tl_end
    -- the starts, from the last one
    refine ⟨_, rfl, r, vN E, rfl, .inl (.inl w0.hr), ?_⟩
    refine for_it walk_rev (fun k σ H' => (∃ y4 y5 y6, σ = [some (.ref a), some (.ref b), some (.ref r), some (.ref d), y4, y5, y6, none]) ∧ TS K p t H H' r d E (fun e => e = t.length ∨ ∃ i, E.length - k ≤ i ∧ E[i]? = some e) (k + 1))
      ⟨⟨_, _, _, rfl⟩, w0⟩ (fun k σ H' _ hw => .inl (.inl hw.2.hr)) (fun k x σ Hk Hk' hk hw y => ?_) (fun σ H' hw => ?_)
    · obtain ⟨⟨y4, y5, y6, rfl⟩, W⟩ := hw
      obtain ⟨e1, e2⟩ := y
      subst e1
      rw [hvl] at hk e2
      have hix : E.length - 1 - k < E.length := by omega
      generalize hst : E[E.length - 1 - k] = st at *
      have e3 : E[E.length - 1 - k]? = some st := by rw [List.getElem?_eq_getElem hix, hst]
      rw [List.getElem?_map, e3] at e2
      have e2 : x = V.int (st : Int) := (Option.some.inj e2).symm
      subst e2
      have stE : st ∈ E := List.mem_of_getElem? e3
      have stle := le st stE
      refine ⟨_, rfl, .ref b, rfl, b, _, rfl, .inr (Same.t W.same ht), _, _, rfl, rfl, _, rfl, ite2 (fun c => ?_) (fun c => ?_)⟩
      · rw [vI_len] at c
        have hlt : st < t.length := by
          have c0 : (st : Int) < (t.length : Int) := of_decide_eq_true c
          omega
        refine ⟨Nat.zero_le _, fun fl nfl => ?_⟩
        -- the ends
        refine ⟨.ref r, rfl, r, rfl, ⟨_, .inl (.inl (same_new nfl _ _ W.hr))⟩, ?_⟩
        have nfl0 : H fl = none := Same.free W.same nfl
        refine for_it walk_list (fun j σ H' => (∃ y6, σ = [some (.ref a), some (.ref b), some (.ref r), some (.ref d), some (.int st), some (.ref fl), y6, none]) ∧ Same Hk' H' ∧ ∃ F : List (Addr × List Nat), H' fl = some (.lst (refs F)) ∧ Lp K vN H' F ∧ Fd p t st (E.take j) (F.map (·.2)))
          ⟨⟨_, rfl⟩, same_new nfl, [], upd_same, fun q hq => absurd hq (by simp), Qm.fd_nil st⟩ (fun j σ H' _ hw => .inl (.inl (hw.2.1 _ _ W.hr))) (fun j x σ Hj Hj' hj hw y => ?_) (fun σ H' hw => ?_)
        · obtain ⟨⟨y6, rfl⟩, sj, F, hfl, hF, fd⟩ := hw
          obtain ⟨e1, e2⟩ := y
          subst e1
          rw [hvl] at hj
          generalize hen : E[j] = en at *
          have e4 : E[j]? = some en := by rw [List.getElem?_eq_getElem hj, hen]
          rw [List.getElem?_map, e4] at e2
          have e2 : x = V.int (en : Int) := (Option.some.inj e2).symm
          subst e2
          have enE : en ∈ E := List.mem_of_getElem? e4
          have enle := le en enE
          have tk : E.take (j + 1) = E.take j ++ [en] := by
            rw [List.take_add_one, e4]
            rfl
          have WJ := W.mono sj
          have skip : ¬ Qm.G p t st en → ∀ H', Same Hj' H' → (∃ y6, ([some (.ref a), some (.ref b), some (.ref r), some (.ref d), some (.int st), some (.ref fl), some (V.int en), none] : L2.St) = [some (.ref a), some (.ref b), some (.ref r), some (.ref d), some (.int st), some (.ref fl), y6, none]) ∧ Same Hk' H' ∧ ∃ F : List (Addr × List Nat), H' fl = some (.lst (refs F)) ∧ Lp K vN H' F ∧ Fd p t st (E.take (j + 1)) (F.map (·.2)) :=
            fun ng H' s' => ⟨⟨_, rfl⟩, sj.trans s', F, s' _ _ hfl, Same.lp s' hF, by rw [tk]; exact Qm.fd_skip fd ng⟩
          refine ⟨_, rfl, _, rfl, _, _, rfl, rfl, _, rfl, ite2 (fun c1 => ?_) (fun c1 => ?_)⟩
          · have c2 : st < en := by
              have c0 : (st : Int) < (en : Int) := of_decide_eq_true c1
              omega
            have dn : en = t.length ∨ ∃ i, E.length - k ≤ i ∧ E[i]? = some en := by
              refine .inr ⟨j, ?_, e4⟩
              apply Classical.byContradiction
              intro hno
              rcases Nat.lt_or_ge j (E.length - 1 - k) with h1 | h1
              · have := List.pairwise_iff_getElem.mp asc j (E.length - 1 - k) hj hix h1
                rw [hst, hen] at this
                omega
              · have h2 : j = E.length - 1 - k := by omega
                subst h2
                rw [hst] at hen
                omega
            obtain ⟨kvs, hd, hkl, htl⟩ := WJ.ex
            obtain ⟨l, L, hv, nl, hl, hL, tl⟩ := htl en dn
            have dg : DGet Hj' d (.int (en : Int)) (some (.ref l)) := by
              rw [← hv]
              exact DGet.k (k := .inl (en : Int)) hd
            refine ⟨_, rfl, .ref d, rfl, d, _, rfl, dg, true, rfl, iteT ?_⟩
            refine ⟨.ref a, rfl, .ref b, rfl, _, rfl, _, rfl, _, rfl, _, rfl, slA_ans (Same.t WJ.same ht) fun cc H3 s3 hc => ?_⟩
            rw [vI_cut (by omega) enle] at hc
            refine ⟨a, cc, p, sl t st en, rfl, Same.t (WJ.same.trans s3) hp, hc, fun x hx => hS.rng x (Qm.sl_mem hx), by rw [Qm.sl_len enle]; omega, fun H4 s4 => ⟨_, rfl, ite2 (fun g => ?_) (fun g => ?_)⟩⟩
            · have g1 := (isG_sl (by omega) enle).mp (of_decide_eq_true g)
              have s34 := s3.trans s4
              have dg4 : DGet H4 d (.int (en : Int)) (some (.ref l)) := by
                rw [← hv]
                exact DGet.k (k := .inl (en : Int)) (s34 _ _ hd)
              refine ⟨.ref fl, rfl, .inl ⟨rfl, _, .inl (.inl (s34 _ _ hfl))⟩, .ref d, rfl, _, rfl, d, .ref l, rfl, dg4, l, rfl, ⟨_, .inl (.inl (s34 _ _ hl))⟩, fun D nD => ?_⟩
              have few := Qm.tl_few tl l16
              have few2 := Qm.fd_few fd l16
              rw [List.length_map] at few few2
              refine lc_new walk_list yat_same (fun H' s' => .inl (.inl (s' _ _ (s34 _ _ hl)))) nD (by rw [refs_len]; omega) (fun i y H' => ∃ c, (L.map (·.2))[i]? = some c ∧ Tu K H' y (vN ((en - st) / 2 :: c))) (fun i y H' H'' tm h => by
                obtain ⟨c, h1, h2⟩ := h
                exact ⟨c, h1, tm.tu h2⟩) (fun i x H' H'' R hi s' y hR => ?_) (fun H5 ys s5 hD hlen hpr => ?_)
              · obtain ⟨e5, e6⟩ := y
                subst e5
                rw [refs_len] at hi
                rw [refs_at hi] at e6
                have e6 := (Option.some.inj e6).symm
                subst e6
                have hq := Same.t (s34.trans s') (hL.get hi)
                refine ⟨rfl, _, rfl, _, rfl, _, _, rfl, rfl, _, _, rfl, rfl, ⟨by decide, by decide⟩, (by show 1 ≤ sizeLine; decide), fun o2 no2 => ⟨.ref L[i].1, rfl, catA_ans (xs := [V.int (((en : Int) - (st : Int)) / 2)]) (ys := vN L[i].2) (.inl (.inl upd_same)) (Same.t (same_new no2) hq) ?_ fun c6 H6 s6 h6 => hR _ _ ((same_new no2).trans s6) ?_⟩⟩
                · have hd2 := (tl.2 L[i].2).mp (List.mem_map.mpr ⟨L[i], List.getElem_mem hi, rfl⟩)
                  have := hd2.len
                  show 1 + (vN L[i].2).length ≤ 100000
                  rw [List.length_map]
                  omega
                · refine ⟨L[i].2, ?_, c6, rfl, ?_⟩
                  · rw [List.getElem?_map, List.getElem?_eq_getElem hi]
                    rfl
                  · have e7 : ((en : Int) - (st : Int)) / 2 = (((en - st) / 2 : Nat) : Int) := by omega
                    rw [e7] at h6
                    exact h6
              · rw [refs_len] at hlen
                obtain ⟨M, m1, m2, m3⟩ := to_pairs (K := K) (f := vN) (H := H5) (ys := ys) (css := (L.map (·.2)).map ((en - st) / 2 :: ·)) (by rw [List.length_map, List.length_map, hlen]) (fun i y hy => by
                  obtain ⟨c, h1, h2⟩ := hpr i y hy
                  exact ⟨_, by rw [List.getElem?_map, h1]; rfl, h2⟩)
                subst m1
                rw [refs_len] at hlen
                have s05 := s34.trans s5
                refine ⟨fl, D, refs F, refs M, rfl, rfl, s05 _ _ hfl, hD, small (by rw [refs_len, refs_len]; omega), ⟨_, rfl⟩, same_mut (sj.trans s05) nfl, F ++ M, ?_, ?_, ?_⟩
                · rw [upd_same]
                  exact congrArg (fun z => some (HO.lst z)) List.map_append.symm
                · exact (tm_lst (s05 _ _ hfl)).lp ((Same.lp s05 hF).app m3)
                · rw [tk, List.map_append, m2]
                  refine Qm.fd_more fd ?_ g1 tl
                  intro hin
                  obtain ⟨j2, h1, h2⟩ := List.mem_iff_getElem.mp hin
                  rw [List.length_take] at h1
                  rw [List.getElem_take] at h2
                  have := List.pairwise_iff_getElem.mp asc j2 j (by omega) hj (by omega)
                  omega
            · exact skip (fun g2 => g (decide_eq_true ((isG_sl (by omega) enle).mpr g2))) H4 (s3.trans s4)
          · exact skip (fun g2 => c1 (decide_eq_true (by have := g2.1; omega))) _ (Same.refl _)
        · -- tails[start] = found
          obtain ⟨⟨y6, rfl⟩, sj, F, hfl, hF, fd⟩ := hw
          rw [hvl, List.take_length] at fd
          have tl := Qm.fd_all hP hS clo stE hlt fd
          have WJ := W.mono sj
          obtain ⟨kvs, hd, hkl, htl⟩ := WJ.ex
          have fld : fl ≠ d := fun z => by
            rw [z, hd] at hfl
            cases hfl
          refine ⟨.ref fl, rfl, .ref d, rfl, _, rfl, d, _, rfl, DPut.k (k := .inl (st : Int)) hd (smallL (by omega)), ⟨_, _, _, rfl⟩, ?_⟩
          refine ⟨same_mut WJ.same nd0, ?_, putK kvs (.inl (st : Int)) (.ref fl), upd_same, ?_, fun e he => ?_⟩
          · have rd : r ≠ d := fun z => by
              have := WJ.hr
              rw [z, hd] at this
              cases this
            rw [upd_ne rd]
            exact WJ.hr
          · have := length_putK kvs (.inl (st : Int)) (.ref fl)
            omega
          · rw [valV_put]
            by_cases ee : e = st
            · rw [if_pos (by rw [ee])]
              refine ⟨fl, F, rfl, nfl0, ?_, (tm_dK hd).lp hF, by rw [ee]; exact tl⟩
              rw [upd_ne fld]
              exact hfl
            · rw [if_neg (fun z => ee (by have := Sum.inl.inj z; omega))]
              have he2 : e = t.length ∨ ∃ i, E.length - k ≤ i ∧ E[i]? = some e := by
                rcases he with he | ⟨i, h1, h2⟩
                · exact .inl he
                · by_cases ei : i = E.length - 1 - k
                  · rw [ei, e3] at h2
                    exact absurd (Option.some.inj h2).symm ee
                  · exact .inr ⟨i, by omega, h2⟩
              obtain ⟨l, L, a1, a2, a3, a4, a5⟩ := htl e he2
              refine ⟨l, L, a1, a2, ?_, (tm_dK hd).lp a4, a5⟩
              have l_d : l ≠ d := fun z => by
                rw [z, hd] at a3
                cases a3
              rw [upd_ne l_d]
              exact a3
      · rw [vI_len] at c
        have hge : st = t.length := by
          have c0 : ¬ (st : Int) < (t.length : Int) := fun z => c (decide_eq_true z)
          omega
        refine ⟨⟨_, _, _, rfl⟩, W.same, W.hr, ?_⟩
        obtain ⟨kvs, hd, hkl, htl⟩ := W.ex
        refine ⟨kvs, hd, by omega, fun e he => htl e ?_⟩
        rcases he with he | ⟨i, h1, h2⟩
        · exact .inl he
        · by_cases ei : i = E.length - 1 - k
          · rw [ei, e3] at h2
            have := Option.some.inj h2
            exact .inl (by omega)
          · exact .inr ⟨i, by omega, h2⟩
    · -- return tails
      obtain ⟨⟨y4, y5, y6, rfl⟩, W⟩ := hw
      rw [hvl] at W
      obtain ⟨kvs, hd, hkl, htl⟩ := W.ex
      obtain ⟨l, L, a1, a2, a3, a4, a5⟩ := htl 0 (.inr ⟨0, by omega, z0⟩)
      exact ⟨.ref d, rfl, q d l kvs L H' W.same hd a1 a2 a3 a4 a5⟩

def spAll (K : PySem.W.Frag) : Sp := fun vs H Q _ => ∃ (a b : Addr) (p t : List Int), vs = [.ref a, .ref b] ∧ SqT K H a (vI p) ∧ SqT K H b (vI t) ∧ Pap p ∧ Sq p t ∧
  ∀ (l : Addr) (L : List (Addr × List Nat)) H', Same H H' → H l = none → H' l = some (.lst (refs L)) → Lp K vN H' L → Colls p t (L.map (·.2)) → Q (.ref l) H'
theorem cal_all (D : Dn K mg "all_collations" (topS 19) ["paper", "sequence"]) (cT : C8.Cal P w K mg base 6 "tails_of" (spTails K) []) : C8.Cal P w K mg base 7 "all_collations" (spAll K) [] := by
  refine D.cal (N := ["paper", "sequence"]) (by decide +kernel) (fun vs H Q E h => ?_) (fun f cdv A outer s H vs Q E nd hr h => ?_)
  · obtain ⟨a, b, p, t, rfl, _⟩ := h
    rfl
  · obtain ⟨a, b, p, t, rfl, hp, ht, hP, hS, q⟩ := h
    refine ⟨_, pss_one (ps_ret (pe_dget (hu_of hr) (C8.pe_c cT hr (by decide) (by rfl) (pa_cons (pv 0) (pa_cons (pv 1) pa_nil))) pe_int (fun _ _ => rfl))), ?_⟩
    refine ⟨_, rfl, _, rfl, a, b, p, t, rfl, hp, ht, hP, hS, fun d l kvs L H' s1 hd hv nl hl hL hC => ⟨d, .ref l, rfl, ?_, q l L H' s1 nl hl hL hC⟩⟩
    rw [← hv]
    exact DGet.k (k := .inl 0) hd
end
end Qa
end

section
set_option Elab.async false
set_option linter.all false
set_option maxRecDepth 100000
set_option maxHeartbeats 2000000
namespace Qa
open PySem PySem.Spec PyProof.Rows L2 Qb
open Qm (Pap Sq nth sat sl IsSh Fac sums Tl Fd Colls Dec looks cen bad rows imp impk)
section
variable {P : Program} {w : World} {K : PySem.W.Frag} {mg : Str → Option Value} {base : Heap}
def spChM (K : PySem.W.Frag) : Sp := fun vs H Q _ => ∃ (a b : Addr) (p t : List Int), vs = [.ref a, .ref b] ∧ SqT K H a (vI p) ∧ SqT K H b (vI t) ∧ Pap p ∧ Sq p t ∧ ∀ H', Same H H' → Q .non H'
theorem cal_chM (D : Dn K mg "check_marks" (topS 22) ["paper", "sequence"]) (cP : C8.Cal P w K mg base 2 "is_paper" (spPaper K) []) (cS : C8.Cal P w K mg base 3 "is_sequence" (spMarks K) []) : C8.Cal P w K mg base 4 "check_marks" (spChM K) [] := by
  refine D.cal (N := ["paper", "sequence"]) (by decide +kernel) (fun vs H Q E h => ?_) (fun f cdv A outer s H vs Q E nd hr h => ?_)
  · obtain ⟨a, b, p, t, rfl, _⟩ := h
    rfl
  · obtain ⟨a, b, p, t, rfl, hp, ht, hP, hS, q⟩ := h
    refine ⟨_, pss_cons (ps_if (pt_not (pt_val (C8.pe_c cP hr (by decide) (by rfl) (pa_cons (pv 0) pa_nil)))) (pss_one ps_never) pss_nil)
      (pss_one (ps_if (pt_not (pt_val (C8.pe_c cS hr (by decide) (by rfl) (pa_cons (pv 0) (pa_cons (pv 1) pa_nil))))) (pss_one ps_never) pss_nil)), ?_⟩
    refine ⟨_, rfl, a, p, rfl, hp, hP, fun H1 s1 => ⟨true, rfl, iteF ?_⟩⟩
    refine ⟨_, rfl, _, rfl, a, b, p, t, rfl, Same.t s1 hp, Same.t s1 ht, hS.rng, hS.l16, fun H2 s2 => ⟨true, rfl, iteF ?_⟩⟩
    exact q H2 (s1.trans s2)
/-- observations of a sequence of n leaves -/
structure Ob (n : Nat) (o : List Str) : Prop where
  len : o.length = n - 1
  mem : ∀ x ∈ o, x = tT ∨ x = tN ∨ x = tQ
def spChS (K : PySem.W.Frag) : Sp := fun vs H Q _ => ∃ (a b c : Addr) (p t : List Int) (o : List Str), vs = [.ref a, .ref b, .ref c] ∧ SqT K H a (vI p) ∧ SqT K H b (vI t) ∧ SqT K H c (vT o) ∧ Pap p ∧ Sq p t ∧ Ob t.length o ∧ ∀ H', Same H H' → Q .non H'
theorem cal_chS (B : Bls mg) (D : Dn K mg "check_seen" (topS 23) ["paper", "sequence", "observations"]) (hL : ∃ aL, mg "LOOKS" = some (.ref aL) ∧ ∀ H, SqT K H aL (vT [tT, tN, tQ])) (cM : C8.Cal P w K mg base 4 "check_marks" (spChM K) []) : C8.Cal P w K mg base 5 "check_seen" (spChS K) [] := by
  obtain ⟨aL, gL, sL⟩ := hL
  refine D.cal (N := ["paper", "sequence", "observations", "look"]) (by decide +kernel) (fun vs H Q E h => ?_) (fun f cdv A outer s H vs Q E nd hr h => ?_)
  · obtain ⟨a, b, c, p, t, o, rfl, _⟩ := h
    rfl
  · obtain ⟨a, b, c, p, t, o, rfl, hp, ht, ho, hP, hS, hO, q⟩ := h
    have l16 := hS.l16
    have ol := hO.len
    refine ⟨_, pss_cons (ps_expr (C8.pe_c cM hr (by decide) (by rfl) (pa_cons (pv 0) (pa_cons (pv 1) pa_nil))))
      (pss_cons (ps_if (PW.pt (pw_or (pt_not (pt_val (pe_callB (isi_K (K := K) rfl) (by rfl) B.isinstance boot_isinstance (pa_cons (pv 2) (pa_cons (pe_ty (by rfl) B.tuple boot_tuple) pa_nil)))))
          (pw_or1 (pt_cmpR op_ne (pe_callB (len_K (K := K) rfl) (by rfl) B.len PySem.boot_len (pa_cons (pv 2) pa_nil)) (pe_callB (call_max2 rfl) (by rfl) B.max boot_max (pa_cons pe_int (pa_cons (pe_op op_sub (pe_callB (len_K (K := K) rfl) (by rfl) B.len PySem.boot_len (pa_cons (pv 1) pa_nil)) pe_int) pa_nil))) (nomark _)))))
        (pss_one ps_never) pss_nil)
      (pss_one (ps_if (pt_not (pt_val (pe_callB (all_K (K := K) rfl rfl) (by rfl) B.all boot_all (pa_cons
          (pe_lc (own := [("look", 3)]) (g := gName 3) (tt := tYes) rfl nd (pi_tup (pv 2)) (blkOk_by (N := ["paper", "sequence", "observations", "look"]) (sc := C8.fnScope (topS 23)) (by decide +kernel)) (fun _ _ _ _ _ => pg_name (i := 3) nd rfl (Or.inl rfl)) (fun _ _ _ _ _ => pts_nil)
            (fun _ _ _ _ _ => pe_and (pe_callB (isi_K (K := K) rfl) (by rfl) B.isinstance boot_isinstance (pa_cons (pv 3) (pa_cons (pe_ty (by rfl) B.str boot_str) pa_nil)))
              (pe_one (pe_cmpR (in_K (K := K) rfl) (pv 3) (C8.pe_gc (v := .ref aL) (by rfl) ⟨_, gL, rfl⟩) (by rfl))))) pa_nil)))) (pss_one ps_never) pss_nil))), ?_⟩
    refine ⟨_, rfl, _, rfl, a, b, p, t, rfl, hp, ht, hP, hS, fun H1 s1 => ?_⟩
    have ho1 := Same.t s1 ho
    have ht1 := Same.t s1 ht
    refine ⟨.ref c, rfl, .ref c, .ty "tuple", _, _, true, rfl, .ty _, ty_tup ho1, kit_ty (by decide +kernel), true, rfl, iteF ?_⟩
    refine ⟨.ref c, rfl, c, _, rfl, .inr ho1, .ref b, rfl, b, _, rfl, .inr ht1, _, _, rfl, rfl, _, _, rfl, rfl, false, ?_, iteF ?_⟩
    · rw [vT_len, vI_len]
      have e : ((o.length : Nat) : Int) = if (t.length : Int) - 1 > 0 then (t.length : Int) - 1 else 0 := by
        split <;> omega
      rw [← e]
      show V.bl (!decide (V.int (o.length : Int) = V.int (o.length : Int))) = V.bl false
      rw [decide_eq_true rfl]
      rfl
    · refine ⟨.ref c, rfl, c, rfl, ⟨_, ho1⟩, fun D nD => lc_vals walk_tup yat_same (fun H' s' => Same.t s' ho1) nD (by rw [vT_len]; omega) (fun _ => V.bl true) (fun i x H' H'' R hi s' y hR => ?_) (fun H' s' hD => ?_)⟩
      · obtain ⟨e, hx⟩ := y
        subst e
        rw [vT_len] at hi
        rw [vT_at tQ hi] at hx
        have ex := (Option.some.inj hx).symm
        subst ex
        have m : o.getD i tQ ∈ o := by
          rw [List.getD_eq_getElem?_getD, List.getElem?_eq_getElem hi]
          exact List.getElem_mem hi
        have m2 := hO.mem _ m
        generalize o.getD i tQ = x at m2 ⊢
        refine ⟨rfl, .str x, rfl, .str x, .ty "str", _, _, true, rfl, .ty _, .base (.str x), kit_ty (by decide +kernel), true, rfl, iteT ⟨.str x, rfl, aL, _, rfl, .inr (sL _), rfl, rfl, ?_⟩⟩
        have e : inV (.str x) (vT [tT, tN, tQ]) = true := by
          show ([V.str tT, V.str tN, V.str tQ].any fun y => eqV y (.str x)) = true
          rw [List.any_eq_true]
          rcases m2 with z | z | z
          · exact ⟨.str tT, by simp, by rw [eqV_str, z]; exact decide_eq_true rfl⟩
          · exact ⟨.str tN, by simp, by rw [eqV_str, z]; exact decide_eq_true rfl⟩
          · exact ⟨.str tQ, by simp, by rw [eqV_str, z]; exact decide_eq_true rfl⟩
        rw [e]
        exact hR _ (Same.refl _)
      · rw [trues] at hD
        refine ⟨D, _, rfl, .inl (.inl hD), true, ?_, iteF ?_⟩
        · rw [trues_all]
        · exact q _ (s1.trans s')

/-! looks -/
def spLooks (K : PySem.W.Frag) : Sp := fun vs H Q _ => ∃ (c : Addr) (p t : List Int) (cs : List Nat), vs = [.int t.length, .ref c] ∧ SqT K H c (vN cs) ∧ t.length ≤ 16 ∧ Dec p t 0 cs t.length ∧
  ∀ r H', Same H H' → SqT K H' r (vT (looks tT tN t.length cs)) → Q (.ref r) H'
theorem looks_set {n : Nat} {c : List Nat} {h k : Nat} (hk : 2 * c.sum + h = k + 1) : (looks tT tN n c).set k tT = looks tT tN n (c ++ [h]) := by
  apply List.ext_getElem?
  intro j
  by_cases hj : j < n - 1
  · rw [Qm.looks_at tT tN hj, Qm.cen_snoc]
    by_cases e : k = j
    · subst e
      rw [List.getElem?_set_self (by rw [Qm.looks_len]; exact hj), if_pos (List.mem_append_right _ (List.mem_singleton.mpr (by omega)))]
    · rw [List.getElem?_set_ne e, Qm.looks_at tT tN hj]
      by_cases m : j + 1 ∈ cen 0 c
      · rw [if_pos m, if_pos (List.mem_append_left _ m)]
      · rw [if_neg m, if_neg]
        intro z
        rcases List.mem_append.mp z with z | z
        · exact m z
        · have := List.mem_singleton.mp z
          omega
  · rw [List.getElem?_eq_none (by rw [List.length_set, Qm.looks_len]; omega), List.getElem?_eq_none (by rw [Qm.looks_len]; omega)]
theorem looks_nil (n : Nat) : looks tT tN n [] = List.replicate (n - 1) tN := by
  apply List.ext_getElem?
  intro j
  by_cases hj : j < n - 1
  · rw [Qm.looks_at tT tN hj, List.getElem?_replicate, if_pos hj]
    rfl
  · rw [List.getElem?_eq_none (by rw [Qm.looks_len]; omega), List.getElem?_eq_none (by rw [List.length_replicate]; omega)]
theorem flat_rep (m : Nat) (x : V) : (List.replicate m [x]).flatten = List.replicate m x := by
  induction m with
  | zero => rfl
  | succ m ih =>
    rw [List.replicate_succ, List.flatten_cons, ih]
    rfl
theorem cal_looks (B : Bls mg) (D : Dn K mg "looks_by" (topS 24) ["leaves", "collation"]) : C8.Cal P w K mg base 1 "looks_by" (spLooks K) [] := by
  refine D.cal (N := ["leaves", "collation", "looks", "start", "sheets"]) (by decide +kernel) (fun vs H Q E h => ?_) (fun f cdv A outer s H vs Q E nd hr h => ?_)
  · obtain ⟨c, p, t, cs, rfl, _⟩ := h
    rfl
  · obtain ⟨c, p, t, cs, rfl, hc, hn, hd, q⟩ := h
    generalize t.length = n at *
    refine ⟨_, pss_cons (ps_set (i := 2) nd rfl (.inl rfl) (pe_op op_rep (pe_lst (pa_cons pe_str pa_nil)) (pe_callB (call_max2 rfl) (by rfl) B.max boot_max (pa_cons pe_int (pa_cons (pe_op op_sub (pv 0) pe_int) pa_nil)))))
      (pss_cons (ps_set (i := 3) nd rfl (.inl rfl) pe_int)
      (pss_cons (ps_for PassesOwn.never rfl (pi_tup (pv 1)) (pg_name (i := 4) nd rfl (.inl rfl))
        (pss_cons (ps_asg pe_str (pg_sub (pv 2) (pe_op op_sub (pe_op op_add (pv 3) (pv 4)) pe_int) set_list))
        (pss_one (ps_set (i := 3) nd rfl (.inl rfl) (pe_op op_add (pv 3) (pe_op op_mul pe_int (pv 4)))))))
      (pss_one (ps_ret (pe_callTy call_tuple_of (by rfl) B.tuple boot_tuple (pa_cons (pv 2) pa_nil)))))), ?_⟩
    refine ⟨(by show 1 ≤ sizeLine; decide), fun l0 n0 => ?_⟩
    have em : (if (n : Int) - 1 > 0 then (n : Int) - 1 else 0) = ((n - 1 : Nat) : Int) := by
      split <;> omega
    refine ⟨_, rfl, _, _, rfl, rfl, _, _, rfl, l0, _, _, rfl, rfl, upd_same, ?_, ?_, ?_, fun l nl => ?_⟩
    · rw [em]
      omega
    · rw [em]
      omega
    · rw [em, Int.toNat_natCast]
      show 1 * (n - 1) ≤ sizeLine
      exact small (by omega)
    · rw [em, Int.toNat_natCast, flat_rep]
      have nl1 : H l = none := free_upd nl
      have s1 : Same H (upd (upd H l0 (.lst [.str tN])) l (.lst (List.replicate (n - 1) (V.str tN)))) := (same_new n0).trans (same_new nl)
      have hcl : (vN cs).length = cs.length := List.length_map _
      refine ⟨.ref c, rfl, c, rfl, ⟨_, Same.t s1 hc⟩, ?_⟩
      refine for_it walk_tup (fun k σ H1 => (∃ y, σ = [some (.int n), some (.ref c), some (.ref l), some (.int ((2 * (cs.take k).sum : Nat) : Int)), y]) ∧ Same H H1 ∧ H1 l = some (.lst (vT (looks tT tN n (cs.take k)))))
        ⟨⟨_, rfl⟩, s1, ?_⟩ (fun k σ H1 _ hw => Same.t hw.2.1 hc) (fun k x σ H1 H2 hk hw y => ?_) (fun σ H1 hw => ?_)
      · rw [upd_same]
        show _ = some (HO.lst (vT (looks tT tN n [])))
        rw [looks_nil]
        unfold vT
        rw [List.map_replicate]
      · obtain ⟨⟨y4, rfl⟩, s2, hl⟩ := hw
        obtain ⟨e1, e2⟩ := y
        subst e1
        rw [hcl] at hk
        have e3 : cs[k]? = some cs[k] := List.getElem?_eq_getElem hk
        rw [List.getElem?_map, e3] at e2
        have e2 : x = V.int (cs[k] : Int) := (Option.some.inj e2).symm
        subst e2
        have tk : cs.take (k + 1) = cs.take k ++ [cs[k]] := by
          rw [List.take_add_one, e3]
          rfl
        have hpos := hd.pos cs[k] (List.getElem_mem hk)
        have hsum : 2 * (cs.take k).sum + 2 * cs[k] ≤ n := by
          have a := hd.sum
          have b : cs.sum = (cs.take (k + 1)).sum + (cs.drop (k + 1)).sum := by
            rw [← List.sum_append, List.take_append_drop]
          rw [tk, List.sum_append] at b
          have e : [cs[k]].sum = cs[k] := by simp
          omega
        generalize cs[k] = h at *
        have ej : ((2 * (cs.take k).sum : Nat) : Int) + (h : Int) - 1 = ((2 * (cs.take k).sum + h - 1 : Nat) : Int) := by omega
        refine ⟨.ref l, rfl, _, rfl, _, rfl, _, _, rfl, rfl, _, _, rfl, rfl, l, _, _, 2 * (cs.take k).sum + h - 1, rfl, rfl, hl, ?_, ?_⟩
        · rw [ej]
          unfold ixN
          rw [if_pos (by omega), if_pos (by rw [vT_len, Qm.looks_len]; omega), Int.toNat_natCast]
        · refine ⟨_, rfl, _, rfl, _, _, rfl, rfl, .inl ⟨by decide, by decide⟩, _, _, rfl, rfl, ⟨some (.int (h : Int)), ?_⟩, same_mut s2 nl1, ?_⟩
          · have e5 : ((2 * (cs.take k).sum : Nat) : Int) + 2 * (h : Int) = ((2 * (cs.take (k + 1)).sum : Nat) : Int) := by
              rw [tk, List.sum_append]
              have e : [h].sum = h := by simp
              omega
            dsimp only
            rw [e5]
            rfl
          · rw [upd_same]
            have e6 : (vT (looks tT tN n (cs.take k))).set (2 * (cs.take k).sum + h - 1) (V.str tT) = vT (looks tT tN n (cs.take (k + 1))) := by
              rw [tk, ← looks_set (n := n) (c := cs.take k) (h := h) (k := 2 * (cs.take k).sum + h - 1) (by omega)]
              unfold vT
              rw [List.map_set]
            exact congrArg (fun z => some (HO.lst z)) e6
      · obtain ⟨⟨y4, rfl⟩, s2, hl⟩ := hw
        rw [hcl, List.take_length] at hl
        exact ⟨.ref l, rfl, l, _, rfl, .inl ⟨.inl (.inl hl), fun r nr => q r _ (s2.trans (same_new nr)) (.inl (.inl upd_same))⟩⟩

def spAgainst (K : PySem.W.Frag) : Sp := fun vs H Q _ => ∃ (a b : Addr) (o r : List Str), vs = [.ref a, .ref b] ∧ SqT K H a (vT o) ∧ SqT K H b (vT r) ∧ o.length = r.length ∧ o.length ≤ 100 ∧ ∀ H', Same H H' → Q (.int (bad tQ o r : Nat)) H'
theorem cal_against (B : Bls mg) (D : Dn K mg "against" (topS 25) ["observations", "looks"]) : C8.Cal P w K mg base 1 "against" (spAgainst K) [] := by
  refine D.cal (N := ["observations", "looks", "look", "seen"]) (by decide +kernel) (fun vs H Q E h => ?_) (fun f cdv A outer s H vs Q E nd hr h => ?_)
  · obtain ⟨a, b, o, r, rfl, _⟩ := h
    rfl
  · obtain ⟨a, b, o, r, rfl, ho, hb, hl, hn, q⟩ := h
    refine ⟨_, pss_one (ps_ret (pe_callB (len_K (K := K) rfl) (by rfl) B.len PySem.boot_len (pa_cons
      (pe_lc (own := [("look", 2), ("seen", 3)]) rfl nd (RZ.pi_zipA (by rfl) B.zip (pa_cons (pv 1) (pa_cons (pv 0) pa_nil))) (blkOk_by (N := ["observations", "looks", "look", "seen"]) (sc := C8.fnScope (topS 25)) (by decide +kernel))
        (g := gTup K 2 (gCons (gName 2) (gCons (gName 3) gNil))) (fun _ _ _ _ _ => pg_tup (by rfl) (pgs_cons (pg_name (i := 2) nd rfl (Or.inl rfl)) (pgs_cons (pg_name (i := 3) nd rfl (Or.inl rfl)) pgs_nil)))
        (fun _ _ _ _ _ => pts_one (pt_cmpR (notIn_K (K := K) rfl) (pv 3) (pe_tup (pa_cons pe_str (pa_cons (pv 2) pa_nil))) (by rfl)))
        (fun _ _ _ _ _ => pv 2)) pa_nil))), ?_⟩
    have hl2 : (vT r).length = (vT o).length := by rw [vT_len, vT_len, hl]
    refine ⟨.ref b, rfl, .ref a, rfl, b, a, _, _, rfl, .inr ⟨hb, ho, fun D nD => ?_⟩⟩
    refine lc_filt (walk_zipT hl2) ypair_same (fun H' s' => ⟨Same.t s' hb, Same.t s' ho⟩) nD (by rw [vT_len]; omega) (fun k => !Qm.agk tQ o r k) (fun k => .str (r.getD k tQ)) (fun k x H' H'' R R0 hk s' y h1 h0 => ?_) (fun H' s' hD => ?_)
    · obtain ⟨T, x1, x2, rfl, nT, rfl, f1, f2⟩ := y
      rw [vT_len] at hk
      have f1 : (vT r)[k]? = some x1 := f1
      have f2 : (vT o)[k]? = some x2 := f2
      rw [vT_at tQ (by omega)] at f1
      rw [vT_at tQ (by omega)] at f2
      have e1 := (Option.some.inj f1).symm
      have e2 := (Option.some.inj f2).symm
      subst e1
      subst e2
      refine ⟨T, _, rfl, .inl (.inl upd_same), rfl, _, _, rfl, _, [], rfl, rfl, rfl, ?_⟩
      refine ⟨_, rfl, _, rfl, (by show 2 ≤ sizeLine; decide), fun o2 no2 => ⟨o2, _, rfl, .inr (.inl (.inl upd_same)), rfl, rfl, _, rfl, ?_⟩⟩
      have e3 : inV (V.str (o.getD k tQ)) [V.str tQ, V.str (r.getD k tQ)] = Qm.agk tQ o r k := by
        show (eqV (.str tQ) (.str (o.getD k tQ)) || (eqV (.str (r.getD k tQ)) (.str (o.getD k tQ)) || false)) = decide (o.getD k tQ = tQ ∨ o.getD k tQ = r.getD k tQ)
        rw [eqV_str, eqV_str, Bool.or_false]
        by_cases c1 : o.getD k tQ = tQ
        · rw [decide_eq_true c1.symm, decide_eq_true (Or.inl c1)]
          rfl
        · rw [decide_eq_false (fun z => c1 z.symm)]
          by_cases c2 : o.getD k tQ = r.getD k tQ
          · rw [decide_eq_true c2.symm, decide_eq_true (Or.inr c2)]
            rfl
          · rw [decide_eq_false (fun z => c2 z.symm), decide_eq_false (fun z => z.elim c1 c2)]
            rfl
      rw [e3]
      show if (if true = true then !Qm.agk tQ o r k else Qm.agk tQ o r k) = true then _ else _
      rw [if_pos rfl]
      cases hag : Qm.agk tQ o r k with
      | true => exact iteF (h0 (by rw [hag]; rfl) _ (same_new no2))
      | false => exact iteT ⟨_, rfl, h1 (by rw [hag]; rfl) _ (same_new no2)⟩
    · refine ⟨D, _, rfl, .inl (.inl (.inl hD)), ?_⟩
      rw [List.length_map, vT_len, ← hl]
      exact q H' s'
end
end Qa
end

section
set_option Elab.async false
set_option linter.all false
set_option maxRecDepth 100000
set_option maxHeartbeats 2000000
namespace Qa
open PySem PySem.Spec PyProof.Rows L2 Qb
open Qm (Pap Sq nth sat sl IsSh Fac sums Tl Fd Colls Dec looks cen bad rows imp impk)
section
variable {P : Program} {w : World} {K : PySem.W.Frag} {mg : Str → Option Value} {base : Heap}
/-- a row: the collation's value, the address of its looks, the collation -/
abbrev Rw := V × Addr × List Nat
def rwV (q : Rw) : List V := [q.1, .ref q.2.1]
def Lk (K : PySem.W.Frag) (n : Nat) (H : Hp) (M : List (Addr × Rw)) : Prop := ∀ q ∈ M, SqT K H q.2.2.1 (vT (looks tT tN n q.2.2.2))
def spRows (K : PySem.W.Frag) : Sp := fun vs H Q _ => ∃ (a b : Addr) (p t : List Int), vs = [.ref a, .ref b] ∧ SqT K H a (vI p) ∧ SqT K H b (vI t) ∧ Pap p ∧ Sq p t ∧
  ∀ (l : Addr) (M : List (Addr × Rw)) H', Same H H' → H l = none → H' l = some (.lst (refs M)) → Lp K rwV H' M → Lk K t.length H' M → Colls p t (M.map (·.2.2.2)) → Q (.ref l) H'
theorem to_rows {n : Nat} {H : Hp} : ∀ {ys : List V} {L : List (Addr × List Nat)}, ys.length = L.length → (∀ (i : Nat) (y : V), ys[i]? = some y → ∃ q, L[i]? = some q ∧ ∃ a lk, y = .ref a ∧ SqT K H a [.ref q.1, .ref lk] ∧ SqT K H lk (vT (looks tT tN n q.2))) →
    ∃ M : List (Addr × Rw), ys = refs M ∧ M.map (·.2.2.2) = L.map (·.2) ∧ Lp K rwV H M ∧ Lk K n H M
  | [], [], _, _ => ⟨[], rfl, rfl, fun q hq => absurd hq (by simp), fun q hq => absurd hq (by simp)⟩
  | [], _ :: _, e, _ => by simp at e
  | _ :: _, [], e, _ => by simp at e
  | y :: ys, q :: L, e, h => by
    obtain ⟨q', e1, a, lk, e2, s1, s2⟩ := h 0 y rfl
    have eq : q = q' := Option.some.inj e1
    subst eq
    obtain ⟨M, h1, h2, h3, h4⟩ := to_rows (ys := ys) (L := L) (by simpa using e) fun i z hz => h (i + 1) z hz
    refine ⟨(a, V.ref q.1, lk, q.2) :: M, ?_, ?_, fun z hz => ?_, fun z hz => ?_⟩
    · rw [e2, h1]
      rfl
    · show q.2 :: M.map _ = q.2 :: L.map _
      rw [h2]
    · rcases List.mem_cons.mp hz with e | hz
      · rw [e]
        exact s1
      · exact h3 z hz
    · rcases List.mem_cons.mp hz with e | hz
      · rw [e]
        exact s2
      · exact h4 z hz
theorem cal_rows (B : Bls mg) (D : Dn K mg "rows_of" (topS 26) ["paper", "sequence"]) (cA : C8.Cal P w K mg base 7 "all_collations" (spAll K) []) (cL : C8.Cal P w K mg base 1 "looks_by" (spLooks K) []) : C8.Cal P w K mg base 8 "rows_of" (spRows K) [] := by
  refine D.cal (N := ["paper", "sequence", "one"]) (by decide +kernel) (fun vs H Q E h => ?_) (fun f cdv A outer s H vs Q E nd hr h => ?_)
  · obtain ⟨a, b, p, t, rfl, _⟩ := h
    rfl
  · obtain ⟨a, b, p, t, rfl, hp, ht, hP, hS, q⟩ := h
    have l16 := hS.l16
    refine ⟨_, pss_one (ps_ret (pe_lc (own := [("one", 2)]) (g := gName 2) (tt := tYes) rfl nd (pi_list (C8.pe_c cA hr (by decide) (by rfl) (pa_cons (pv 0) (pa_cons (pv 1) pa_nil)))) (blkOk_by (N := ["paper", "sequence", "one"]) (sc := C8.fnScope (topS 26)) (by decide +kernel)) (fun _ _ _ _ _ => pg_name (i := 2) nd rfl (Or.inl rfl)) (fun _ _ _ _ _ => pts_nil)
        (fun _ _ _ _ _ => pe_tup (pa_cons (pv 2) (pa_cons (C8.pe_c cL hr (by decide) (by rfl) (pa_cons (pe_callB (len_K (K := K) rfl) (by rfl) B.len PySem.boot_len (pa_cons (pv 1) pa_nil)) (pa_cons (pv 2) pa_nil))) pa_nil))))), ?_⟩
    refine ⟨_, rfl, _, rfl, a, b, p, t, rfl, hp, ht, hP, hS, fun l L H1 s1 nl hl hL hC => ⟨l, rfl, ⟨_, .inl (.inl hl)⟩, fun D nD => ?_⟩⟩
    have few := Qm.tl_few hC l16
    rw [List.length_map] at few
    refine lc_new walk_list yat_same (fun H' s' => .inl (.inl (s' _ _ hl))) nD (by rw [refs_len]; omega) (fun i y H' => ∃ q, L[i]? = some q ∧ ∃ a lk, y = .ref a ∧ SqT K H' a [.ref q.1, .ref lk] ∧ SqT K H' lk (vT (looks tT tN t.length q.2))) (fun i y H' H'' tm h => by
      obtain ⟨q, h1, a, lk, h2, h3, h4⟩ := h
      exact ⟨q, h1, a, lk, h2, tm.t h3, tm.t h4⟩) (fun i x H' H'' R hi s' y hR => ?_) (fun H5 ys s5 hD hlen hpr => ?_)
    · obtain ⟨e5, e6⟩ := y
      subst e5
      rw [refs_len] at hi
      rw [refs_at hi] at e6
      have e6 := (Option.some.inj e6).symm
      subst e6
      have hq := Same.t s' (hL.get hi)
      have hd := (hC.2 L[i].2).mp (List.mem_map.mpr ⟨L[i], List.getElem_mem hi, rfl⟩)
      refine ⟨rfl, _, rfl, .ref b, rfl, b, _, rfl, .inr (Same.t (s1.trans s') ht), _, rfl, ?_⟩
      rw [vI_len]
      refine ⟨L[i].1, p, t, L[i].2, rfl, hq, l16, hd, fun r H6 s6 h6 => ⟨(by show 2 ≤ sizeLine; decide), fun o no => hR _ _ (s6.trans (same_new no)) ⟨L[i], List.getElem?_eq_getElem hi, o, r, rfl, .inl (.inl upd_same), Same.t (same_new no) h6⟩⟩⟩
    · rw [refs_len] at hlen
      obtain ⟨M, m1, m2, m3, m4⟩ := to_rows (K := K) hlen hpr
      subst m1
      exact q D M H5 (s1.trans s5) (Same.free s1 nD) hD m3 m4 (by rw [m2]; exact hC)

def spAgree (K : PySem.W.Frag) : Sp := fun vs H Q _ => ∃ (a b c : Addr) (p t : List Int) (o : List Str), vs = [.ref a, .ref b, .ref c] ∧ SqT K H a (vI p) ∧ SqT K H b (vI t) ∧ SqT K H c (vT o) ∧ Pap p ∧ Sq p t ∧ Ob t.length o ∧
  ∀ (l : Addr) (R : List (Addr × List Str)) (css : List (List Nat)) H', Same H H' → H l = none → H' l = some (.lst (refs R)) → Lp K vT H' R → Colls p t css → R.map (·.2) = rows tT tN tQ t.length css o → Q (.ref l) H'
theorem cal_agree (B : Bls mg) (D : Dn K mg "agreeing" (topS 27) ["paper", "sequence", "observations"]) (cR : C8.Cal P w K mg base 8 "rows_of" (spRows K) []) (cG : C8.Cal P w K mg base 1 "against" (spAgainst K) []) : C8.Cal P w K mg base 9 "agreeing" (spAgree K) [] := by
  refine D.cal (N := ["paper", "sequence", "observations", "one", "looks"]) (by decide +kernel) (fun vs H Q E h => ?_) (fun f cdv A outer s H vs Q E nd hr h => ?_)
  · obtain ⟨a, b, c, p, t, o, rfl, _⟩ := h
    rfl
  · obtain ⟨a, b, c, p, t, o, rfl, hp, ht, ho, hP, hS, hO, q⟩ := h
    have l16 := hS.l16
    have ol := hO.len
    refine ⟨_, pss_one (ps_ret (pe_lc (own := [("one", 3), ("looks", 4)]) rfl nd (pi_list (C8.pe_c cR hr (by decide) (by rfl) (pa_cons (pv 0) (pa_cons (pv 1) pa_nil)))) (blkOk_by (N := ["paper", "sequence", "observations", "one", "looks"]) (sc := C8.fnScope (topS 27)) (by decide +kernel))
        (g := gTup K 2 (gCons (gName 3) (gCons (gName 4) gNil))) (fun _ _ _ _ _ => pg_tup (by rfl) (pgs_cons (pg_name (i := 3) nd rfl (Or.inl rfl)) (pgs_cons (pg_name (i := 4) nd rfl (Or.inl rfl)) pgs_nil)))
        (fun _ _ _ _ _ => pts_one (pt_cmpR op_eq (C8.pe_c cG hr (by decide) (by rfl) (pa_cons (pv 2) (pa_cons (pv 4) pa_nil))) pe_int (nomark _))) (fun _ _ _ _ _ => pv 4))), ?_⟩
    refine ⟨_, rfl, _, rfl, a, b, p, t, rfl, hp, ht, hP, hS, fun l M H1 s1 nl hl hM hK hC => ⟨l, rfl, ⟨_, .inl (.inl hl)⟩, fun D nD => ?_⟩⟩
    have few := Qm.tl_few hC l16
    rw [List.length_map] at few
    have ed : ∀ i (hi : i < M.length), M.getD i (0, .non, 0, []) = M[i] := fun i hi => by
      rw [List.getD_eq_getElem?_getD, List.getElem?_eq_getElem hi]
      rfl
    refine lc_filt walk_list yat_same (fun H' s' => .inl (.inl (s' _ _ hl))) nD (by rw [refs_len]; omega)
      (fun i => (fun q : Addr × Rw => decide (bad tQ o (looks tT tN t.length q.2.2.2) = 0)) (M.getD i (0, .non, 0, []))) (fun i => (fun q : Addr × Rw => V.ref q.2.2.1) (M.getD i (0, .non, 0, []))) (fun i x H' H'' R R0 hi s' y h1 h0 => ?_) (fun H' s' hD => ?_)
    · obtain ⟨e5, e6⟩ := y
      subst e5
      rw [refs_len] at hi
      rw [refs_at hi] at e6
      have e6 := (Option.some.inj e6).symm
      subst e6
      rw [ed i hi] at h1 h0
      have hq := Same.t s' (hM.get hi)
      have hk := Same.t s' (hK M[i] (List.getElem_mem hi))
      refine ⟨M[i].1, _, rfl, hq, rfl, _, _, rfl, _, [], rfl, rfl, rfl, ?_⟩
      refine ⟨_, rfl, _, rfl, c, M[i].2.2.1, o, looks tT tN t.length M[i].2.2.2, rfl, Same.t (s1.trans s') ho, hk, by rw [Qm.looks_len]; exact ol, by omega, fun H6 s6 => ⟨rfl, _, rfl, ite2 (fun c1 => ?_) (fun c1 => ?_)⟩⟩
      · have c2 : bad tQ o (looks tT tN t.length M[i].2.2.2) = 0 := by
          have := V.int.inj (of_decide_eq_true c1)
          omega
        exact ⟨_, rfl, h1 (decide_eq_true c2) _ s6⟩
      · have c2 : ¬ bad tQ o (looks tT tN t.length M[i].2.2.2) = 0 := fun z => c1 (decide_eq_true (by rw [z]; rfl))
        exact h0 (decide_eq_false c2) _ s6
    · rw [refs_len] at hD
      have ef := filt_at M (0, .non, 0, []) (fun q : Addr × Rw => decide (bad tQ o (looks tT tN t.length q.2.2.2) = 0)) (fun q : Addr × Rw => V.ref q.2.2.1)
      have hD := hD.trans (congrArg (fun z => some (HO.lst z)) ef)
      refine q D ((M.filter fun q => decide (bad tQ o (looks tT tN t.length q.2.2.2) = 0)).map fun q => (q.2.2.1, looks tT tN t.length q.2.2.2)) (M.map (·.2.2.2)) H' (s1.trans s') (Same.free s1 nD) ?_ (fun z hz => ?_) hC ?_
      · rw [hD]
        unfold refs
        rw [List.map_map]
        rfl
      · obtain ⟨y, hy, e⟩ := List.mem_map.mp hz
        rw [← e]
        exact Same.t s' (hK y (List.mem_filter.mp hy).1)
      · unfold rows
        rw [List.map_map, List.map_map, List.filter_map]
        rfl

def spCount (K : PySem.W.Frag) : Sp := fun vs H Q _ => ∃ (a b c : Addr) (p t : List Int) (o : List Str) (css : List (List Nat)), vs = [.ref a, .ref b, .ref c] ∧ SqT K H a (vI p) ∧ SqT K H b (vI t) ∧ SqT K H c (vT o) ∧ Pap p ∧ Sq p t ∧ Ob t.length o ∧ Colls p t css ∧
  ∀ H', Same H H' → Q (.int ((rows tT tN tQ t.length css o).length : Nat)) H'
theorem cal_count (B : Bls mg) (D : Dn K mg "count_agreeing" (topS 28) ["paper", "sequence", "observations"]) (cC : C8.Cal P w K mg base 5 "check_seen" (spChS K) []) (cA : C8.Cal P w K mg base 9 "agreeing" (spAgree K) []) : C8.Cal P w K mg base 10 "count_agreeing" (spCount K) [] := by
  refine D.cal (N := ["paper", "sequence", "observations"]) (by decide +kernel) (fun vs H Q E h => ?_) (fun f cdv A outer s H vs Q E nd hr h => ?_)
  · obtain ⟨a, b, c, p, t, o, css, rfl, _⟩ := h
    rfl
  · obtain ⟨a, b, c, p, t, o, css, rfl, hp, ht, ho, hP, hS, hO, hC, q⟩ := h
    refine ⟨_, pss_cons (ps_expr (C8.pe_c cC hr (by decide) (by rfl) (pa_cons (pv 0) (pa_cons (pv 1) (pa_cons (pv 2) pa_nil)))))
      (pss_one (ps_ret (pe_callB (len_K (K := K) rfl) (by rfl) B.len PySem.boot_len (pa_cons (C8.pe_c cA hr (by decide) (by rfl) (pa_cons (pv 0) (pa_cons (pv 1) (pa_cons (pv 2) pa_nil)))) pa_nil)))), ?_⟩
    refine ⟨_, rfl, _, rfl, _, rfl, a, b, c, p, t, o, rfl, hp, ht, ho, hP, hS, hO, fun H1 s1 => ?_⟩
    refine ⟨_, rfl, _, rfl, _, rfl, a, b, c, p, t, o, rfl, Same.t s1 hp, Same.t s1 ht, Same.t s1 ho, hP, hS, hO, fun l R dss H2 s2 nl hl hR hD hm => ⟨l, _, rfl, .inl (.inl (.inl hl)), ?_⟩⟩
    have e : (refs R).length = (rows tT tN tQ t.length css o).length := by
      rw [refs_len, ← List.length_map (f := (·.2)) (as := R), hm]
      exact (Qm.rows_perm tT tN tQ (Qm.colls_perm hD hC) o).length_eq
    rw [e]
    exact q H2 (s1.trans s2)

theorem putK_in {kvs : List (Key × V)} {k : Key} {v : V} (h : k ∈ kvs.map (·.1)) : (putK kvs k v).map (·.1) = kvs.map (·.1) := by
  obtain ⟨q, hq, e⟩ := List.mem_map.mp h
  unfold putK
  rw [if_pos (List.any_eq_true.mpr ⟨q, hq, decide_eq_true e⟩), List.map_map]
  refine List.map_congr_left fun z _ => ?_
  show (if z.1 = k then (z.1, v) else z).1 = z.1
  by_cases c : z.1 = k
  · rw [if_pos c]
  · rw [if_neg c]
theorem putK_out {kvs : List (Key × V)} {k : Key} {v : V} (h : k ∉ kvs.map (·.1)) : (putK kvs k v).map (·.1) = kvs.map (·.1) ++ [k] := by
  unfold putK
  rw [if_neg, List.map_append]
  · rfl
  · intro z
    obtain ⟨q, hq, e⟩ := List.any_eq_true.mp z
    exact h (List.mem_map.mpr ⟨q, hq, of_decide_eq_true e⟩)
def spImplied (K : PySem.W.Frag) : Sp := fun vs H Q _ => ∃ (a b c : Addr) (p t : List Int) (o : List Str) (css : List (List Nat)), vs = [.ref a, .ref b, .ref c] ∧ SqT K H a (vI p) ∧ SqT K H b (vI t) ∧ SqT K H c (vT o) ∧ Pap p ∧ Sq p t ∧ Ob t.length o ∧ Colls p t css ∧
  (rows tT tN tQ t.length css o = [] → ∀ H', Same H H' → Q .non H') ∧
  (rows tT tN tQ t.length css o ≠ [] → ∀ r H', Same H H' → SqT K H' r (vT (imp tQ (rows tT tN tQ t.length css o) o)) → Q (.ref r) H')
theorem cal_implied (B : Bls mg) (D : Dn K mg "implied" (topS 29) ["paper", "sequence", "observations"]) (cC : C8.Cal P w K mg base 5 "check_seen" (spChS K) []) (cA : C8.Cal P w K mg base 9 "agreeing" (spAgree K) []) : C8.Cal P w K mg base 10 "implied" (spImplied K) [] := by
  refine D.cal (N := ["paper", "sequence", "observations", "rows", "found", "at", "seen", "looks", "row"]) (by decide +kernel) (fun vs H Q E h => ?_) (fun f cdv A outer s H vs Q E nd hr h => ?_)
  · obtain ⟨a, b, c, p, t, o, css, rfl, _⟩ := h
    rfl
  · obtain ⟨a, b, c, p, t, o, css, rfl, hp, ht, ho, hP, hS, hO, hC, q0, q1⟩ := h
    have l16 := hS.l16
    have ol := hO.len
    refine ⟨_, pss_cons (ps_expr (C8.pe_c cC hr (by decide) (by rfl) (pa_cons (pv 0) (pa_cons (pv 1) (pa_cons (pv 2) pa_nil)))))
      (pss_cons (ps_set (i := 3) nd rfl (.inl rfl) (C8.pe_c cA hr (by decide) (by rfl) (pa_cons (pv 0) (pa_cons (pv 1) (pa_cons (pv 2) pa_nil)))))
      (pss_cons (ps_if (pt_not (pt_truth (pv 3) (by intro _; rfl))) (pss_one (ps_ret pe_non)) pss_nil)
      (pss_cons (ps_set (i := 4) nd rfl (.inl rfl) (pe_lst pa_nil))
      (pss_cons (ps_for PassesOwn.never rfl (Qe.pi_enumT (by rfl) B.enumerate (pa_cons (pv 2) pa_nil)) (pg_tup (by rfl) (pgs_cons (pg_name (i := 5) nd rfl (.inr rfl)) (pgs_cons (pg_name (i := 6) nd rfl (.inl rfl)) pgs_nil)))
        (pss_cons (Qr.ps_setDc (i := 7) (own := [("row", 8)]) (g := gName 8) (tt := tYes) rfl nd rfl rfl (Qr.sw_trueD rfl rfl rfl (by decide +kernel)) (pi_list (pv 3)) (blkOk_by (N := ["paper", "sequence", "observations", "rows", "found", "at", "seen", "looks", "row"]) (sc := C8.fnScope (topS 29)) (by decide +kernel))
            (fun _ _ _ _ _ => pg_name (i := 8) nd rfl (Or.inl rfl)) (fun _ _ _ _ _ => pts_nil) (fun _ _ _ _ _ => pe_ix (ixT_K (K := K) rfl) (pv 8) (pv 5) (fun _ _ => rfl)) (fun _ _ _ _ _ => pe_bl))
        (pss_one (ps_expr (pe_bm PySem.F.plainAttrs_list PySem.F.slot_list_append PySem.F.type_list_append mt_append (pv 4) (pa_cons
          (pe_ifExp (pt_cmpR op_eq (pe_callB call_lenD (by rfl) B.len PySem.boot_len (pa_cons (pv 7) pa_nil)) pe_int (nomark _))
            (pe_ix (ixT_K (K := K) rfl) (pe_ix (ixL_K (K := K) rfl) (pv 3) pe_int (fun _ _ => rfl)) (pv 5) (fun _ _ => rfl)) (pv 6)) pa_nil))))))
      (pss_one (ps_ret (pe_callTy call_tuple_of (by rfl) B.tuple boot_tuple (pa_cons (pv 4) pa_nil)))))))), ?_⟩
    refine ⟨_, rfl, _, rfl, _, rfl, a, b, c, p, t, o, rfl, hp, ht, ho, hP, hS, hO, fun H1 s1 => ?_⟩
    refine ⟨_, rfl, _, rfl, _, rfl, a, b, c, p, t, o, rfl, Same.t s1 hp, Same.t s1 ht, Same.t s1 ho, hP, hS, hO, fun l R dss H2 s2 nl hl hR hD hm => ?_⟩
    have pm := Qm.rows_perm tT tN tQ (n := t.length) (Qm.colls_perm hD hC) o
    have few : R.length ≤ 256 := by
      have h1 := Qm.tl_few hD l16
      have h2 : (R.map (·.2)).length ≤ dss.length := by
        rw [hm]
        unfold rows
        exact Nat.le_trans (List.length_filter_le _ _) (by rw [List.length_map]; exact Nat.le_refl _)
      rw [List.length_map] at h2
      omega
    have rlen : ∀ r ∈ R, r.2.length = t.length - 1 := fun r hr => by
      have h1 : r.2 ∈ R.map (·.2) := List.mem_map.mpr ⟨r, hr, rfl⟩
      rw [hm] at h1
      obtain ⟨z, hz, e⟩ := List.mem_map.mp (List.mem_filter.mp h1).1
      rw [← e, Qm.looks_len]
    have s12 := s1.trans s2
    refine ⟨.ref l, rfl, _, .inl ⟨_, .inl (.inl hl), rfl⟩, ?_⟩
    by_cases hR0 : R = []
    · have e0 : rows tT tN tQ t.length css o = [] := by
        have h1 := pm.length_eq
        rw [← hm, hR0] at h1
        exact List.length_eq_zero_iff.mp h1.symm
      rw [hR0]
      exact iteT (q0 e0 H2 s12)
    · have hne : rows tT tN tQ t.length dss o ≠ [] := by
        rw [← hm]
        intro z
        exact hR0 (List.map_eq_nil_iff.mp z)
      have hne2 : rows tT tN tQ t.length css o ≠ [] := fun z => hne (by
        have h1 := pm.length_eq
        rw [z] at h1
        exact List.length_eq_zero_iff.mp h1)
      have eimp := Qm.imp_perm tQ pm hne o
      have emp : (!(refs R).isEmpty) = true := by
        cases R with
        | nil => exact absurd rfl hR0
        | cons x y => rfl
      rw [emp]
      refine iteF ?_
      have q := q1 hne2
      rw [← eimp, ← hm] at q
      -- found
      refine ⟨Nat.zero_le _, fun fl nfl => ?_⟩
      have s3 : Same H2 (upd H2 fl (.lst [])) := same_new nfl
      have nfl0 : H fl = none := Same.free s12 nfl
      have nfl2 : H2 fl = none := nfl
      refine ⟨.ref c, rfl, c, _, rfl, Same.t (s12.trans s3) ho, ?_⟩
      refine for_it Qe.walk_enumT (fun k σ H' => (∃ y5 y6 y7, σ = [some (.ref a), some (.ref b), some (.ref c), some (.ref l), some (.ref fl), y5, y6, y7, none]) ∧ Same H2 H' ∧ H' fl = some (.lst (vT ((List.range k).map (impk tQ (R.map (·.2)) o)))))
        ⟨⟨_, _, _, rfl⟩, s3, upd_same⟩ (fun k σ H' _ hw => Same.t (s12.trans hw.2.1) ho) (fun k x σ H' H'' hk hw y => ?_) (fun σ H' hw => ?_)
      · obtain ⟨⟨y5, y6, y7, rfl⟩, s4, hfl⟩ := hw
        obtain ⟨T, x1, x2, rfl, nT, rfl, f1, f2⟩ := y
        rw [vT_len] at hk
        have e1 : x1 = V.int (k : Int) := (Option.some.inj f1).symm
        have f2 : (vT o)[k]? = some x2 := f2
        rw [vT_at tQ hk] at f2
        have e2 := (Option.some.inj f2).symm
        subst e1
        subst e2
        have s5 : Same H2 (upd H' T (.tup [.int (k : Int), .str (o.getD k tQ)])) := s4.trans (same_new nT)
        have hfl5 := same_new (o := .tup [.int (k : Int), .str (o.getD k tQ)]) nT _ _ hfl
        have hT5 : (upd H' T (.tup [.int (k : Int), .str (o.getD k tQ)])) T = some (.tup [.int (k : Int), .str (o.getD k tQ)]) := upd_same
        generalize upd H' T (.tup [.int (k : Int), .str (o.getD k tQ)]) = H5 at s5 hfl5 hT5
        have hl5 := s5 _ _ hl
        have hR5 := Same.lp s5 hR
        refine ⟨T, _, rfl, .inl (.inl hT5), rfl, _, _, rfl, _, [], rfl, rfl, ?_⟩
        refine ⟨.ref l, rfl, l, rfl, ⟨_, .inl (.inl hl5)⟩, fun D nD => ?_⟩
        refine Qr.dc_all walk_list (fun i H' => Same H5 H' ∧ ∃ kvs : List (Key × V), H' D = some (.dK kvs) ∧ kvs.length ≤ i ∧ (kvs.map (·.1)).Nodup ∧ ∀ z, z ∈ kvs.map (·.1) ↔ ∃ r ∈ R.take i, (Sum.inr (r.2.getD k tQ) : Key) = z)
          ⟨same_new nD, [], upd_same, Nat.zero_le _, List.nodup_nil, fun z => ⟨fun h => absurd h (by simp), fun ⟨r, hr, _⟩ => absurd hr (by simp)⟩⟩ (fun i H' _ hw => .inl (.inl (hw.1 _ _ hl5))) (fun i x H6 H7 hi hw y => ?_) (fun H6 hw => ?_)
        · obtain ⟨s6, kvs, hD, hkl, hkn, hkm⟩ := hw
          obtain ⟨e5, e6⟩ := y
          subst e5
          rw [refs_len] at hi
          rw [refs_at hi] at e6
          have e6 := (Option.some.inj e6).symm
          subst e6
          have hq := Same.t s6 (hR5.get hi)
          have hrl := rlen R[i] (List.getElem_mem hi)
          have tk : R.take (i + 1) = R.take i ++ [R[i]] := by
            rw [List.take_add_one, List.getElem?_eq_getElem hi]
            rfl
          refine ⟨rfl, _, rfl, _, rfl, R[i].1, _, (k : Int), .str (R[i].2.getD k tQ), rfl, rfl, hq, atI_nat (vT_at tQ (by omega)), kvs, .inr (R[i].2.getD k tQ), rfl, hD, smallL (by omega), ?_⟩
          refine ⟨same_mut s6 nD, putK kvs (.inr (R[i].2.getD k tQ)) (.bl true), upd_same, by have := length_putK kvs (.inr (R[i].2.getD k tQ)) (V.bl true); omega, ?_, fun z => ?_⟩
          · by_cases hin : (Sum.inr (R[i].2.getD k tQ) : Key) ∈ kvs.map (·.1)
            · rw [putK_in hin]
              exact hkn
            · rw [putK_out hin]
              refine List.nodup_append.mpr ⟨hkn, by simp, fun x hx y hy e => ?_⟩
              rw [List.mem_singleton.mp hy] at e
              rw [e] at hx
              exact hin hx
          · rw [tk]
            by_cases hin : (Sum.inr (R[i].2.getD k tQ) : Key) ∈ kvs.map (·.1)
            · rw [putK_in hin, hkm z]
              constructor
              · rintro ⟨r, hr, e⟩
                exact ⟨r, List.mem_append_left _ hr, e⟩
              · rintro ⟨r, hr, e⟩
                rcases List.mem_append.mp hr with hr | hr
                · exact ⟨r, hr, e⟩
                · rw [List.mem_singleton.mp hr] at e
                  rw [← e]
                  exact (hkm _).mp hin
            · rw [putK_out hin, List.mem_append, hkm z]
              constructor
              · rintro (⟨r, hr, e⟩ | e)
                · exact ⟨r, List.mem_append_left _ hr, e⟩
                · exact ⟨R[i], List.mem_append_right _ (List.mem_singleton.mpr rfl), (List.mem_singleton.mp e).symm⟩
              · rintro ⟨r, hr, e⟩
                rcases List.mem_append.mp hr with hr | hr
                · exact .inl ⟨r, hr, e⟩
                · rw [List.mem_singleton.mp hr] at e
                  exact .inr (List.mem_singleton.mpr e.symm)
        · obtain ⟨s6, kvs, hD, hkl, hkn, hkm⟩ := hw
          rw [refs_len, List.take_length] at hkm
          have one := Qm.one_iff (rs := R) (ys := kvs.map (·.1)) (f := fun r => (Sum.inr (r.2.getD k tQ) : Key)) hkn hkm hR0
          rw [List.length_map] at one
          have s56 := s5.trans s6
          have hfl6 := s6 _ _ hfl5
          have alike : kvs.length = 1 ↔ ∀ r ∈ R.map (·.2), ∀ r' ∈ R.map (·.2), r.getD k tQ = r'.getD k tQ := by
            rw [one]
            constructor
            · intro h r hr r' hr'
              obtain ⟨x, hx, e⟩ := List.mem_map.mp hr
              obtain ⟨x', hx', e'⟩ := List.mem_map.mp hr'
              have := Sum.inr.inj (h x hx x' hx')
              rw [← e, ← e']
              exact this
            · intro h r hr r' hr'
              exact congrArg Sum.inr (h r.2 (List.mem_map.mpr ⟨r, hr, rfl⟩) r'.2 (List.mem_map.mpr ⟨r', hr', rfl⟩))
          have done : ∀ H', Same H6 H' → (∃ y5 y6 y7, ([some (.ref a), some (.ref b), some (.ref c), some (.ref l), some (.ref fl), some (V.int (k : Int)), some (V.str (o.getD k tQ)), some (V.ref D), none] : L2.St) = [some (.ref a), some (.ref b), some (.ref c), some (.ref l), some (.ref fl), y5, y6, y7, none]) ∧ Same H2 (upd H' fl (.lst (vT ((List.range k).map (impk tQ (R.map (·.2)) o)) ++ [V.str (impk tQ (R.map (·.2)) o k)]))) ∧
              (upd H' fl (.lst (vT ((List.range k).map (impk tQ (R.map (·.2)) o)) ++ [V.str (impk tQ (R.map (·.2)) o k)]))) fl = some (.lst (vT ((List.range (k + 1)).map (impk tQ (R.map (·.2)) o)))) := fun H' s7 => by
            refine ⟨⟨_, _, _, rfl⟩, same_mut (s56.trans s7) nfl2, ?_⟩
            rw [upd_same, List.range_succ, List.map_append]
            unfold vT
            rw [List.map_append]
            rfl
          have small1 : (vT ((List.range k).map (impk tQ (R.map (·.2)) o))).length < sizeLine := by
            rw [vT_len, List.length_map, List.length_range]
            exact smallL (by omega)
          refine ⟨.ref fl, rfl, .inl ⟨rfl, _, .inl (.inl hfl6)⟩, .ref D, rfl, D, kvs, rfl, hD, rfl, _, rfl, ite2 (fun c1 => ?_) (fun c1 => ?_)⟩
          · have c2 : kvs.length = 1 := by
              have := V.int.inj (of_decide_eq_true c1)
              omega
            have al := alike.mp c2
            obtain ⟨r0, rs, eR⟩ : ∃ r0 rs, R = r0 :: rs := by
              cases R with
              | nil => exact absurd rfl hR0
              | cons x y => exact ⟨x, y, rfl⟩
            have hr0 : r0 ∈ R := by rw [eR]; exact List.mem_cons_self
            have hq := Same.t s6 (hR5 r0 hr0)
            have hrl := rlen r0 hr0
            have ev : impk tQ (R.map (·.2)) o k = r0.2.getD k tQ := by
              unfold impk
              rw [if_pos al, eR]
              rfl
            have dn := done H6 (Same.refl _)
            rw [ev] at dn
            refine ⟨.ref l, rfl, l, _, 0, .ref r0.1, rfl, rfl, .inl (.inl (s6 _ _ hl5)), atI_nat (j := 0) (by rw [eR]; rfl), _, rfl, r0.1, _, (k : Int), .str (r0.2.getD k tQ), rfl, rfl, hq, atI_nat (vT_at tQ (by omega)), fl, _, _, rfl, rfl, hfl6, small1, dn⟩
          · have c2 : ¬ kvs.length = 1 := fun z => c1 (decide_eq_true (by rw [z]; rfl))
            have ev : impk tQ (R.map (·.2)) o k = o.getD k tQ := by
              unfold impk
              rw [if_neg fun z => c2 (alike.mpr z)]
            have dn := done H6 (Same.refl _)
            rw [ev] at dn
            exact ⟨_, rfl, fl, _, _, rfl, rfl, hfl6, small1, dn⟩
      · obtain ⟨⟨y5, y6, y7, rfl⟩, s4, hfl⟩ := hw
        rw [vT_len] at hfl
        exact ⟨.ref fl, rfl, fl, _, rfl, .inl ⟨.inl (.inl hfl), fun r nr => q r _ ((s12.trans s4).trans (same_new nr)) (.inl (.inl upd_same))⟩⟩
end
end Qa
end

section
set_option Elab.async false
set_option linter.all false
set_option maxRecDepth 100000
set_option maxHeartbeats 2000000
namespace Qa
open PySem PySem.Spec PyProof.Rows L2 Qb
open Qm (Pap Sq nth sat sl Tl Colls Dec looks cen bad rows imp impk)
/-! the stream: a list at st of the script's copy at l, a cell, a place -/
def Sx (H : Hp) (st l : Addr) : Prop := st ≠ l ∧ ∃ (ns : List Int) (c k : Int), H st = some (.lst [.ref l, .int c, .int k]) ∧ H l = some (.lst (vI ns)) ∧ 0 ≤ c ∧ 0 ≤ k
/-- nothing but the stream changes -/
def Sb (st : Addr) (H H' : Hp) : Prop := ∀ b o, b ≠ st → H b = some o → H' b = some o
theorem Sb.refl (st : Addr) (H : Hp) : Sb st H H := fun _ _ _ h => h
theorem Sb.trans {st : Addr} {H H1 H2 : Hp} (a : Sb st H H1) (b : Sb st H1 H2) : Sb st H H2 := fun c o n h => b c o n (a c o n h)
theorem Same.sb {st : Addr} {H H' : Hp} (s : Same H H') : Sb st H H' := fun b o _ h => s b o h
theorem Same.sx {st l : Addr} {H H' : Hp} (s : Same H H') (h : Sx H st l) : Sx H' st l := by
  obtain ⟨n, ns, c, k, h1, h2, h3⟩ := h
  exact ⟨n, ns, c, k, s _ _ h1, s _ _ h2, h3⟩
theorem Sb.tm {st l : Addr} {H H' : Hp} (s : Sb st H H') (h : Sx H st l) : Tm H H' := by
  obtain ⟨n, ns, c, k, h1, h2, h3⟩ := h
  refine ⟨fun b xs e => s b _ (fun z => ?_) e, fun b o u e => s b _ (fun z => ?_) e⟩
  · rw [z, h1] at e
    cases e
  · rw [z, h1] at e
    cases e
theorem sb_mut {st p : Addr} {H H' : Hp} {o : HO} (s : Sb st H H') (h : H p = none) : Sb st H (upd H' p o) := fun b x n e => by
  rw [upd_ne (ne_of_none e h)]
  exact s b x n e
theorem sx_mut {st l p : Addr} {H H' : Hp} {o : HO} (h0 : Sx H st l) (hp : H p = none) (h : Sx H' st l) : Sx (upd H' p o) st l := by
  obtain ⟨n, ns0, c0, k0, a1, a2, _⟩ := h0
  obtain ⟨_, ns, c, k, h1, h2, h3⟩ := h
  refine ⟨n, ns, c, k, ?_, ?_, h3⟩
  · rw [upd_ne (ne_of_none a1 hp)]
    exact h1
  · rw [upd_ne (ne_of_none a2 hp)]
    exact h2
/-- a comprehension whose element may draw; element y bears Pr -/
theorem lc_st {J : It} {n : Nat} {G : Hp → Prop} {Y : Nat → Hp → V → Hp → Prop} {g : TG} {te : TE} {vs : List Nat} {σ : L2.St} {H1 : Hp} {D : Addr} {Qd : Hp → Prop} (w : Walk J n G Y) (hY : ∀ i H x H', Y i H x H' → Same H H') {st l : Addr} (hG : ∀ H', Sb st H1 H' → Tm H1 H' → G H') (hD : H1 D = none) (hS : Sx H1 st l) (hn : n ≤ 50000) (Pr : V → Prop)
    (hs : ∀ (i : Nat) (x : V) (H' H'' : Hp) (R : V → Hp → Prop), i < n → Sb st H1 H' → Sx H'' st l → Tm H1 H'' → Y i H' x H'' → (∀ y H4, Sb st H'' H4 → Sx H4 st l → Pr y → R y H4) →
      g x (wipe σ vs) H'' fun σ2 H2 => wipe σ2 vs = wipe σ vs ∧ te σ2 H2 R)
    (hd : ∀ H' ys, Sb st H1 H' → Sx H' st l → H' D = some (.lst ys) → ys.length = n → (∀ y ∈ ys, Pr y) → Qd H') :
    ∃ W : Nat → Nat → Hp → Prop, (∃ m, W 0 m (upd H1 D (.lst []))) ∧ ∀ i m H, W i m H →
      (J.stop i H ∧ Qd H) ∨ (J.go i H ∧ ∃ Nx : Hp → Prop, (∀ H', Nx H' → ∃ m', m' < m ∧ W (i + 1) m' H') ∧ ∀ x H', J.yld i H x H' → g x (wipe σ vs) H' fun σ2 H2 => wipe σ2 vs = wipe σ vs ∧ tYes σ2 H2 fun b H3 =>
        if b = true then te σ2 H3 fun y H4 => ∃ acc, H4 D = some (.lst acc) ∧ acc.length < sizeLine ∧ Nx (upd H4 D (.lst (acc ++ [y]))) else Nx H3) := by
  have stD : D ≠ st := fun z => by
    obtain ⟨_, _, _, _, h1, _⟩ := hS
    rw [← z, hD] at h1
    cases h1
  refine lc_it (tt := tYes) w (fun i H => Sb st H1 H ∧ Sx H st l ∧ ∃ ys : List V, H D = some (.lst ys) ∧ ys.length = i ∧ ∀ y ∈ ys, Pr y) ⟨Same.sb (same_new hD), sx_mut hS hD hS, [], upd_same, rfl, fun y hy => absurd hy (by simp)⟩ (fun i H _ p => hG H p.1 (p.1.tm hS)) (fun i x H H' hi p y => ?_) (fun H p => ?_)
  · obtain ⟨s1, sx, ys, e1, e2, e3⟩ := p
    have sY := hY i H x H' y
    refine hs i x H H' (fun y H4 => ∃ acc, H4 D = some (.lst acc) ∧ acc.length < sizeLine ∧ (Sb st H1 (upd H4 D (.lst (acc ++ [y]))) ∧ Sx (upd H4 D (.lst (acc ++ [y]))) st l ∧ ∃ ys : List V, (upd H4 D (.lst (acc ++ [y]))) D = some (.lst ys) ∧ ys.length = i + 1 ∧ ∀ z ∈ ys, Pr z)) hi s1 (Same.sx sY sx) ((s1.tm hS).trans (Same.tm sY)) y (fun y H4 s4 sx4 hp => ?_)
    have h4 : H4 D = some (.lst ys) := s4 _ _ stD (sY _ _ e1)
    refine ⟨ys, h4, smallL (by omega), sb_mut ((s1.trans (Same.sb sY)).trans s4) hD, sx_mut hS hD sx4, ys ++ [y], upd_same, by rw [List.length_append, e2]; rfl, fun z hz => ?_⟩
    rcases List.mem_append.mp hz with k | k
    · exact e3 z k
    · rw [List.mem_singleton.mp k]
      exact hp
  · obtain ⟨s1, sx, ys, e1, e2, e3⟩ := p
    exact hd H ys s1 sx e1 e2 e3
section
variable {P : Program} {w : World} {K : PySem.W.Frag} {mg : Str → Option Value} {base : Heap}
def spStream (K : PySem.W.Frag) : Sp := fun vs H Q _ => ∃ (a : Addr) (ns : List Int), vs = [.ref a] ∧ SqL K H a (vI ns) ∧ ∀ st l H', Same H H' → Sx H' st l → Q (.ref st) H'
theorem cal_stream (B : Bls mg) (D : Dn K mg "_law_stream" (topS 31) ["_law_script"]) : C8.Cal P w K mg base 1 "_law_stream" (spStream K) [] := by
  refine D.cal (N := ["_law_script"]) (by decide +kernel) (fun vs H Q E h => ?_) (fun f cdv A outer s H vs Q E nd hr h => ?_)
  · obtain ⟨a, ns, rfl, _⟩ := h
    rfl
  · obtain ⟨a, ns, rfl, ha, q⟩ := h
    refine ⟨_, pss_one (ps_ret (pe_lst (pa_cons (pe_callTy call_list_of (by rfl) B.list boot_list (pa_cons (pv 0) pa_nil)) (pa_cons pe_int (pa_cons pe_int pa_nil))))), ?_⟩
    refine ⟨.ref a, rfl, a, _, rfl, .inl ha, fun l nl => ⟨(by show 3 ≤ sizeLine; decide), fun st nst => ?_⟩⟩
    have ne : st ≠ l := ne_upd nst
    refine q st l _ ((same_new nl).trans (same_new nst)) ⟨ne, ns, 0, 0, upd_same, ?_, by decide, by decide⟩
    rw [upd_ne ne.symm, upd_same]

def spNext : Sp := fun vs H Q _ => ∃ (st l : Addr) (m : Int), vs = [.ref st, .int m] ∧ Sx H st l ∧ 1 ≤ m ∧ m ≤ 1000 ∧ ∀ (d : Int) H', Sb st H H' → Sx H' st l → 0 ≤ d → d < m → Q (.int d) H'
theorem cal_next (B : Bls mg) (D : Dn K mg "_law_next" (topS 32) ["_law_stream_here", "_law_many"]) : C8.Cal P w K mg base 1 "_law_next" spNext [] := by
  refine D.cal (N := ["_law_stream_here", "_law_many", "_law_k", "_law_cell", "_law_digit"]) (by decide +kernel) (fun vs H Q E h => ?_) (fun f cdv A outer s H vs Q E nd hr h => ?_)
  · obtain ⟨st, l, m, rfl, _⟩ := h
    rfl
  · obtain ⟨st, l, m, rfl, hS, m1, m2, q⟩ := h
    refine ⟨_, C8.pss_cut (ps_if (pt_cmpR op_eq (pe_ix (ixL_K (K := K) rfl) (pv 0) pe_int (fun _ _ => rfl)) pe_int (nomark _))
        (pss_cons (ps_set (i := 2) nd rfl (.inl rfl) (pe_ix (ixL_K (K := K) rfl) (pv 0) pe_int (fun _ _ => rfl)))
        (pss_cons (ps_set (i := 3) nd rfl (.inl rfl) (pe_op op_add pe_int (pv 2)))
        (C8.pss_cut (ps_if (pt_cmpR op_lt (pv 2) (pe_callB (len_K (K := K) rfl) (by rfl) B.len PySem.boot_len (pa_cons (pe_ix (ixL_K (K := K) rfl) (pv 0) pe_int (fun _ _ => rfl)) pa_nil)) (nomark _))
            (pss_one (ps_set (i := 3) nd rfl (.inl rfl) (pe_callB call_abs (by rfl) B.abs boot_abs (pa_cons (pe_ix (ixL_K (K := K) rfl) (pe_ix (ixL_K (K := K) rfl) (pv 0) pe_int (fun _ _ => rfl)) (pv 2) (fun _ _ => rfl)) pa_nil)))) pss_nil)
        (C8.pss_cut (ps_if (pt_cmpR op_lt (pv 3) (pe_op op_pow pe_int pe_int) (nomark _))
            (pss_cons (ps_set (i := 3) nd rfl (.inl rfl) (pe_op op_mod (pe_callTy call_int1 (by rfl) B.int boot_int (pa_cons (pe_op op_add (pe_op op_add (pe_op op_mul (pv 3) pe_int) (pe_op op_mul (pv 2) pe_int)) pe_int) pa_nil)) pe_int))
            (pss_one (ps_set (i := 3) nd rfl (.inl rfl) (pe_op op_add (pe_op op_mul (pe_op op_mod (pe_callTy call_int1 (by rfl) B.int boot_int (pa_cons (pe_op op_add (pe_op op_mul (pv 3) pe_int) pe_int) pa_nil)) pe_int) pe_int) (pv 3))))) pss_nil)
        (pss_cons (ps_asg (pv 3) (pg_sub (pv 0) pe_int set_list))
        (pss_one (ps_asg (pe_op op_add (pv 2) pe_int) (pg_sub (pv 0) pe_int set_list)))))))) pss_nil)
      (pss_cons (ps_set (i := 4) nd rfl (.inl rfl) (pe_op op_mod (pe_callTy call_int1 (by rfl) B.int boot_int (pa_cons (pe_ix (ixL_K (K := K) rfl) (pv 0) pe_int (fun _ _ => rfl)) pa_nil)) (pv 1)))
      (pss_cons (ps_asg (pe_op op_fdiv (pe_ix (ixL_K (K := K) rfl) (pv 0) pe_int (fun _ _ => rfl)) (pv 1)) (pg_sub (pv 0) pe_int set_list))
      (pss_one (ps_ret (pv 4))))), ?_⟩
    obtain ⟨nsl, ns, c, k, hst, hl, hc, hk⟩ := hS
    have i0 : ∀ (c k : Int), atI [V.ref l, V.int c, V.int k] 0 = some (.ref l) := fun c k => atI_nat (j := 0) rfl
    have i1 : ∀ (c k : Int), atI [V.ref l, V.int c, V.int k] 1 = some (.int c) := fun c k => atI_nat (j := 1) rfl
    have i2 : ∀ (c k : Int), atI [V.ref l, V.int c, V.int k] 2 = some (.int k) := fun c k => atI_nat (j := 2) rfl
    refine ⟨fun σ H' => (∃ y2 y3, σ = [some (.ref st), some (.int m), y2, y3, none]) ∧ Sb st H H' ∧ ∃ c k : Int, H' st = some (.lst [.ref l, .int c, .int k]) ∧ 0 ≤ c ∧ 0 ≤ k, ?_, fun σ H' hw => ?_⟩
    · refine ⟨.ref st, rfl, st, _, 1, .int c, rfl, rfl, .inl (.inl hst), i1 c k, rfl, _, rfl, ite2 (fun _ => ?_) (fun _ => ⟨⟨_, _, rfl⟩, Sb.refl _ _, c, k, hst, hc, hk⟩)⟩
      refine ⟨.ref st, rfl, st, _, 2, .int k, rfl, rfl, .inl (.inl hst), i2 c k, ?_⟩
      refine ⟨_, rfl, _, _, rfl, rfl, ?_⟩
      -- the cell as it is read
      refine ⟨fun σ H' => H' = H ∧ ∃ x : Int, σ = [some (.ref st), some (.int m), some (.int k), some (.int x), none] ∧ 0 ≤ x, ?_, fun σ H' hw => ?_⟩
      · refine ⟨_, rfl, .ref st, rfl, st, _, 0, .ref l, rfl, rfl, .inl (.inl hst), i0 c k, l, _, rfl, .inl (.inl (.inl hl)), _, _, rfl, rfl, _, rfl, ite2 (fun c1 => ?_) (fun c1 => ⟨rfl, _, rfl, by omega⟩)⟩
        have c2 : k < (ns.length : Int) := by
          have := of_decide_eq_true c1
          rw [vI_len] at this
          exact this
        refine ⟨.ref st, rfl, st, _, 0, .ref l, rfl, rfl, .inl (.inl hst), i0 c k, _, rfl, l, _, k, .int (nth ns k), rfl, rfl, .inl (.inl hl), vI_nth hk c2, _, rfl, rfl, _, rfl, ?_⟩
        split <;> omega
      · obtain ⟨e0, x, rfl, hx⟩ := hw
        subst e0
        refine ⟨fun σ H2 => H2 = H' ∧ ∃ x : Int, σ = [some (.ref st), some (.int m), some (.int k), some (.int x), none] ∧ 0 ≤ x, ?_, fun σ H2 hw => ?_⟩
        · refine ⟨_, rfl, _, _, rfl, rfl, ⟨by decide, by decide, by decide⟩, _, _, rfl, rfl, _, rfl, ite2 (fun _ => ?_) (fun _ => ⟨rfl, x, rfl, hx⟩)⟩
          refine ⟨_, rfl, _, _, rfl, rfl, .inr ⟨by decide, by decide⟩, _, rfl, _, _, rfl, rfl, .inr ⟨by decide, by decide⟩, _, _, rfl, rfl, _, _, rfl, rfl, .inl ⟨_, rfl, _, _, rfl, rfl, (by show (0 : Int) < 2147483647; decide), ?_⟩⟩
          have h2 : (0 : Int) ≤ (x * 48271 + k * 69621 + 11) % 2147483647 := Int.emod_nonneg _ (by decide)
          refine ⟨_, rfl, _, _, rfl, rfl, .inr ⟨by decide, by decide⟩, _, _, rfl, rfl, .inl ⟨_, rfl, _, _, rfl, rfl, (by show (0 : Int) < 2147483647; decide), ?_⟩⟩
          have h3 : (0 : Int) ≤ ((x * 48271 + k * 69621 + 11) % 2147483647 * 16807 + 13) % 2147483647 := Int.emod_nonneg _ (by decide)
          refine ⟨_, _, rfl, rfl, .inr ⟨by decide, by decide⟩, _, rfl, _, _, rfl, rfl, ?_⟩
          exact ⟨rfl, _, rfl, by omega⟩
        · obtain ⟨e0, x, rfl, hx⟩ := hw
          subst e0
          refine ⟨_, rfl, _, rfl, st, _, 1, 1, rfl, rfl, hst, by rfl, ?_⟩
          refine ⟨_, rfl, _, _, rfl, rfl, _, rfl, st, _, 2, 2, rfl, rfl, upd_same, by rfl, ?_⟩
          refine ⟨⟨_, _, rfl⟩, fun b o n e => ?_, x, k + 1, upd_same, hx, by omega⟩
          rw [upd_ne n, upd_ne n]
          exact e
    · obtain ⟨⟨y2, y3, rfl⟩, sb, c, k, hst, hc, hk⟩ := hw
      refine ⟨.ref st, rfl, st, _, 1, .int c, rfl, rfl, .inl (.inl hst), i1 c k, .inl ⟨_, rfl, _, rfl, _, _, rfl, rfl, (by show (0 : Int) < m; omega), ?_⟩⟩
      refine ⟨.ref st, rfl, st, _, 1, .int c, rfl, rfl, .inl (.inl hst), i1 c k, _, rfl, _, _, rfl, rfl, ⟨by omega, by omega⟩, _, rfl, st, _, 1, 1, rfl, rfl, hst, by rfl, ?_⟩
      refine ⟨_, rfl, ?_⟩
      have d0 : 0 ≤ c % m := Int.emod_nonneg _ (by omega)
      have d1 : c % m < m := Int.emod_lt_of_pos _ (by omega)
      refine q _ _ (sb.trans fun b o n e => ?_) ⟨nsl, ns, c / m, k, upd_same, ?_, Int.ediv_nonneg hc (by omega), hk⟩ d0 d1
      · rw [upd_ne n]
        exact e
      · rw [upd_ne nsl.symm]
        exact sb _ _ nsl.symm hl
end
end Qa
end

section
set_option Elab.async false
set_option linter.all false
set_option maxRecDepth 100000
set_option maxHeartbeats 2000000
namespace Qa
open PySem PySem.Spec PyProof.Rows L2 Qb
open Qm (Pap Sq nth sat sl Tl Colls Dec looks cen bad rows imp impk)
theorem ints_of {m : Int} : ∀ {ys : List V}, (∀ y ∈ ys, ∃ d : Int, y = .int d ∧ 0 ≤ d ∧ d < m) → ∃ ns : List Int, ys = vI ns ∧ ∀ x ∈ ns, 0 ≤ x ∧ x < m
  | [], _ => ⟨[], rfl, fun x hx => absurd hx (by simp)⟩
  | y :: ys, h => by
    obtain ⟨d, e, h1⟩ := h y (List.mem_cons_self ..)
    obtain ⟨ns, e2, h2⟩ := ints_of (ys := ys) fun z hz => h z (List.mem_cons_of_mem _ hz)
    refine ⟨d :: ns, ?_, fun x hx => ?_⟩
    · rw [e, e2]
      rfl
    · rcases List.mem_cons.mp hx with z | z
      · rw [z]
        exact h1
      · exact h2 x z
theorem papC {p : List Int} (h1 : 1 ≤ p.length) (h6 : p.length ≤ 6) (h2 : ∀ x ∈ p, 0 ≤ x ∧ x < (p.length : Int)) (h3 : ∀ i : Nat, i < p.length → nth p (nth p (i : Int)) = (i : Int)) : Pap p := by
  refine ⟨h1, h6, h2, fun x a b => ?_⟩
  obtain ⟨n, e⟩ : ∃ n : Nat, x = (n : Int) := ⟨x.toNat, by omega⟩
  subst e
  exact h3 n (by omega)
theorem pap1 : Pap [1, 0] := papC (by decide) (by decide) (by decide) (by decide)
theorem pap2 : Pap [0, 1] := papC (by decide) (by decide) (by decide) (by decide)
theorem pap3 : Pap [1, 0, 2] := papC (by decide) (by decide) (by decide) (by decide)
theorem pap4 : Pap [0] := papC (by decide) (by decide) (by decide) (by decide)
theorem pap5 : Pap [1, 0, 3, 2] := papC (by decide) (by decide) (by decide) (by decide)
theorem pap6 : Pap [0, 2, 1] := papC (by decide) (by decide) (by decide) (by decide)
theorem six {d : Int} (h0 : 0 ≤ d) (h1 : d < 6) : d = 0 ∨ d = 1 ∨ d = 2 ∨ d = 3 ∨ d = 4 ∨ d = 5 := by omega
section
variable {P : Program} {w : World} {K : PySem.W.Frag} {mg : Str → Option Value} {base : Heap}
def spPap (K : PySem.W.Frag) : Sp := fun vs H Q _ => ∃ (st l : Addr), vs = [.ref st] ∧ Sx H st l ∧ ∀ (r : Addr) (p : List Int) H', Sb st H H' → Sx H' st l → SqT K H' r (vI p) → Pap p → Q (.ref r) H'
theorem cal_pap (D : Dn K mg "_law_paper" (topS 33) ["_law_stream_here"]) (cN : C8.Cal P w K mg base 1 "_law_next" spNext []) : C8.Cal P w K mg base 2 "_law_paper" (spPap K) [] := by
  refine D.cal (N := ["_law_stream_here"]) (by decide +kernel) (fun vs H Q E h => ?_) (fun f cdv A outer s H vs Q E nd hr h => ?_)
  · obtain ⟨st, l, rfl, _⟩ := h
    rfl
  · obtain ⟨st, l, rfl, hS, q⟩ := h
    refine ⟨_, pss_one (ps_ret (pe_ix (ixL_K (K := K) rfl) (pe_lst (pa_cons (pe_tup (pa_cons pe_int (pa_cons pe_int pa_nil))) (pa_cons (pe_tup (pa_cons pe_int (pa_cons pe_int pa_nil))) (pa_cons (pe_tup (pa_cons pe_int (pa_cons pe_int (pa_cons pe_int pa_nil))))
        (pa_cons (pe_tup (pa_cons pe_int pa_nil)) (pa_cons (pe_tup (pa_cons pe_int (pa_cons pe_int (pa_cons pe_int (pa_cons pe_int pa_nil))))) (pa_cons (pe_tup (pa_cons pe_int (pa_cons pe_int (pa_cons pe_int pa_nil)))) pa_nil)))))))
      (C8.pe_c cN hr (by decide) (by rfl) (pa_cons (pv 0) (pa_cons pe_int pa_nil))) (fun _ _ => rfl))), ?_⟩
    refine ⟨(by show 2 ≤ sizeLine; decide), fun o1 n1 => ?_⟩
    have s1 := same_new (o := .tup [.int 1, .int 0]) n1
    have h1 : (upd H o1 (.tup [.int 1, .int 0])) o1 = some (.tup [.int 1, .int 0]) := upd_same
    generalize upd H o1 (.tup [.int 1, .int 0]) = H1 at s1 h1 ⊢
    refine ⟨(by show 2 ≤ sizeLine; decide), fun o2 n2 => ?_⟩
    have s2 := same_new (o := .tup [.int 0, .int 1]) n2
    have h2 : (upd H1 o2 (.tup [.int 0, .int 1])) o2 = some (.tup [.int 0, .int 1]) := upd_same
    generalize upd H1 o2 (.tup [.int 0, .int 1]) = H2 at s2 h2 ⊢
    refine ⟨(by show 3 ≤ sizeLine; decide), fun o3 n3 => ?_⟩
    have s3 := same_new (o := .tup [.int 1, .int 0, .int 2]) n3
    have h3 : (upd H2 o3 (.tup [.int 1, .int 0, .int 2])) o3 = some (.tup [.int 1, .int 0, .int 2]) := upd_same
    generalize upd H2 o3 (.tup [.int 1, .int 0, .int 2]) = H3 at s3 h3 ⊢
    refine ⟨(by show 1 ≤ sizeLine; decide), fun o4 n4 => ?_⟩
    have s4 := same_new (o := .tup [.int 0]) n4
    have h4 : (upd H3 o4 (.tup [.int 0])) o4 = some (.tup [.int 0]) := upd_same
    generalize upd H3 o4 (.tup [.int 0]) = H4 at s4 h4 ⊢
    refine ⟨(by show 4 ≤ sizeLine; decide), fun o5 n5 => ?_⟩
    have s5 := same_new (o := .tup [.int 1, .int 0, .int 3, .int 2]) n5
    have h5 : (upd H4 o5 (.tup [.int 1, .int 0, .int 3, .int 2])) o5 = some (.tup [.int 1, .int 0, .int 3, .int 2]) := upd_same
    generalize upd H4 o5 (.tup [.int 1, .int 0, .int 3, .int 2]) = H5 at s5 h5 ⊢
    refine ⟨(by show 3 ≤ sizeLine; decide), fun o6 n6 => ?_⟩
    have s6 := same_new (o := .tup [.int 0, .int 2, .int 1]) n6
    have h6 : (upd H5 o6 (.tup [.int 0, .int 2, .int 1])) o6 = some (.tup [.int 0, .int 2, .int 1]) := upd_same
    generalize upd H5 o6 (.tup [.int 0, .int 2, .int 1]) = H6 at s6 h6 ⊢
    refine ⟨(by show 6 ≤ sizeLine; decide), fun o7 n7 => ?_⟩
    have s7 := same_new (o := .lst [.ref o1, .ref o2, .ref o3, .ref o4, .ref o5, .ref o6]) n7
    have h7 : (upd H6 o7 (.lst [.ref o1, .ref o2, .ref o3, .ref o4, .ref o5, .ref o6])) o7 = some (.lst [.ref o1, .ref o2, .ref o3, .ref o4, .ref o5, .ref o6]) := upd_same
    have h70 : H o7 = none := Same.free (s1.trans (s2.trans (s3.trans (s4.trans (s5.trans s6))))) n7
    generalize upd H6 o7 (.lst [.ref o1, .ref o2, .ref o3, .ref o4, .ref o5, .ref o6]) = H7 at s7 h7 ⊢
    have s := s1.trans (s2.trans (s3.trans (s4.trans (s5.trans (s6.trans s7)))))
    have hS7 := Same.sx s hS
    refine ⟨_, rfl, st, l, 6, rfl, hS7, by decide, by decide, fun d H8 sb sx d0 d1 => ?_⟩
    have tm := sb.tm hS7
    have o7st : o7 ≠ st := fun z => by
      obtain ⟨_, _, _, _, g, _⟩ := hS
      rw [← z, h70] at g
      cases g
    have h78 := sb _ _ o7st h7
    have sbb : Sb st H H8 := (Same.sb s).trans sb
    rcases six d0 d1 with e | e | e | e | e | e
    · subst e
      exact ⟨o7, _, _, _, rfl, rfl, .inl (.inl h78), atI_nat (j := 0) rfl, q o1 [1, 0] H8 sbb sx (.inl (.inl (tm.1 _ _ ((s2.trans (s3.trans (s4.trans (s5.trans (s6.trans s7))))) _ _ h1)))) pap1⟩
    · subst e
      exact ⟨o7, _, _, _, rfl, rfl, .inl (.inl h78), atI_nat (j := 1) rfl, q o2 [0, 1] H8 sbb sx (.inl (.inl (tm.1 _ _ ((s3.trans (s4.trans (s5.trans (s6.trans s7)))) _ _ h2)))) pap2⟩
    · subst e
      exact ⟨o7, _, _, _, rfl, rfl, .inl (.inl h78), atI_nat (j := 2) rfl, q o3 [1, 0, 2] H8 sbb sx (.inl (.inl (tm.1 _ _ ((s4.trans (s5.trans (s6.trans s7))) _ _ h3)))) pap3⟩
    · subst e
      exact ⟨o7, _, _, _, rfl, rfl, .inl (.inl h78), atI_nat (j := 3) rfl, q o4 [0] H8 sbb sx (.inl (.inl (tm.1 _ _ ((s5.trans (s6.trans s7)) _ _ h4)))) pap4⟩
    · subst e
      exact ⟨o7, _, _, _, rfl, rfl, .inl (.inl h78), atI_nat (j := 4) rfl, q o5 [1, 0, 3, 2] H8 sbb sx (.inl (.inl (tm.1 _ _ ((s6.trans s7) _ _ h5)))) pap5⟩
    · subst e
      exact ⟨o7, _, _, _, rfl, rfl, .inl (.inl h78), atI_nat (j := 5) rfl, q o6 [0, 2, 1] H8 sbb sx (.inl (.inl (tm.1 _ _ (s7 _ _ h6)))) pap6⟩

def spGa (K : PySem.W.Frag) : Sp := fun vs H Q _ => ∃ (st l a : Addr) (p : List Int) (n : Nat), vs = [.ref st, .ref a, .int (n : Int)] ∧ Sx H st l ∧ SqT K H a (vI p) ∧ Pap p ∧ n ≤ 100 ∧
  ∀ (r : Addr) (t : List Int) H', Sb st H H' → Sx H' st l → SqT K H' r (vI t) → t.length = 2 * n → (∀ x ∈ t, 0 ≤ x ∧ x < (p.length : Int)) → Q (.ref r) H'
theorem vI_ats {p : List Int} {i : Nat} {x : V} (h : (vI p)[i]? = some x) : ∃ d : Int, x = .int d ∧ d ∈ p := by
  rw [List.getElem?_map] at h
  cases e : p[i]? with
  | none =>
    rw [e] at h
    cases h
  | some d =>
    rw [e] at h
    exact ⟨d, (Option.some.inj h).symm, List.mem_of_getElem? e⟩
theorem cal_ga (B : Bls mg) (D : Dn K mg "_law_gathering" (topS 34) ["_law_stream_here", "_law_paper_here", "_law_sheets"]) (cN : C8.Cal P w K mg base 1 "_law_next" spNext []) : C8.Cal P w K mg base 2 "_law_gathering" (spGa K) [] := by
  refine D.cal (N := ["_law_stream_here", "_law_paper_here", "_law_sheets", "_law_row", "_law_k", "_law_mark"]) (by decide +kernel) (fun vs H Q E h => ?_) (fun f cdv A outer s H vs Q E nd hr h => ?_)
  · obtain ⟨st, l, a, p, n, rfl, _⟩ := h
    rfl
  · obtain ⟨st, l, a, p, n, rfl, hS, hp, hP, hn, q⟩ := h
    have l1 := hP.l1
    have l6 := hP.l6
    refine ⟨_, pss_cons (ps_set (i := 3) nd rfl (.inl rfl) (pe_callTy call_tuple_of (by rfl) B.tuple boot_tuple (pa_cons
        (pe_lc (own := [("_law_k", 4)]) (g := gName 4) (tt := tYes) rfl nd (pi_range1 (by rfl) B.range (pa_cons (pv 2) pa_nil)) (blkOk_by (N := ["_law_stream_here", "_law_paper_here", "_law_sheets", "_law_row", "_law_k", "_law_mark"]) (sc := C8.fnScope (topS 34)) (by decide +kernel)) (fun _ _ _ _ _ => pg_name (i := 4) nd rfl (Or.inl rfl)) (fun _ _ _ _ _ => pts_nil)
          (fun _ _ _ _ _ => C8.pe_c cN hr (by decide) (by rfl) (pa_cons (pv 0) (pa_cons (pe_callB (len_K (K := K) rfl) (by rfl) B.len PySem.boot_len (pa_cons (pv 1) pa_nil)) pa_nil)))) pa_nil)))
      (pss_one (ps_ret (pe_op (catT_K (K := K) rfl) (pv 3) (pe_callTy call_tuple_of (by rfl) B.tuple boot_tuple (pa_cons
        (pe_lc (own := [("_law_mark", 5)]) (g := gName 5) (tt := tYes) rfl nd (pi_tup (Qr.pe_revT (pv 3))) (blkOk_by (N := ["_law_stream_here", "_law_paper_here", "_law_sheets", "_law_row", "_law_k", "_law_mark"]) (sc := C8.fnScope (topS 34)) (by decide +kernel)) (fun _ _ _ _ _ => pg_name (i := 5) nd rfl (Or.inl rfl)) (fun _ _ _ _ _ => pts_nil)
          (fun _ _ _ _ _ => pe_ix (ixT_K (K := K) rfl) (pv 1) (pv 5) (fun _ _ => rfl))) pa_nil))))), ?_⟩
    refine ⟨_, rfl, _, rfl, ?_⟩
    refine ⟨by omega, by omega, fun D1 nD1 => lc_st walk_range yfn_same (G := fun _ => True) (fun _ _ _ => trivial) nD1 hS (by omega) (fun y => ∃ d : Int, y = .int d ∧ 0 ≤ d ∧ d < (p.length : Int)) (fun i x H' H'' R hi sb sx tm y hR => ?_) (fun H1 ys sb sx hD hlen hpr => ?_)⟩
    · obtain ⟨e1, e2⟩ := y
      subst e1
      refine ⟨rfl, _, rfl, .ref a, rfl, a, _, rfl, .inr (tm.t hp), st, l, _, rfl, sx, ?_, ?_, fun d H4 s4 sx4 d0 d1 => hR _ H4 s4 sx4 ⟨d, rfl, d0, ?_⟩⟩
      · rw [vI_len]
        omega
      · rw [vI_len]
        omega
      · rw [vI_len] at d1
        exact d1
    · obtain ⟨ns, e, hns⟩ := ints_of hpr
      subst e
      rw [vI_len, Int.toNat_natCast] at hlen
      refine ⟨D1, _, rfl, .inl ⟨.inl (.inl hD), fun r nr => ?_⟩⟩
      have tm := sb.tm hS
      have s1 : Same H1 (upd H1 r (.tup (vI ns))) := same_new nr
      have hr1 : SqT K (upd H1 r (.tup (vI ns))) r (vI ns) := .inl (.inl upd_same)
      generalize upd H1 r (.tup (vI ns)) = H2 at s1 hr1 ⊢
      have hp2 := Same.t s1 (tm.t hp)
      refine ⟨.ref r, rfl, .ref r, rfl, r, _, rfl, hr1, fun rv nrv => ?_⟩
      have s2 : Same H2 (upd H2 rv (.tup (vI ns).reverse)) := same_new nrv
      have hrv : SqT K (upd H2 rv (.tup (vI ns).reverse)) rv (vI ns).reverse := .inl (.inl upd_same)
      generalize upd H2 rv (.tup (vI ns).reverse) = H3 at s2 hrv ⊢
      have erv : (vI ns).reverse = vI ns.reverse := List.map_reverse.symm
      rw [erv] at hrv
      refine ⟨rv, rfl, ⟨_, hrv⟩, fun D2 nD2 => lc_vals walk_tup yat_same (fun H' s => Same.t s hrv) nD2 (by rw [vI_len, List.length_reverse]; omega) (fun i => .int (nth p (sat ns.reverse i))) (fun i x H' H'' R hi s' y hR => ?_) (fun H' s' hD2 => ?_)⟩
      · obtain ⟨e, hx⟩ := y
        subst e
        rw [vI_len] at hi
        rw [vI_at hi] at hx
        have ex := (Option.some.inj hx).symm
        subst ex
        have m := hns _ (List.mem_reverse.mp (Qm.sat_mem hi))
        exact ⟨rfl, .ref a, rfl, _, rfl, a, _, _, _, rfl, rfl, Same.t (s2.trans s') hp2, vI_nth m.1 m.2, hR _ (Same.refl _)⟩
      · refine ⟨D2, _, rfl, .inl ⟨.inl (.inl hD2), fun r2 nr2 => ?_⟩⟩
        have s3 := same_new (o := .tup ((List.range (vI ns.reverse).length).map fun i => V.int (nth p (sat ns.reverse i)))) nr2
        have e9 : ((List.range (vI ns.reverse).length).map fun i => V.int (nth p (sat ns.reverse i))) = vI (ns.reverse.map (nth p)) := by
          rw [vI_len]
          apply List.ext_getElem
          · simp
          · intro i h1 h2
            simp only [List.getElem_map, List.getElem_range]
            rw [List.length_map, List.length_range] at h1
            unfold sat
            rw [List.getD_eq_getElem?_getD, List.getElem?_eq_getElem h1]
            rfl
        refine catA_ans (xs := vI ns) (ys := vI (ns.reverse.map (nth p))) (Same.t (s2.trans (s'.trans s3)) hr1) ?_ ?_ fun r3 H5 s5 h5 => ?_
        · refine .inl (.inl ?_)
          rw [upd_same, e9]
        · rw [vI_len, vI_len, List.length_map, List.length_reverse]
          omega
        · have sall := (s1.trans (s2.trans (s'.trans (s3.trans s5))))
          rw [← List.map_append] at h5
          refine q r3 _ H5 (sb.trans (Same.sb sall)) (Same.sx sall sx) h5 ?_ fun x hx => ?_
          · rw [List.length_append, List.length_map, List.length_reverse]
            omega
          · rcases List.mem_append.mp hx with z | z
            · exact hns x z
            · obtain ⟨y, hy, e⟩ := List.mem_map.mp z
              have m := hns y (List.mem_reverse.mp hy)
              rw [← e]
              exact hP.rng _ (Qm.nth_mem m.1 m.2)
end
end Qa
end

section
set_option Elab.async false
set_option linter.all false
set_option maxRecDepth 100000
set_option maxHeartbeats 2000000
namespace Qa
open PySem PySem.Spec PyProof.Rows L2 Qb
open Qm (Pap Sq nth sat sl Tl Colls Dec looks cen bad rows imp impk)
theorem nth_list (p m : List Int) : ((List.range (vI m).length).map fun i => V.int (nth p (sat m i))) = vI (m.map (nth p)) := by
  rw [vI_len]
  apply List.ext_getElem
  · simp
  · intro i h1 h2
    simp only [List.getElem_map, List.getElem_range]
    rw [List.length_map, List.length_range] at h1
    unfold sat
    rw [List.getD_eq_getElem?_getD, List.getElem?_eq_getElem h1]
    rfl
section
variable {P : Program} {w : World} {K : PySem.W.Frag} {mg : Str → Option Value} {base : Heap}
def spSeq (K : PySem.W.Frag) : Sp := fun vs H Q _ => ∃ (st l a : Addr) (p : List Int) (n : Nat), vs = [.ref st, .ref a, .int (n : Int)] ∧ Sx H st l ∧ SqT K H a (vI p) ∧ Pap p ∧ n ≤ 10 ∧
  ∀ (r : Addr) (t : List Int) H', Sb st H H' → Sx H' st l → SqT K H' r (vI t) → Sq p t → t.length ≤ 10 → Q (.ref r) H'
theorem cal_lseq (B : Bls mg) (D : Dn K mg "_law_sequence" (topS 35) ["_law_stream_here", "_law_paper_here", "_law_leaves"]) (cN : C8.Cal P w K mg base 1 "_law_next" spNext []) (cG : C8.Cal P w K mg base 2 "_law_gathering" (spGa K) []) : C8.Cal P w K mg base 3 "_law_sequence" (spSeq K) [] := by
  refine D.cal (N := ["_law_stream_here", "_law_paper_here", "_law_leaves", "_law_row", "_law_k", "_law_left", "_law_mark"]) (by decide +kernel) (fun vs H Q E h => ?_) (fun f cdv A outer s H vs Q E nd hr h => ?_)
  · obtain ⟨st, l, a, p, n, rfl, _⟩ := h
    rfl
  · obtain ⟨st, l, a, p, n, rfl, hS, hp, hP, hn, q⟩ := h
    have l1 := hP.l1
    have l6 := hP.l6
    refine ⟨_, pss_cons (ps_set (i := 3) nd rfl (.inl rfl) (pe_tup pa_nil))
      (pss_cons (ps_for PassesOwn.never rfl (pi_range1 (by rfl) B.range (pa_cons pe_int pa_nil)) (pg_name (i := 4) nd rfl (.inl rfl))
        (pss_cons (ps_set (i := 5) nd rfl (.inl rfl) (pe_op op_fdiv (pe_op op_sub (pv 2) (pe_callB (len_K (K := K) rfl) (by rfl) B.len PySem.boot_len (pa_cons (pv 3) pa_nil))) pe_int))
        (pss_one (ps_if (pt_cmpR op_gt (pv 5) pe_int (nomark _))
          (pss_one (ps_if (PW.pt (pw_and (pt_truth (pv 3) (by intro _; rfl)) (pw_and (pt_cmpR op_eq (C8.pe_c cN hr (by decide) (by rfl) (pa_cons (pv 0) (pa_cons pe_int pa_nil))) pe_int (nomark _))
              (pw_and1 (pt_cmpR op_le (pe_callB (len_K (K := K) rfl) (by rfl) B.len PySem.boot_len (pa_cons (pv 3) pa_nil)) (pe_op op_sub (pv 2) (pe_callB (len_K (K := K) rfl) (by rfl) B.len PySem.boot_len (pa_cons (pv 3) pa_nil))) (nomark _))))))
            (pss_one (ps_set (i := 3) nd rfl (.inl rfl) (pe_op (catT_K (K := K) rfl) (pv 3) (pe_callTy call_tuple_of (by rfl) B.tuple boot_tuple (pa_cons
              (pe_lc (own := [("_law_mark", 6)]) (g := gName 6) (tt := tYes) rfl nd (pi_tup (Qr.pe_revT (pv 3))) (blkOk_by (N := ["_law_stream_here", "_law_paper_here", "_law_leaves", "_law_row", "_law_k", "_law_left", "_law_mark"]) (sc := C8.fnScope (topS 35)) (by decide +kernel)) (fun _ _ _ _ _ => pg_name (i := 6) nd rfl (Or.inl rfl)) (fun _ _ _ _ _ => pts_nil)
                (fun _ _ _ _ _ => pe_ix (ixT_K (K := K) rfl) (pv 1) (pv 6) (fun _ _ => rfl))) pa_nil)))))
            (pss_one (ps_set (i := 3) nd rfl (.inl rfl) (pe_op (catT_K (K := K) rfl) (pv 3) (C8.pe_c cG hr (by decide) (by rfl) (pa_cons (pv 0) (pa_cons (pv 1) (pa_cons (pe_op op_add pe_int
              (C8.pe_c cN hr (by decide) (by rfl) (pa_cons (pv 0) (pa_cons (pe_callB (call_min2 rfl) (by rfl) B.min boot_min (pa_cons (pv 5) (pa_cons pe_int pa_nil))) pa_nil)))) pa_nil)))))))))
          pss_nil))))
      (pss_one (ps_ret (pe_slice (slT_K (K := K) rfl) (pv 3) po_none (po_some (pv 2)))))), ?_⟩
    refine ⟨Nat.zero_le _, fun r0 nr0 => ?_⟩
    have s0 : Same H (upd H r0 (.tup [])) := same_new nr0
    have hr0 : SqT K (upd H r0 (.tup [])) r0 (vI []) := .inl (.inl upd_same)
    generalize upd H r0 (.tup []) = H0 at s0 hr0 ⊢
    refine ⟨_, rfl, by decide, by decide, ?_⟩
    refine for_it walk_range (G := fun _ => True) (fun k σ H1 => ∃ (r : Addr) (y4 y5 : Option V) (t : List Int), σ = [some (.ref st), some (.ref a), some (.int (n : Int)), some (.ref r), y4, y5, none] ∧ Sb st H H1 ∧ Sx H1 st l ∧ SqT K H1 r (vI t) ∧ (∀ x ∈ t, 0 ≤ x ∧ x < (p.length : Int)) ∧ t.length ≤ n)
      ⟨r0, _, _, [], rfl, Same.sb s0, Same.sx s0 hS, hr0, fun x hx => absurd hx (by simp), Nat.zero_le _⟩ (fun _ _ _ _ _ => trivial) (fun k x σ H1 H1' hk hw y => ?_) (fun σ H1 hw => ?_)
    · obtain ⟨e1, e2⟩ := y
      subst e1
      subst e2
      obtain ⟨r, y4, y5, t, rfl, sb, sx, hrr, hrng, hlen⟩ := hw
      have tm := sb.tm hS
      have sk : ∀ (v : V), ∃ (r' : Addr) (y4 y5 : Option V) (t' : List Int), ([some (.ref st), some (.ref a), some (.int (n : Int)), some (.ref r), some (.int (0 + (k : Int))), some v, none] : L2.St) = [some (.ref st), some (.ref a), some (.int (n : Int)), some (.ref r'), y4, y5, none] ∧ Sb st H H1' ∧ Sx H1' st l ∧ SqT K H1' r' (vI t') ∧ (∀ x ∈ t', 0 ≤ x ∧ x < (p.length : Int)) ∧ t'.length ≤ n := fun v => ⟨r, _, _, t, rfl, sb, sx, hrr, hrng, hlen⟩
      refine ⟨_, rfl, .ref r, rfl, r, _, rfl, .inr hrr, _, _, rfl, rfl, _, _, rfl, rfl, ⟨by decide, by decide⟩, ?_⟩
      refine ⟨_, rfl, _, _, rfl, rfl, _, rfl, ite2 (fun c => ?_) (fun c => sk _)⟩
      rw [vI_len] at c
      have c := of_decide_eq_true c
      have lt := vI_len t
      have els : ∀ (D : Ends) (H2 : Hp), Sb st H H2 → Sx H2 st l → SqT K H2 r (vI t) → (∀ σ' H3, (∃ (r : Addr) (y4 y5 : Option V) (t : List Int), σ' = [some (.ref st), some (.ref a), some (.int (n : Int)), some (.ref r), y4, y5, none] ∧ Sb st H H3 ∧ Sx H3 st l ∧ SqT K H3 r (vI t) ∧ (∀ x ∈ t, 0 ≤ x ∧ x < (p.length : Int)) ∧ t.length ≤ n) → D.nx σ' H3) →
          tAsg (tOp (rCatA K) (tVar 3) (tCall (spGa K) [] C8.E0 (tCons (tVar 0) (tCons (tVar 1) (tCons (tOp (rI0 fun i j => V.int (i + j)) (tC (V.int 1)) (tCall spNext [] C8.E0 (tCons (tVar 0) (tCons
            (tCB (fun xs H Q => ∃ i j, xs = [V.int i, V.int j] ∧ Q (V.int (if j < i then j else i)) H) (tCons (tVar 5) (tCons (tC (V.int 2)) tNil))) tNil)))) tNil))))) (gName 3) D
            [some (.ref st), some (.ref a), some (.int (n : Int)), some (.ref r), some (.int (0 + (k : Int))), some (.int (((n : Int) - ((vI t).length : Int)) / 2)), none] H2 := by
        intro D H2 sb2 sx2 hrr2 hD
        have tm2 := sb2.tm hS
        refine ⟨_, rfl, _, rfl, _, rfl, _, rfl, _, rfl, _, _, rfl, ?_⟩
        rw [lt]
        refine ⟨st, l, _, rfl, sx2, ?_, ?_, fun d H3 sb3 sx3 d0 d1 => ?_⟩
        · split <;> omega
        · split <;> omega
        · have hd : 2 * (1 + d) ≤ (n : Int) - (t.length : Int) := by
            split at d1 <;> omega
          obtain ⟨e, he⟩ : ∃ e : Nat, 1 + d = (e : Int) := ⟨(1 + d).toNat, by omega⟩
          refine ⟨_, _, rfl, rfl, st, l, a, p, e, (by show [V.ref st, V.ref a, V.int (1 + d)] = _; rw [he]), sx3, (sb3.tm sx2).t (tm2.t hp), hP, by omega, fun r2 u H4 sb4 sx4 hr4 ul urng => ?_⟩
          refine catA_ans (xs := vI t) (ys := vI u) ((sb4.tm sx3).t ((sb3.tm sx2).t hrr2)) hr4 (by rw [vI_len, vI_len]; omega) fun r3 H5 s5 h5 => ?_
          · rw [← List.map_append] at h5
            refine hD _ _ ⟨r3, _, _, t ++ u, rfl, sb2.trans (sb3.trans (sb4.trans (Same.sb s5))), Same.sx s5 sx4, h5, fun x hx => ?_, ?_⟩
            · rcases List.mem_append.mp hx with z | z
              · exact hrng x z
              · exact urng x z
            · rw [List.length_append]
              omega
      refine ⟨.ref r, rfl, _, .inr (.inl ⟨_, hrr, rfl⟩), ite2 (fun c1 => ?_) (fun c1 => iteF (els _ _ sb sx hrr fun σ' H3 h => h))⟩
      refine ⟨_, rfl, st, l, 3, rfl, sx, by decide, by decide, fun d H2 sb2 sx2 d0 d1 => ⟨rfl, _, rfl, ite2 (fun c2 => ?_) (fun c2 => iteF (els _ _ (sb.trans sb2) sx2 ((sb2.tm sx).t hrr) fun σ' H3 h => h))⟩⟩
      refine ⟨.ref r, rfl, r, _, rfl, .inr ((sb2.tm sx).t hrr), _, rfl, .ref r, rfl, r, _, rfl, .inr ((sb2.tm sx).t hrr), _, _, rfl, rfl, _, _, rfl, rfl, _, rfl, ite2 (fun c3 => ?_) (fun c3 => els _ _ (sb.trans sb2) sx2 ((sb2.tm sx).t hrr) fun σ' H3 h => h)⟩
      rw [vI_len] at c3
      have c3 := of_decide_eq_true c3
      have hr2 := (sb2.tm sx).t hrr
      have sb02 := sb.trans sb2
      refine ⟨.ref r, rfl, .ref r, rfl, r, _, rfl, hr2, fun rv nrv => ?_⟩
      have s3 : Same H2 (upd H2 rv (.tup (vI t).reverse)) := same_new nrv
      have hrv : SqT K (upd H2 rv (.tup (vI t).reverse)) rv (vI t).reverse := .inl (.inl upd_same)
      generalize upd H2 rv (.tup (vI t).reverse) = H3 at s3 hrv ⊢
      have erv : (vI t).reverse = vI t.reverse := List.map_reverse.symm
      rw [erv] at hrv
      have hp3 := Same.t s3 ((sb2.tm sx).t (tm.t hp))
      refine ⟨rv, rfl, ⟨_, hrv⟩, fun D2 nD2 => lc_vals walk_tup yat_same (fun H' s => Same.t s hrv) nD2 (by rw [vI_len, List.length_reverse]; omega) (fun i => .int (nth p (sat t.reverse i))) (fun i x H' H'' R hi s' y hR => ?_) (fun H' s' hD2 => ?_)⟩
      · obtain ⟨e, hx⟩ := y
        subst e
        rw [vI_len] at hi
        rw [vI_at hi] at hx
        have ex := (Option.some.inj hx).symm
        subst ex
        have m := hrng _ (List.mem_reverse.mp (Qm.sat_mem hi))
        exact ⟨rfl, .ref a, rfl, _, rfl, a, _, _, _, rfl, rfl, Same.t s' hp3, vI_nth m.1 m.2, hR _ (Same.refl _)⟩
      · refine ⟨D2, _, rfl, .inl ⟨.inl (.inl hD2), fun r2 nr2 => ?_⟩⟩
        have s4 := same_new (o := .tup ((List.range (vI t.reverse).length).map fun i => V.int (nth p (sat t.reverse i)))) nr2
        refine catA_ans (xs := vI t) (ys := vI (t.reverse.map (nth p))) (Same.t (s3.trans (s'.trans s4)) hr2) ?_ ?_ fun r3 H5 s5 h5 => ?_
        · refine .inl (.inl ?_)
          rw [upd_same, nth_list]
        · rw [vI_len, vI_len, List.length_map, List.length_reverse]
          omega
        · have sall := (s3.trans (s'.trans (s4.trans s5)))
          rw [← List.map_append] at h5
          refine ⟨r3, _, _, _, rfl, sb02.trans (Same.sb sall), Same.sx sall sx2, h5, fun x hx => ?_, ?_⟩
          · rcases List.mem_append.mp hx with z | z
            · exact hrng x z
            · obtain ⟨y, hy, e⟩ := List.mem_map.mp z
              have m := hrng y (List.mem_reverse.mp hy)
              rw [← e]
              exact hP.rng _ (Qm.nth_mem m.1 m.2)
          · rw [List.length_append, List.length_map, List.length_reverse]
            omega
    · obtain ⟨r, y4, y5, t, rfl, sb, sx, hrr, hrng, hlen⟩ := hw
      refine ⟨.ref r, rfl, .int n, rfl, n, rfl, slA_ans hrr fun r2 H2 s2 h2 => ?_⟩
      have e : cutV (vI t) none (some (n : Int)) = vI t := by
        unfold cutV
        rw [HT.sIx_nat, HT.sIx_none, vI_len, show min n t.length = t.length by omega, List.drop_zero, Nat.sub_zero]
        exact List.take_of_length_le (by rw [vI_len]; exact Nat.le_refl _)
      rw [e] at h2
      exact q r2 t H2 (sb.trans (Same.sb s2)) (Same.sx s2 sx) h2 ⟨hrng, by omega⟩ (by omega)
end
end Qa
end

section
set_option Elab.async false
set_option linter.all false
set_option maxRecDepth 100000
set_option maxHeartbeats 2000000
namespace Qa
open PySem PySem.Spec PyProof.Rows L2 Qb
open Qm (Pap Sq nth sat sl Tl Colls Dec looks cen bad rows imp impk)
theorem rep_vI (k : Nat) (t : List Int) : (List.replicate k (vI t)).flatten = vI (List.replicate k t).flatten := by
  unfold vI
  rw [List.map_flatten, List.map_replicate]
theorem rep_mem {k : Nat} {t : List Int} {x : Int} (h : x ∈ (List.replicate k t).flatten) : x ∈ t := by
  obtain ⟨u, hu, hx⟩ := List.mem_flatten.mp h
  rw [List.eq_of_mem_replicate hu] at hx
  exact hx
theorem rep_len (k : Nat) (t : List Int) : (List.replicate k t).flatten.length = k * t.length := by
  induction k with
  | zero => simp
  | succ k ih =>
    rw [List.replicate_succ, List.flatten_cons, List.length_append, ih, Nat.succ_mul, Nat.add_comm]
theorem seven {d : Int} (h0 : 0 ≤ d) (h1 : d < 7) : d = 0 ∨ d = 1 ∨ d = 2 ∨ d = 3 ∨ d = 4 ∨ d = 5 ∨ d = 6 := by omega
section
variable {P : Program} {w : World} {K : PySem.W.Frag} {mg : Str → Option Value} {base : Heap}
def spBook (K : PySem.W.Frag) : Sp := fun vs H Q _ => ∃ (st l a : Addr) (p : List Int), vs = [.ref st, .ref a] ∧ Sx H st l ∧ SqT K H a (vI p) ∧ Pap p ∧
  ∀ (r : Addr) (t : List Int) H', Sb st H H' → Sx H' st l → SqT K H' r (vI t) → Sq p t → t.length ≤ 10 → Q (.ref r) H'
theorem cal_book (B : Bls mg) (D : Dn K mg "_law_book" (topS 40) ["_law_stream_here", "_law_paper_here"]) (cN : C8.Cal P w K mg base 1 "_law_next" spNext []) (cG : C8.Cal P w K mg base 2 "_law_gathering" (spGa K) []) (cS : C8.Cal P w K mg base 3 "_law_sequence" (spSeq K) []) : C8.Cal P w K mg base 4 "_law_book" (spBook K) [] := by
  refine D.cal (N := ["_law_stream_here", "_law_paper_here", "_law_k", "_law_part"]) (by decide +kernel) (fun vs H Q E h => ?_) (fun f cdv A outer s H vs Q E nd hr h => ?_)
  · obtain ⟨st, l, a, p, rfl, _⟩ := h
    rfl
  · obtain ⟨st, l, a, p, rfl, hS, hp, hP, q⟩ := h
    have l1 := hP.l1
    have l6 := hP.l6
    refine ⟨_, pss_cons (ps_if (pt_cmpR op_eq (C8.pe_c cN hr (by decide) (by rfl) (pa_cons (pv 0) (pa_cons pe_int pa_nil))) pe_int (nomark _))
        (pss_one (ps_ret (pe_callTy call_tuple_of (by rfl) B.tuple boot_tuple (pa_cons
          (pe_lc (own := [("_law_k", 2)]) (g := gName 2) (tt := tYes) rfl nd (pi_range1 (by rfl) B.range (pa_cons (C8.pe_c cN hr (by decide) (by rfl) (pa_cons (pv 0) (pa_cons pe_int pa_nil))) pa_nil)) (blkOk_by (N := ["_law_stream_here", "_law_paper_here", "_law_k", "_law_part"]) (sc := C8.fnScope (topS 40)) (by decide +kernel)) (fun _ _ _ _ _ => pg_name (i := 2) nd rfl (Or.inl rfl)) (fun _ _ _ _ _ => pts_nil)
            (fun _ _ _ _ _ => C8.pe_c cN hr (by decide) (by rfl) (pa_cons (pv 0) (pa_cons (pe_callB (len_K (K := K) rfl) (by rfl) B.len PySem.boot_len (pa_cons (pv 1) pa_nil)) pa_nil)))) pa_nil)))) pss_nil)
      (pss_cons (ps_if (pt_cmpR op_eq (C8.pe_c cN hr (by decide) (by rfl) (pa_cons (pv 0) (pa_cons pe_int pa_nil))) pe_int (nomark _))
        (pss_cons (ps_set (i := 3) nd rfl (.inl rfl) (C8.pe_c cG hr (by decide) (by rfl) (pa_cons (pv 0) (pa_cons (pv 1) (pa_cons pe_int pa_nil)))))
        (pss_one (ps_ret (pe_op (Qu.op_repA (K := K) rfl) (pv 3) (pe_op op_add pe_int (C8.pe_c cN hr (by decide) (by rfl) (pa_cons (pv 0) (pa_cons pe_int pa_nil)))))))) pss_nil)
      (pss_one (ps_ret (C8.pe_c cS hr (by decide) (by rfl) (pa_cons (pv 0) (pa_cons (pv 1) (pa_cons (pe_ix (ixL_K (K := K) rfl)
        (pe_lst (pa_cons pe_int (pa_cons pe_int (pa_cons pe_int (pa_cons pe_int (pa_cons pe_int (pa_cons pe_int (pa_cons pe_int pa_nil))))))))
        (C8.pe_c cN hr (by decide) (by rfl) (pa_cons (pv 0) (pa_cons pe_int pa_nil))) (fun _ _ => rfl)) pa_nil))))))), ?_⟩
    refine ⟨_, rfl, st, l, 8, rfl, hS, by decide, by decide, fun d0 H1 sb1 sx1 _ _ => ⟨rfl, _, rfl, ite2 (fun _ => ?_) (fun _ => ?_)⟩⟩
    · -- any marks
      refine ⟨_, rfl, st, l, 6, rfl, sx1, by decide, by decide, fun d H2 sb2 sx2 d0 d1 => ?_⟩
      have hp2 := (sb2.tm sx1).t ((sb1.tm hS).t hp)
      refine ⟨_, rfl, by omega, by omega, fun D1 nD1 => lc_st walk_range yfn_same (G := fun _ => True) (fun _ _ _ => trivial) nD1 sx2 (by omega) (fun y => ∃ d : Int, y = .int d ∧ 0 ≤ d ∧ d < (p.length : Int)) (fun i x H' H'' R hi sb sx tm y hR => ?_) (fun H3 ys sb sx hD hlen hpr => ?_)⟩
      · obtain ⟨e1, e2⟩ := y
        subst e1
        refine ⟨rfl, _, rfl, .ref a, rfl, a, _, rfl, .inr (tm.t hp2), st, l, _, rfl, sx, ?_, ?_, fun d H4 s4 sx4 d0 d1 => hR _ H4 s4 sx4 ⟨d, rfl, d0, ?_⟩⟩
        · rw [vI_len]
          omega
        · rw [vI_len]
          omega
        · rw [vI_len] at d1
          exact d1
      · obtain ⟨ns, e, hns⟩ := ints_of hpr
        subst e
        rw [vI_len] at hlen
        refine ⟨D1, _, rfl, .inl ⟨.inl (.inl hD), fun r nr => ?_⟩⟩
        exact q r ns _ (sb1.trans (sb2.trans (sb.trans (Same.sb (same_new nr))))) (Same.sx (same_new nr) sx) (.inl (.inl upd_same)) ⟨hns, by omega⟩ (by omega)
    · have hp1 := (sb1.tm hS).t hp
      refine ⟨_, rfl, st, l, 3, rfl, sx1, by decide, by decide, fun d0 H2 sb2 sx2 _ _ => ⟨rfl, _, rfl, ite2 (fun _ => ?_) (fun _ => ?_)⟩⟩
      · have hp2 := (sb2.tm sx1).t hp1
        refine ⟨_, rfl, _, rfl, st, l, a, p, 1, rfl, sx2, hp2, hP, by decide, fun r t H3 sb3 sx3 hr3 lt rng => ?_⟩
        refine ⟨.ref r, rfl, _, rfl, st, l, 4, rfl, sx3, by decide, by decide, fun d H4 sb4 sx4 d0 d1 => ?_⟩
        have hr4 := (sb4.tm sx3).t hr3
        have sball := sb1.trans (sb2.trans (sb3.trans sb4))
        obtain ⟨e, he⟩ : ∃ e : Nat, 1 + d = (e : Int) := ⟨(1 + d).toNat, by omega⟩
        refine ⟨_, _, rfl, rfl, r, (e : Int), vI t, rfl, (by show V.int (1 + d) = _; rw [he]), hr4, ?_, by omega, by omega, ?_, fun ke => ?_, fun ke r2 nr2 => ?_⟩
        · intro z
          rw [List.map_eq_nil_iff] at z
          rw [z] at lt
          simp at lt
        · rw [vI_len]
          omega
        · exact q r t H4 sball sx4 hr4 ⟨rng, by omega⟩ (by omega)
        · rw [Int.toNat_natCast, rep_vI]
          have lr := rep_len e t
          have : e * t.length ≤ 8 := by
            rw [lt]
            omega
          exact q r2 _ _ (sball.trans (Same.sb (same_new nr2))) (Same.sx (same_new nr2) sx4) (.inl (.inl upd_same)) ⟨fun x hx => rng x (rep_mem hx), by omega⟩ (by omega)
      · have hp2 := (sb2.tm sx1).t hp1
        refine ⟨_, rfl, _, rfl, (by show 7 ≤ sizeLine; decide), fun o no => ?_⟩
        have s3 := same_new (o := .lst [.int 0, .int 2, .int 4, .int 6, .int 8, .int 8, .int 10]) no
        have h3 : (upd H2 o (.lst [.int 0, .int 2, .int 4, .int 6, .int 8, .int 8, .int 10])) o = some (.lst [.int 0, .int 2, .int 4, .int 6, .int 8, .int 8, .int 10]) := upd_same
        generalize upd H2 o (.lst [.int 0, .int 2, .int 4, .int 6, .int 8, .int 8, .int 10]) = H3 at s3 h3 ⊢
        have ost : o ≠ st := fun z => by
          obtain ⟨_, _, _, _, g, _⟩ := sx2
          rw [← z, no] at g
          cases g
        refine ⟨_, rfl, st, l, 7, rfl, Same.sx s3 sx2, by decide, by decide, fun d H4 sb4 sx4 d0 d1 => ?_⟩
        have h4 := sb4 _ _ ost h3
        have hp4 := (sb4.tm (Same.sx s3 sx2)).t (Same.t s3 hp2)
        have sball := sb1.trans (sb2.trans ((Same.sb s3).trans sb4))
        have go : ∀ n : Nat, n ≤ 10 → spSeq K [.ref st, .ref a, .int (n : Int)] H4 Q C8.E0 := fun n hn => ⟨st, l, a, p, n, rfl, sx4, hp4, hP, hn, fun r t H5 sb5 sx5 hr5 hS5 l5 => q r t H5 (sball.trans sb5) sx5 hr5 hS5 l5⟩
        rcases seven d0 d1 with e | e | e | e | e | e | e
        · subst e
          exact ⟨o, _, _, _, rfl, rfl, .inl (.inl h4), atI_nat (j := 0) rfl, go 0 (by decide)⟩
        · subst e
          exact ⟨o, _, _, _, rfl, rfl, .inl (.inl h4), atI_nat (j := 1) rfl, go 2 (by decide)⟩
        · subst e
          exact ⟨o, _, _, _, rfl, rfl, .inl (.inl h4), atI_nat (j := 2) rfl, go 4 (by decide)⟩
        · subst e
          exact ⟨o, _, _, _, rfl, rfl, .inl (.inl h4), atI_nat (j := 3) rfl, go 6 (by decide)⟩
        · subst e
          exact ⟨o, _, _, _, rfl, rfl, .inl (.inl h4), atI_nat (j := 4) rfl, go 8 (by decide)⟩
        · subst e
          exact ⟨o, _, _, _, rfl, rfl, .inl (.inl h4), atI_nat (j := 5) rfl, go 8 (by decide)⟩
        · subst e
          exact ⟨o, _, _, _, rfl, rfl, .inl (.inl h4), atI_nat (j := 6) rfl, go 10 (by decide)⟩
end
end Qa
end

section
set_option Elab.async false
set_option linter.all false
set_option maxRecDepth 100000
set_option maxHeartbeats 2000000
namespace Qa
open PySem PySem.Spec PyProof.Rows L2 Qb
open Qm (Pap Sq nth sat sl Tl Colls Dec looks cen bad rows imp impk Pre Pd)
/-- the test of the law, all([..]) -/
theorem all_G {p t : List Int} {i e : Nat} (h1 : i < e) (h2 : e ≤ t.length) (h3 : (e - i) % 2 = 0) :
    (((List.range ((e - i) / 2)).map fun k => decide (nth p (sat t (i + k)) = sat t (e - 1 - k))).all id = true) ↔ Qm.G p t i e := by
  rw [List.all_eq_true]
  constructor
  · intro h
    refine ⟨h1, h2, h3, fun k hk => ?_⟩
    exact of_decide_eq_true (h _ (List.mem_map.mpr ⟨k, List.mem_range.mpr hk, rfl⟩))
  · intro g b hb
    obtain ⟨k, hk, e⟩ := List.mem_map.mp hb
    rw [← e]
    exact decide_eq_true (g.2.2.2 k (List.mem_range.mp hk))
theorem dInt (u v : Int) : V.bl (decide (V.int u = V.int v)) = V.bl (decide (u = v)) := by
  congr 1
  exact decide_eq_decide.mpr ⟨fun h => V.int.inj h, fun h => by rw [h]⟩
theorem pre_ne {p t : List Int} {e : Nat} {css : List (List Nat)} (h : Pre p t e css) : css.length ≤ 1 ∨ ∀ c ∈ css, c ≠ [] := by
  by_cases e0 : e = 0
  · left
    have hall : ∀ c ∈ css, c = [] := fun c hc => by
      have d := ((h.2 c).mp hc).len
      cases c with
      | nil => rfl
      | cons x y =>
        simp only [List.length_cons] at d
        omega
    match css, h.1, hall with
    | [], _, _ => exact Nat.zero_le _
    | [_], _, _ => exact Nat.le_refl _
    | a :: b :: _, nd, ha =>
      exfalso
      have h1 := ha a (by simp)
      have h2 := ha b (by simp)
      have h3 := (List.nodup_cons.mp nd).1
      exact h3 (by rw [h1, h2]; simp)
  · right
    intro c hc z
    have d := (h.2 c).mp hc
    rw [z] at d
    exact e0 (show 0 = e from d).symm
/-- naturals as ints, and back -/
abbrev toI (q : Addr × List Nat) : Addr × List Int := (q.1, q.2.map fun (n : Nat) => (n : Int))
abbrev toN (q : Addr × List Int) : Addr × List Nat := (q.1, q.2.map Int.toNat)
theorem toN_toI (q : Addr × List Nat) : toN (toI q) = q := by
  obtain ⟨a, c⟩ := q
  show (a, (c.map _).map _) = (a, c)
  rw [List.map_map]
  congr 1
  conv => rhs; rw [← List.map_id c]
  apply List.map_congr_left
  intro x _
  exact Int.toNat_natCast x
theorem toI_map (q : Addr × List Nat) : (toI q).2.map V.int = vN q.2 := by
  show (q.2.map _).map _ = _
  rw [List.map_map]
  rfl
theorem perm_back {L : List (Addr × List Nat)} {L' : List (Addr × List Int)} (h : L'.Perm (L.map toI)) : ∃ M : List (Addr × List Nat), M.Perm L ∧ L' = M.map toI := by
  have h2 := h.map toN
  have e : (L.map toI).map toN = L := by
    rw [List.map_map]
    conv => rhs; rw [← List.map_id L]
    exact List.map_congr_left fun q _ => toN_toI q
  rw [e] at h2
  refine ⟨L'.map toN, h2, ?_⟩
  rw [List.map_map]
  conv => lhs; rw [← List.map_id L']
  refine List.map_congr_left fun q hq => ?_
  obtain ⟨z, _, ez⟩ := List.mem_map.mp (h.mem_iff.mp hq)
  show q = toI (toN q)
  rw [← ez, toN_toI]
section
variable {P : Program} {w : World} {K : PySem.W.Frag} {mg : Str → Option Value} {base : Heap}
structure LS (K : PySem.W.Frag) (p t : List Int) (H H' : Hp) (d : Addr) (k : Nat) : Prop where
  same : Same H H'
  ex : ∃ kvs : List (Key × V), H' d = some (.dK kvs) ∧ kvs.length ≤ k + 1 ∧ ∀ e, e ≤ k → ∃ (l : Addr) (L : List (Addr × List Nat)), valV kvs (.inl (e : Int)) = some (.ref l) ∧ H' l = some (.lst (refs L)) ∧ Lp K vN H' L ∧ Pre p t e (L.map (·.2))
theorem LS.mono {p t : List Int} {H H1 H2 : Hp} {d : Addr} {k : Nat} (h : LS K p t H H1 d k) (s : Same H1 H2) : LS K p t H H2 d k := by
  obtain ⟨kvs, h1, h2, h3⟩ := h.ex
  refine ⟨h.same.trans s, kvs, s _ _ h1, h2, fun e he => ?_⟩
  obtain ⟨l, L, a1, a3, a4, a5⟩ := h3 e he
  exact ⟨l, L, a1, s _ _ a3, Same.lp s a4, a5⟩
def spLC (K : PySem.W.Frag) : Sp := fun vs H Q _ => ∃ (a b : Addr) (p t : List Int), vs = [.ref a, .ref b] ∧ SqT K H a (vI p) ∧ SqT K H b (vI t) ∧ Pap p ∧ Sq p t ∧
  ∀ (l : Addr) (L : List (Addr × List Nat)) H', Same H H' → H l = none → H' l = some (.lst (refs L)) → Lp K vN H' L → Colls p t (L.map (·.2)) → Q (.ref l) H'
theorem cal_lc (B : Bls mg) (D : Dn K mg "_law_collations" (topS 36) ["_law_paper_here", "_law_sequence_here"]) : C8.Cal P w K mg base 1 "_law_collations" (spLC K) [] := by
  refine D.cal (N := ["_law_paper_here", "_law_sequence_here", "_law_rows", "_law_end", "_law_found", "_law_start", "_law_half", "_law_k", "_law_row"]) (by decide +kernel) (fun vs H Q E h => ?_) (fun f cdv A outer s H vs Q E nd hr h => ?_)
  · obtain ⟨a, b, p, t, rfl, _⟩ := h
    rfl
  · obtain ⟨a, b, p, t, rfl, hp, ht, hP, hS, q⟩ := h
    have l16 := hS.l16
    have nlen : (vI t).length = t.length := vI_len t
    refine ⟨_, pss_cons (ps_set (i := 2) nd rfl (.inl rfl) (pe_disp (pps_cons pe_int (pe_lst (pa_cons (pe_tup pa_nil) pa_nil)) pps_nil) (by rfl) (by rfl) (fun z => by cases z) (by decide)))
      (pss_cons (ps_for PassesOwn.never rfl (pi_range2 (by rfl) B.range (pa_cons pe_int (pa_cons (pe_op op_add (pe_callB (len_K (K := K) rfl) (by rfl) B.len PySem.boot_len (pa_cons (pv 1) pa_nil)) pe_int) pa_nil))) (pg_name (i := 3) nd rfl (.inr rfl))
        (pss_cons (ps_set (i := 4) nd rfl (.inl rfl) (pe_lst pa_nil))
        (pss_cons (ps_for PassesOwn.never rfl (pi_range3 (by rfl) B.range (pa_cons (pe_op op_mod (pv 3) pe_int) (pa_cons (pv 3) (pa_cons pe_int pa_nil)))) (pg_name (i := 5) nd rfl (.inr rfl))
          (pss_cons (ps_set (i := 6) nd rfl (.inr rfl) (pe_op op_fdiv (pe_op op_sub (pv 3) (pv 5)) pe_int))
          (pss_one (ps_if (pt_val (pe_callB (all_K (K := K) rfl rfl) (by rfl) B.all boot_all (pa_cons
              (pe_lc (own := [("_law_k", 7)]) (g := gName 7) (tt := tYes) rfl nd (pi_range1 (by rfl) B.range (pa_cons (pv 6) pa_nil)) (blkOk_by (N := ["_law_paper_here", "_law_sequence_here", "_law_rows", "_law_end", "_law_found", "_law_start", "_law_half", "_law_k", "_law_row"]) (sc := C8.fnScope (topS 36)) (by decide +kernel)) (fun _ _ _ _ _ => pg_name (i := 7) nd rfl (Or.inl rfl)) (fun _ _ _ _ _ => pts_nil)
                (fun _ _ _ _ _ => pe_cmpR op_eq (pe_ix (ixT_K (K := K) rfl) (pv 0) (pe_ix (ixT_K (K := K) rfl) (pv 1) (pe_op op_add (pv 5) (pv 7)) (fun _ _ => rfl)) (fun _ _ => rfl)) (pe_ix (ixT_K (K := K) rfl) (pv 1) (pe_op op_sub (pe_op op_sub (pv 3) pe_int) (pv 7)) (fun _ _ => rfl)) (nomark _))) pa_nil)))
            (pss_one (ps_set (i := 4) nd rfl (.inl rfl) (pe_op op_cat (pv 4)
              (pe_lc (own := [("_law_row", 8)]) (g := gName 8) (tt := tYes) rfl nd (pi_list (pe_dget (hu_of hr) (pv 2) (pv 5) (fun _ _ => rfl))) (blkOk_by (N := ["_law_paper_here", "_law_sequence_here", "_law_rows", "_law_end", "_law_found", "_law_start", "_law_half", "_law_k", "_law_row"]) (sc := C8.fnScope (topS 36)) (by decide +kernel)) (fun _ _ _ _ _ => pg_name (i := 8) nd rfl (Or.inl rfl)) (fun _ _ _ _ _ => pts_nil)
                (fun _ _ _ _ _ => pe_op (catT_K (K := K) rfl) (pv 8) (pe_tup (pa_cons (pv 6) pa_nil))))))) pss_nil))))
        (pss_one (ps_dput (hu_of hr) (pv 2) (pv 3) (pv 4) rfl)))))
      (pss_one (ps_ret (pe_callB (Qt.cr_sortA hr.units) (by rfl) B.sorted boot_sorted (pa_cons (pe_dget (hu_of hr) (pv 2) (pe_callB (len_K (K := K) rfl) (by rfl) B.len PySem.boot_len (pa_cons (pv 1) pa_nil)) (fun _ _ => rfl)) pa_nil))))), ?_⟩
    -- {0: [()]}
    refine fun d ndd => ?_
    have t1 : Same H (upd H d (.dK [])) := same_new ndd
    refine ⟨Nat.zero_le _, fun o no => ⟨(by show 1 ≤ sizeLine; decide), fun l0 nl0 => ?_⟩⟩
    have od : o ≠ d := ne_upd no
    have lo : l0 ≠ o := ne_upd nl0
    have ld : l0 ≠ d := ne_upd (free_upd nl0)
    refine ⟨by rw [upd_ne ld.symm, upd_ne od.symm, upd_same], [(.inl (0 : Int), .ref l0)], rfl, by show 1 ≤ 15; decide, ?_⟩
    have sW : Same H (upd (upd (upd (upd H d (.dK [])) o (.tup [])) l0 (.lst [.ref o])) d (.dK (mergeK [] [(.inl (0 : Int), .ref l0)]))) :=
      same_mut (t1.trans ((same_new no).trans (same_new nl0))) ndd
    have w0 : LS K p t H (upd (upd (upd (upd H d (.dK [])) o (.tup [])) l0 (.lst [.ref o])) d (.dK (mergeK [] [(.inl (0 : Int), .ref l0)]))) d 0 := by
      refine ⟨sW, _, upd_same, Nat.le_refl _, fun e he => ⟨l0, [(o, [])], ?_, ?_, ?_, ?_⟩⟩
      · have ee : e = 0 := by omega
        rw [ee]
        show valV [(.inl (0 : Int), V.ref l0)] (Sum.inl ((0 : Nat) : Int) : Key) = _
        exact valV_pos rfl
      · rw [upd_ne ld, upd_same]
        rfl
      · intro q hq
        rw [List.mem_singleton.mp hq]
        refine .inl (.inl ?_)
        rw [upd_ne od, upd_ne lo.symm, upd_same]
        rfl
      · have ee : e = 0 := by omega
        rw [ee]
        exact Qm.pre_zero
    refine ⟨.ref b, rfl, b, _, rfl, .inr (Same.t w0.same ht), _, _, rfl, rfl, _, _, rfl, ⟨by omega, by omega, by omega, by omega⟩, ?_⟩
    have en : ((((vI t).length : Nat) : Int) + 1 - 1).toNat = t.length := by rw [vI_len]; omega
    rw [en]
    refine for_it walk_range (G := fun _ => True) (fun k σ H' => (∃ y3 y4 y5 y6, σ = [some (.ref a), some (.ref b), some (.ref d), y3, y4, y5, y6, none, none]) ∧ LS K p t H H' d k)
      ⟨⟨_, _, _, _, rfl⟩, w0⟩ (fun _ _ _ _ _ => trivial) (fun k x σ Hk Hk' hk hw y => ?_) (fun σ H' hw => ?_)
    · obtain ⟨⟨y3, y4, y5, y6, rfl⟩, W⟩ := hw
      obtain ⟨e1, e2⟩ := y
      subst e1
      have ek : 1 + (k : Int) = ((k + 1 : Nat) : Int) := by omega
      have e2 : x = V.int ((k + 1 : Nat) : Int) := by
        rw [e2]
        show V.int (1 + (k : Int)) = _
        rw [ek]
      subst e2
      refine ⟨Nat.zero_le _, fun fl nfl => ?_⟩
      have W1 := W.mono (same_new (o := .lst []) nfl)
      have hfl : (upd Hk' fl (.lst [])) fl = some (.lst []) := upd_same
      generalize upd Hk' fl (.lst []) = H1 at W1 hfl ⊢
      refine ⟨_, rfl, _, _, rfl, rfl, (by show (0 : Int) < 2; decide), _, rfl, _, _, _, (k + 1) / 2, rfl, rg_two ⟨by omega, by omega⟩ ⟨by omega, by omega⟩ ⟨fun _ => by omega, fun _ => by omega⟩, ?_⟩
      refine for_it walk_rangeC (G := fun _ => True) (fun j σ H' => ∃ (g : Addr) (y5 y6 : Option V) (F : List (Addr × List Nat)), σ = [some (.ref a), some (.ref b), some (.ref d), some (.int ((k + 1 : Nat) : Int)), some (.ref g), y5, y6, none, none] ∧ Same H1 H' ∧ H' g = some (.lst (refs F)) ∧ Lp K vN H' F ∧ Pd p t (k + 1) j (F.map (·.2)))
        ⟨fl, _, _, [], rfl, Same.refl _, hfl, fun q hq => absurd hq (by simp), Qm.pd_nil _⟩ (fun _ _ _ _ _ => trivial) (fun j x σ Hj Hj' hj hw y => ?_) (fun σ H' hw => ?_)
      · obtain ⟨g, y5, y6, F, rfl, sj, hg, hF, pd⟩ := hw
        obtain ⟨e1, e2⟩ := y
        subst e1
        have es : ((k + 1 : Nat) : Int) % 2 + (j : Int) * 2 = (((k + 1) % 2 + 2 * j : Nat) : Int) := by omega
        have e2 : x = V.int (((k + 1) % 2 + 2 * j : Nat) : Int) := by
          rw [e2]
          show V.int (((k + 1 : Nat) : Int) % 2 + (j : Int) * 2) = _
          rw [es]
        subst e2
        have hst : (k + 1) % 2 + 2 * j < k + 1 := by omega
        have hpar : (k + 1 - ((k + 1) % 2 + 2 * j)) % 2 = 0 := by omega
        have hk1 : k + 1 ≤ t.length := by omega
        have WJ := W1.mono sj
        have pdk := @Qm.pd_skip p t (k + 1) j (F.map (·.2)) pd
        have pdm := fun tss g => @Qm.pd_more p t (k + 1) j (F.map (·.2)) tss pd g
        generalize hse : (k + 1) % 2 + 2 * j = st at *
        have eh : (((k + 1 : Nat) : Int) - (st : Int)) / 2 = (((k + 1 - st) / 2 : Nat) : Int) := by omega
        refine ⟨_, rfl, _, rfl, _, _, rfl, rfl, _, _, rfl, rfl, ⟨by decide, by decide⟩, ?_⟩
        dsimp only
        rw [eh]
        refine ⟨_, rfl, _, rfl, by omega, by omega, fun D1 nD1 => lc_vals walk_range yfn_same (G := fun _ => True) (fun _ _ => trivial) nD1 (by omega) (fun i => .bl (decide (nth p (sat t (st + i)) = sat t (k + 1 - 1 - i)))) (fun i x H' H'' R hi s' y hR => ?_) (fun H' s' hD => ?_)⟩
        · obtain ⟨e1, e2⟩ := y
          subst e1
          subst e2
          rw [Int.toNat_natCast] at hi
          have hp' := Same.t (WJ.same.trans s') hp
          have ht' := Same.t (WJ.same.trans s') ht
          have i1 : (st : Int) + (0 + (i : Int)) = ((st + i : Nat) : Int) := by omega
          have i2 : ((k + 1 : Nat) : Int) - 1 - (0 + (i : Int)) = ((k + 1 - 1 - i : Nat) : Int) := by omega
          have m := hS.rng _ (Qm.sat_mem (s := t) (i := st + i) (by omega))
          refine ⟨rfl, .ref a, rfl, .ref b, rfl, _, rfl, _, rfl, _, _, rfl, rfl, b, _, _, .int (sat t (st + i)), rfl, rfl, ht', ?_, a, _, _, _, rfl, rfl, hp', vI_nth m.1 m.2, .ref b, rfl, _, rfl, _, _, rfl, rfl, _, rfl, _, _, rfl, rfl, b, _, _, .int (sat t (k + 1 - 1 - i)), rfl, rfl, ht', ?_, rfl, ?_⟩
          · rw [i1]
            exact atI_nat (vI_at (by omega))
          · rw [i2]
            exact atI_nat (vI_at (by omega))
          · rw [dInt]
            exact hR _ (Same.refl _)
        · rw [Int.toNat_natCast] at hD
          have hD2 : H' D1 = some (.lst (((List.range ((k + 1 - st) / 2)).map fun i => decide (nth p (sat t (st + i)) = sat t (k + 1 - 1 - i))).map V.bl)) := by
            rw [List.map_map]
            exact hD
          refine ⟨D1, _, rfl, .inl (.inl hD2), _, rfl, ite2 (fun c => ?_) (fun c => ?_)⟩
          · have G1 := (all_G hst hk1 hpar).mp c
            have W2 := WJ.mono s'
            obtain ⟨kvs, hd, hkl, htl⟩ := W2.ex
            obtain ⟨l, L, hv, hl, hL, tl⟩ := htl st (by omega)
            have dg : DGet H' d (.int (st : Int)) (some (.ref l)) := by
              rw [← hv]
              exact DGet.k (k := .inl (st : Int)) hd
            have few := Qm.pre_few tl (by omega)
            have few2 := Qm.pd_few pd (by omega)
            rw [List.length_map] at few few2
            refine ⟨.ref g, rfl, .ref d, rfl, _, rfl, d, .ref l, rfl, dg, l, rfl, ⟨_, .inl (.inl hl)⟩, fun D nD => ?_⟩
            refine lc_new walk_list yat_same (fun H' s' => .inl (.inl (s' _ _ hl))) nD (by rw [refs_len]; omega) (fun i y H' => ∃ c, (L.map (·.2))[i]? = some c ∧ Tu K H' y (vN (c ++ [(k + 1 - st) / 2]))) (fun i y H' H'' tm h => by
              obtain ⟨c, h1, h2⟩ := h
              exact ⟨c, h1, tm.tu h2⟩) (fun i x H3 H4 R hi s3 y hR => ?_) (fun H5 ys s5 hD hlen hpr => ?_)
            · obtain ⟨e5, e6⟩ := y
              subst e5
              rw [refs_len] at hi
              rw [refs_at hi] at e6
              have e6 := (Option.some.inj e6).symm
              subst e6
              have hq := Same.t s3 (hL.get hi)
              refine ⟨rfl, _, rfl, _, rfl, (by show 1 ≤ sizeLine; decide), fun o2 no2 => catA_ans (xs := vN L[i].2) (ys := [V.int (((k + 1 - st) / 2 : Nat) : Int)]) (Same.t (same_new no2) hq) (.inl (.inl upd_same)) ?_ fun c6 H6 s6 h6 => hR _ _ ((same_new no2).trans s6) ⟨L[i].2, ?_, c6, rfl, ?_⟩⟩
              · have hd2 := (tl.2 L[i].2).mp (List.mem_map.mpr ⟨L[i], List.getElem_mem hi, rfl⟩)
                have := hd2.len
                show (vN L[i].2).length + 1 ≤ 100000
                rw [List.length_map]
                omega
              · rw [List.getElem?_map, List.getElem?_eq_getElem hi]
                rfl
              · show SqT K H6 c6 (vN (L[i].2 ++ [(k + 1 - st) / 2]))
                unfold vN
                rw [List.map_append]
                exact h6
            · rw [refs_len] at hlen
              obtain ⟨M, m1, m2, m3⟩ := to_pairs (K := K) (f := vN) (H := H5) (ys := ys) (css := (L.map (·.2)).map (· ++ [(k + 1 - st) / 2])) (by rw [List.length_map, List.length_map, hlen]) (fun i y hy => by
                obtain ⟨c, h1, h2⟩ := hpr i y hy
                exact ⟨_, by rw [List.getElem?_map, h1]; rfl, h2⟩)
              subst m1
              rw [refs_len] at hlen
              have s05 := s'.trans s5
              refine ⟨g, D, refs F, refs M, rfl, rfl, s05 _ _ hg, hD, small (by rw [refs_len, refs_len]; omega), fun g2 ng2 => ?_⟩
              have s6 := same_new (o := .lst (refs F ++ refs M)) ng2
              refine ⟨g2, _, _, F ++ M, rfl, sj.trans (s05.trans s6), ?_, ?_, ?_⟩
              · rw [upd_same]
                exact congrArg (fun z => some (HO.lst z)) List.map_append.symm
              · exact Same.lp s6 ((Same.lp s05 hF).app m3)
              · rw [List.map_append, m2]
                exact pdm _ G1 tl
          · exact ⟨g, _, _, F, rfl, sj.trans s', s' _ _ hg, Same.lp s' hF, pdk (fun G1 => c ((all_G hst hk1 hpar).mpr G1))⟩
      · -- rows[end] = found
        obtain ⟨g, y5, y6, F, rfl, sj, hg, hF, pd⟩ := hw
        have pre := Qm.pd_all (by omega) (by omega) pd
        have WJ := W1.mono sj
        obtain ⟨kvs, hd, hkl, htl⟩ := WJ.ex
        have gd : g ≠ d := fun z => by
          rw [z, hd] at hg
          cases hg
        refine ⟨.ref g, rfl, .ref d, rfl, _, rfl, d, _, rfl, DPut.k (k := .inl ((k + 1 : Nat) : Int)) hd (smallL (by omega)), ⟨_, _, _, _, rfl⟩, ?_⟩
        refine ⟨same_mut WJ.same ndd, putK kvs (.inl ((k + 1 : Nat) : Int)) (.ref g), upd_same, ?_, fun e he => ?_⟩
        · have := length_putK kvs (.inl ((k + 1 : Nat) : Int)) (.ref g)
          omega
        · rw [valV_put]
          by_cases ee : e = k + 1
          · rw [if_pos (by rw [ee])]
            refine ⟨g, F, rfl, ?_, (tm_dK hd).lp hF, by rw [ee]; exact pre⟩
            rw [upd_ne gd]
            exact hg
          · rw [if_neg (fun z => ee (by have := Sum.inl.inj z; omega))]
            obtain ⟨l, L, a1, a3, a4, a5⟩ := htl e (by omega)
            refine ⟨l, L, a1, ?_, (tm_dK hd).lp a4, a5⟩
            have l_d : l ≠ d := fun z => by
              rw [z, hd] at a3
              cases a3
            rw [upd_ne l_d]
            exact a3
    · obtain ⟨⟨y3, y4, y5, y6, rfl⟩, W⟩ := hw
      obtain ⟨kvs, hd, hkl, htl⟩ := W.ex
      obtain ⟨l, L, hv, hl, hL, tl⟩ := htl t.length (Nat.le_refl _)
      have dg : DGet H' d (.int ((vI t).length : Int)) (some (.ref l)) := by
        rw [vI_len, ← hv]
        exact DGet.k (k := .inl (t.length : Int)) hd
      have few := Qm.pre_few tl l16
      rw [List.length_map] at few
      refine ⟨.ref d, rfl, .ref b, rfl, b, _, rfl, .inr (Same.t W.same ht), d, .ref l, rfl, dg, l, L.map toI, rfl, ?_, fun z hz => ?_, by rw [List.length_map]; omega, ?_, fun L' r hperm nr => ?_⟩
      · have e : ((L.map toI).map fun p => V.ref p.1) = refs L := by
          rw [List.map_map]
          rfl
        rw [e]
        exact .inl (.inl hl)
      · obtain ⟨z0, h0, e⟩ := List.mem_map.mp hz
        rw [← e, toI_map]
        exact hL _ h0
      · rcases pre_ne tl with h | h
        · left
          rw [List.length_map] at h ⊢
          exact h
        · right
          intro z hz e0
          obtain ⟨z0, h0, e⟩ := List.mem_map.mp hz
          rw [← e] at e0
          exact h z0.2 (List.mem_map.mpr ⟨z0, h0, rfl⟩) (List.map_eq_nil_iff.mp e0)
      · obtain ⟨M, hM, e⟩ := perm_back hperm
        have e2 : (L'.map fun q => V.ref q.1) = refs M := by
          rw [e, List.map_map]
          rfl
        rw [e2]
        have sn := same_new (o := .lst (refs M)) nr
        refine q r M _ (W.same.trans sn) (Same.free W.same nr) upd_same (fun z hz => Same.t sn (hL z (hM.mem_iff.mp hz))) ?_
        have pm := hM.map (fun q : Addr × List Nat => q.2)
        exact ⟨pm.nodup_iff.mpr tl.1, fun c => (pm.mem_iff).trans (tl.2 c)⟩
end
end Qa
end

section
set_option Elab.async false
set_option linter.all false
set_option maxRecDepth 100000
set_option maxHeartbeats 2000000
namespace Qa
open PySem PySem.Spec PyProof.Rows L2 Qb
open Qm (Pap Sq nth sat sl Tl Colls Dec looks cen bad rows imp impk Pre Pd)
theorem inV_nat (i : Nat) (c : List Nat) : inV (.int (1 + (i : Int))) (vN c) = decide (i + 1 ∈ c) := by
  have e : inV (.int (1 + (i : Int))) (vN c) = c.any fun (y : Nat) => (y : Int) == 1 + (i : Int) := by
    unfold inV vN
    rw [List.any_map]
    rfl
  rw [e]
  by_cases h : i + 1 ∈ c
  · rw [decide_eq_true h, List.any_eq_true]
    exact ⟨i + 1, h, beq_iff_eq.mpr (by omega)⟩
  · rw [decide_eq_false h, List.any_eq_false]
    intro y hy z
    have := beq_iff_eq.mp z
    have e : y = i + 1 := by omega
    rw [e] at hy
    exact h hy
theorem vN_flat (c : List Nat) : (vN c).all flatV = true := by
  rw [List.all_eq_true]
  intro x hx
  obtain ⟨y, _, e⟩ := List.mem_map.mp hx
  rw [← e]
  rfl
section
variable {P : Program} {w : World} {K : PySem.W.Frag} {mg : Str → Option Value} {base : Heap}
theorem cal_ll (B : Bls mg) (D : Dn K mg "_law_looks" (topS 37) ["_law_leaves", "_law_collation"]) : C8.Cal P w K mg base 1 "_law_looks" (spLooks K) [] := by
  refine D.cal (N := ["_law_leaves", "_law_collation", "_law_found", "_law_start", "_law_sheets", "_law_opening"]) (by decide +kernel) (fun vs H Q E h => ?_) (fun f cdv A outer s H vs Q E nd hr h => ?_)
  · obtain ⟨c, p, t, cs, rfl, _⟩ := h
    rfl
  · obtain ⟨c, p, t, cs, rfl, hc, hn, hd, q⟩ := h
    have hsum := hd.sum
    have hlenD := hd.len
    generalize t.length = n at *
    refine ⟨_, pss_cons (ps_set (i := 2) nd rfl (.inr rfl) (pe_lst pa_nil))
      (pss_cons (ps_set (i := 3) nd rfl (.inl rfl) pe_int)
      (pss_cons (ps_for PassesOwn.never rfl (pi_tup (pv 1)) (pg_name (i := 4) nd rfl (.inl rfl))
        (pss_cons (ps_expr (pe_bm PySem.F.plainAttrs_list PySem.F.slot_list_append PySem.F.type_list_append mt_append (pv 2) (pa_cons (pe_op op_add (pv 3) (pv 4)) pa_nil)))
        (pss_one (ps_set (i := 3) nd rfl (.inl rfl) (pe_op op_add (pv 3) (pe_op op_mul pe_int (pv 4)))))))
      (pss_one (ps_ret (pe_callTy call_tuple_of (by rfl) B.tuple boot_tuple (pa_cons
        (pe_lc (own := [("_law_opening", 5)]) (g := gName 5) (tt := tYes) rfl nd (pi_range2 (by rfl) B.range (pa_cons pe_int (pa_cons (pv 0) pa_nil))) (blkOk_by (N := ["_law_leaves", "_law_collation", "_law_found", "_law_start", "_law_sheets", "_law_opening"]) (sc := C8.fnScope (topS 37)) (by decide +kernel)) (fun _ _ _ _ _ => pg_name (i := 5) nd rfl (Or.inl rfl)) (fun _ _ _ _ _ => pts_nil)
          (fun _ _ _ _ _ => pe_ix (ixL_K (K := K) rfl) (pe_lst (pa_cons pe_str (pa_cons pe_str pa_nil))) (pe_callTy call_int1 (by rfl) B.int boot_int (pa_cons (pe_cmpR (in_K (K := K) rfl) (pv 5) (pv 2) (by rfl)) pa_nil)) (fun _ _ => rfl))) pa_nil)))))), ?_⟩
    refine ⟨Nat.zero_le _, fun l nl => ?_⟩
    have s1 : Same H (upd H l (.lst [])) := same_new nl
    have hcl : (vN cs).length = cs.length := List.length_map _
    refine ⟨.ref c, rfl, c, rfl, ⟨_, Same.t s1 hc⟩, ?_⟩
    refine for_it walk_tup (fun k σ H1 => (∃ y, σ = [some (.int n), some (.ref c), some (.ref l), some (.int ((2 * (cs.take k).sum : Nat) : Int)), y, none]) ∧ Same H H1 ∧ H1 l = some (.lst (vN (cen 0 (cs.take k)))))
      ⟨⟨_, rfl⟩, s1, upd_same⟩ (fun k σ H1 _ hw => Same.t hw.2.1 hc) (fun k x σ H1 H2 hk hw y => ?_) (fun σ H1 hw => ?_)
    · obtain ⟨⟨y4, rfl⟩, s2, hl⟩ := hw
      obtain ⟨e1, e2⟩ := y
      subst e1
      rw [hcl] at hk
      have e3 : cs[k]? = some cs[k] := List.getElem?_eq_getElem hk
      rw [List.getElem?_map, e3] at e2
      have e2 : x = V.int (cs[k] : Int) := (Option.some.inj e2).symm
      subst e2
      have tk : cs.take (k + 1) = cs.take k ++ [cs[k]] := by
        rw [List.take_add_one, e3]
        rfl
      have hcen : (cen 0 (cs.take k)).length ≤ 100 := by
        have e : ∀ (c : List Nat) (i : Nat), (cen i c).length = c.length := by
          intro c
          induction c with
          | nil => intro i; rfl
          | cons x y ih => intro i; show (cen _ y).length + 1 = _; rw [ih]; rfl
        rw [e, List.length_take]
        omega
      generalize cs[k] = h at *
      refine ⟨.ref l, rfl, .inl ⟨rfl, _, .inl (.inl hl)⟩, _, rfl, _, rfl, _, _, rfl, rfl, l, _, _, rfl, rfl, hl, smallL (by rw [List.length_map]; omega), ?_⟩
      refine ⟨_, rfl, _, rfl, _, _, rfl, rfl, .inl ⟨by decide, by decide⟩, _, _, rfl, rfl, ⟨some (.int (h : Int)), ?_⟩, same_mut s2 nl, ?_⟩
      · have e5 : ((2 * (cs.take k).sum : Nat) : Int) + 2 * (h : Int) = ((2 * (cs.take (k + 1)).sum : Nat) : Int) := by
          rw [tk, List.sum_append]
          have e : [h].sum = h := by simp
          omega
        dsimp only
        rw [e5]
        rfl
      · rw [upd_same, tk, Qm.cen_snoc]
        have e6 : ((2 * (cs.take k).sum : Nat) : Int) + (h : Int) = ((0 + 2 * (cs.take k).sum + h : Nat) : Int) := by omega
        dsimp only
        rw [e6]
        unfold vN
        rw [List.map_append]
        rfl
    · obtain ⟨⟨y4, rfl⟩, s2, hl⟩ := hw
      rw [hcl, List.take_length] at hl
      refine ⟨_, rfl, _, _, rfl, ⟨by omega, by omega, by omega, by omega⟩, fun D1 nD1 => ?_⟩
      have e0 : ((n : Int) - 1).toNat = n - 1 := by omega
      rw [e0]
      refine lc_vals walk_range yfn_same (G := fun _ => True) (fun _ _ => trivial) nD1 (by omega) (fun i => .str (if i + 1 ∈ cen 0 cs then tT else tN)) (fun i x H' H'' R hi s' y hR => ?_) (fun H' s' hD => ?_)
      · obtain ⟨e1, e2⟩ := y
        subst e1
        subst e2
        refine ⟨rfl, (by show 2 ≤ sizeLine; decide), fun o no => ?_⟩
        have so := same_new (o := .lst [.str tN, .str tT]) no
        refine ⟨_, rfl, _, rfl, l, _, rfl, .inl (.inl (.inl (so _ _ (s' _ _ hl)))), rfl, vN_flat _, ?_⟩
        refine .inr ⟨_, rfl, ?_⟩
        have e1 : (if false = true then !inV (.int (1 + (i : Int))) (vN (cen 0 cs)) else inV (.int (1 + (i : Int))) (vN (cen 0 cs))) = decide (i + 1 ∈ cen 0 cs) := by
          rw [if_neg Bool.false_ne_true, inV_nat]
        show rIxL K (V.ref o) (V.int (if (if false = true then !inV (.int (1 + (i : Int))) (vN (cen 0 cs)) else inV (.int (1 + (i : Int))) (vN (cen 0 cs))) = true then 1 else 0)) (upd H'' o (.lst [.str tN, .str tT])) R
        rw [e1]
        have r1 := hR _ so
        by_cases m : i + 1 ∈ cen 0 cs
        · rw [if_pos m] at r1
          rw [if_pos (decide_eq_true m)]
          exact ⟨o, _, _, _, rfl, rfl, .inl (.inl upd_same), atI_nat (j := 1) rfl, r1⟩
        · rw [if_neg m] at r1
          rw [if_neg (by rw [decide_eq_false m]; exact Bool.false_ne_true)]
          exact ⟨o, _, _, _, rfl, rfl, .inl (.inl upd_same), atI_nat (j := 0) rfl, r1⟩
      · refine ⟨D1, _, rfl, .inl ⟨.inl (.inl hD), fun r nr => q r _ (s2.trans (s'.trans (same_new nr))) (.inl (.inl ?_))⟩⟩
        rw [upd_same]
        unfold looks vT
        rw [List.map_map]
        rfl

theorem cal_la (B : Bls mg) (D : Dn K mg "_law_against" (topS 38) ["_law_seen_here", "_law_looks_here"]) : C8.Cal P w K mg base 1 "_law_against" (spAgainst K) [] := by
  refine D.cal (N := ["_law_seen_here", "_law_looks_here", "_law_k"]) (by decide +kernel) (fun vs H Q E h => ?_) (fun f cdv A outer s H vs Q E nd hr h => ?_)
  · obtain ⟨a, b, o, r, rfl, _⟩ := h
    rfl
  · obtain ⟨a, b, o, r, rfl, ho, hb, hl, hn, q⟩ := h
    refine ⟨_, pss_one (ps_ret (pe_callB (len_K (K := K) rfl) (by rfl) B.len PySem.boot_len (pa_cons
      (pe_lc (own := [("_law_k", 2)]) (g := gName 2) rfl nd (pi_range1 (by rfl) B.range (pa_cons (pe_callB (len_K (K := K) rfl) (by rfl) B.len PySem.boot_len (pa_cons (pv 0) pa_nil)) pa_nil)) (blkOk_by (N := ["_law_seen_here", "_law_looks_here", "_law_k"]) (sc := C8.fnScope (topS 38)) (by decide +kernel)) (fun _ _ _ _ _ => pg_name (i := 2) nd rfl (Or.inl rfl))
        (fun _ _ _ _ _ => pts_one (PW.pt (pw_and (pt_cmpR op_ne (pe_ix (ixT_K (K := K) rfl) (pv 0) (pv 2) (fun _ _ => rfl)) pe_str (nomark _)) (pw_and1 (pt_cmpR op_ne (pe_ix (ixT_K (K := K) rfl) (pv 0) (pv 2) (fun _ _ => rfl)) (pe_ix (ixT_K (K := K) rfl) (pv 1) (pv 2) (fun _ _ => rfl)) (nomark _))))))
        (fun _ _ _ _ _ => pv 2)) pa_nil))), ?_⟩
    have hol := vT_len o
    refine ⟨.ref a, rfl, a, _, rfl, .inr ho, _, rfl, by omega, by omega, fun D nD => ?_⟩
    refine lc_filt walk_range yfn_same (G := fun _ => True) (fun _ _ => trivial) nD (by omega) (fun k => !Qm.agk tQ o r k) (fun k => .int (0 + (k : Int))) (fun k x H' H'' R R0 hk s' y h1 h0 => ?_) (fun H' s' hD => ?_)
    · obtain ⟨e1, e2⟩ := y
      subst e1
      subst e2
      have hk2 : k < o.length := by omega
      have ix : atI (vT o) (0 + (k : Int)) = some (.str (o.getD k tQ)) := by
        rw [Int.zero_add]
        exact atI_nat (vT_at tQ hk2)
      have ix2 : atI (vT r) (0 + (k : Int)) = some (.str (r.getD k tQ)) := by
        rw [Int.zero_add]
        exact atI_nat (vT_at tQ (by omega))
      refine ⟨rfl, .ref a, rfl, _, rfl, a, _, _, _, rfl, rfl, Same.t s' ho, ix, ?_⟩
      have n1 : ∀ x y : Str, (!decide (V.str x = V.str y)) = true ↔ ¬ x = y := fun x y => by
        by_cases e : x = y
        · rw [e, decide_eq_true rfl]
          exact ⟨fun z => absurd z (by decide), fun z => absurd rfl z⟩
        · rw [decide_eq_false (fun z => e (V.str.inj z))]
          exact ⟨fun _ => e, fun _ => rfl⟩
      refine ⟨rfl, _, rfl, ite2 (fun c1 => ?_) (fun c1 => ?_)⟩
      · have c1 := (n1 _ _).mp c1
        refine ⟨.ref a, rfl, _, rfl, a, _, _, _, rfl, rfl, Same.t s' ho, ix, .ref b, rfl, _, rfl, b, _, _, _, rfl, rfl, Same.t s' hb, ix2, rfl, _, rfl, ite2 (fun c2 => ?_) (fun c2 => ?_)⟩
        · have c2 := (n1 _ _).mp c2
          refine ⟨_, rfl, h1 ?_ _ (Same.refl _)⟩
          unfold Qm.agk
          rw [decide_eq_false (fun z => z.elim c1 c2)]
          rfl
        · have c2 : o.getD k tQ = r.getD k tQ := Classical.byContradiction fun z => c2 ((n1 _ _).mpr z)
          refine h0 ?_ _ (Same.refl _)
          unfold Qm.agk
          rw [decide_eq_true (Or.inr c2)]
          rfl
      · have c1 : o.getD k tQ = tQ := Classical.byContradiction fun z => c1 ((n1 _ _).mpr z)
        refine iteF (h0 ?_ _ (Same.refl _))
        unfold Qm.agk
        rw [decide_eq_true (Or.inl c1)]
        rfl
    · refine ⟨D, _, rfl, .inl (.inl (.inl hD)), ?_⟩
      have e : (((vT o).length : Nat) : Int).toNat = o.length := by omega
      rw [e, List.length_map]
      exact q H' s'
end
end Qa
end

section
set_option Elab.async false
set_option linter.all false
set_option maxRecDepth 100000
set_option maxHeartbeats 2000000
namespace Qa
open PySem PySem.Spec PyProof.Rows L2 Qb
open Qm (Pap Sq nth sat sl Tl Colls Dec looks cen bad rows imp impk Pre Pd)
def Lk3 (x : Str) : Prop := x = tT ∨ x = tN ∨ x = tQ
theorem looks_of : ∀ {ys : List V}, (∀ y ∈ ys, ∃ x : Str, y = .str x ∧ Lk3 x) → ∃ o : List Str, ys = vT o ∧ ∀ x ∈ o, Lk3 x
  | [], _ => ⟨[], rfl, fun x hx => absurd hx (by simp)⟩
  | y :: ys, h => by
    obtain ⟨d, e, h1⟩ := h y (List.mem_cons_self ..)
    obtain ⟨ns, e2, h2⟩ := looks_of (ys := ys) fun z hz => h z (List.mem_cons_of_mem _ hz)
    refine ⟨d :: ns, ?_, fun x hx => ?_⟩
    · rw [e, e2]
      rfl
    · rcases List.mem_cons.mp hx with z | z
      · rw [z]
        exact h1
      · exact h2 x z
theorem looks3 {n : Nat} {c : List Nat} {x : Str} (h : x ∈ looks tT tN n c) : Lk3 x := by
  rcases Qm.looks_two tT tN h with e | e
  · exact .inl e
  · exact .inr (.inl e)
theorem noPart {σ : L2.St} {H : Hp} {Q : Option Int → Hp → Prop} (h : Q none H) : tNoPart σ H Q := h
theorem two {d : Int} (h0 : 0 ≤ d) (h1 : d < 2) : d = 0 ∨ d = 1 := by omega
theorem three {d : Int} (h0 : 0 ≤ d) (h1 : d < 3) : d = 0 ∨ d = 1 ∨ d = 2 := by omega
section
variable {P : Program} {w : World} {K : PySem.W.Frag} {mg : Str → Option Value} {base : Heap}
def spSn (K : PySem.W.Frag) : Sp := fun vs H Q _ => ∃ (st l a b : Addr) (p t : List Int), vs = [.ref st, .ref a, .ref b] ∧ Sx H st l ∧ SqT K H a (vI p) ∧ SqT K H b (vI t) ∧ Pap p ∧ Sq p t ∧
  ∀ (r : Addr) (o : List Str) H', Sb st H H' → Sx H' st l → SqT K H' r (vT o) → Ob t.length o → Q (.ref r) H'
theorem cal_lsn (B : Bls mg) (D : Dn K mg "_law_seen" (topS 39) ["_law_stream_here", "_law_paper_here", "_law_sequence_here"]) (cN : C8.Cal P w K mg base 1 "_law_next" spNext []) (cC : C8.Cal P w K mg base 1 "_law_collations" (spLC K) []) (cL : C8.Cal P w K mg base 1 "_law_looks" (spLooks K) []) : C8.Cal P w K mg base 2 "_law_seen" (spSn K) [] := by
  refine D.cal (N := ["_law_stream_here", "_law_paper_here", "_law_sequence_here", "_law_leaves", "_law_rows", "_law_looks_here", "_law_found", "_law_at", "_law_k", "_law_look"]) (by decide +kernel) (fun vs H Q E h => ?_) (fun f cdv A outer s H vs Q E nd hr h => ?_)
  · obtain ⟨st, l, a, b, p, t, rfl, _⟩ := h
    rfl
  · obtain ⟨st, l, a, b, p, t, rfl, hS, hp, ht, hP, hQ, q⟩ := h
    have l16 := hQ.l16
    refine ⟨_, pss_cons (ps_set (i := 3) nd rfl (.inl rfl) (pe_callB (len_K (K := K) rfl) (by rfl) B.len PySem.boot_len (pa_cons (pv 2) pa_nil)))
      (pss_cons (ps_set (i := 4) nd rfl (.inl rfl) (C8.pe_c cC hr (by decide) (by rfl) (pa_cons (pv 1) (pa_cons (pv 2) pa_nil))))
      (pss_cons (ps_set (i := 5) nd rfl (.inl rfl) (pe_callTy call_tuple_of (by rfl) B.tuple boot_tuple (pa_cons
        (pe_lc (own := [("_law_k", 8)]) (g := gName 8) (tt := tYes) rfl nd (pi_range1 (by rfl) B.range (pa_cons (pe_callB (call_max2 rfl) (by rfl) B.max boot_max (pa_cons pe_int (pa_cons (pe_op op_sub (pv 3) pe_int) pa_nil))) pa_nil)) (blkOk_by (N := ["_law_stream_here", "_law_paper_here", "_law_sequence_here", "_law_leaves", "_law_rows", "_law_looks_here", "_law_found", "_law_at", "_law_k", "_law_look"]) (sc := C8.fnScope (topS 39)) (by decide +kernel)) (fun _ _ _ _ _ => pg_name (i := 8) nd rfl (Or.inl rfl)) (fun _ _ _ _ _ => pts_nil)
          (fun _ _ _ _ _ => pe_ix (ixL_K (K := K) rfl) (pe_lst (pa_cons pe_str (pa_cons pe_str pa_nil))) (C8.pe_c cN hr (by decide) (by rfl) (pa_cons (pv 0) (pa_cons pe_int pa_nil))) (fun _ _ => rfl))) pa_nil)))
      (C8.pss_cut (ps_if (PW.pt (pw_and (pt_truth (pv 4) (by intro _; rfl)) (pw_and1 (pt_cmpR op_gt (C8.pe_c cN hr (by decide) (by rfl) (pa_cons (pv 0) (pa_cons pe_int pa_nil))) pe_int (nomark _)))))
        (pss_one (ps_set (i := 5) nd rfl (.inl rfl) (C8.pe_c cL hr (by decide) (by rfl) (pa_cons (pv 3) (pa_cons (pe_ix (ixL_K (K := K) rfl) (pv 4) (C8.pe_c cN hr (by decide) (by rfl) (pa_cons (pv 0) (pa_cons (pe_callB (len_K (K := K) rfl) (by rfl) B.len PySem.boot_len (pa_cons (pv 4) pa_nil)) pa_nil))) (fun _ _ => rfl)) pa_nil))))) pss_nil)
      (pss_cons (ps_set (i := 6) nd rfl (.inl rfl) (pe_callTy call_tuple_of (by rfl) B.tuple boot_tuple (pa_cons
        (pe_lc (own := [("_law_look", 9)]) (g := gName 9) (tt := tYes) rfl nd (pi_tup (pv 5)) (blkOk_by (N := ["_law_stream_here", "_law_paper_here", "_law_sequence_here", "_law_leaves", "_law_rows", "_law_looks_here", "_law_found", "_law_at", "_law_k", "_law_look"]) (sc := C8.fnScope (topS 39)) (by decide +kernel)) (fun _ _ _ _ _ => pg_name (i := 9) nd rfl (Or.inl rfl)) (fun _ _ _ _ _ => pts_nil)
          (fun _ _ _ _ _ => pe_ix (ixL_K (K := K) rfl) (pe_lst (pa_cons (pv 9) (pa_cons pe_str (pa_cons pe_str pa_nil)))) (C8.pe_c cN hr (by decide) (by rfl) (pa_cons (pv 0) (pa_cons pe_int pa_nil))) (fun _ _ => rfl))) pa_nil)))
      (C8.pss_cut (ps_if (PW.pt (pw_and (pt_truth (pv 6) (by intro _; rfl)) (pw_and1 (pt_cmpR op_eq (C8.pe_c cN hr (by decide) (by rfl) (pa_cons (pv 0) (pa_cons pe_int pa_nil))) pe_int (nomark _)))))
        (pss_cons (ps_set (i := 7) nd rfl (.inl rfl) (C8.pe_c cN hr (by decide) (by rfl) (pa_cons (pv 0) (pa_cons (pe_callB (len_K (K := K) rfl) (by rfl) B.len PySem.boot_len (pa_cons (pv 6) pa_nil)) pa_nil))))
        (pss_one (ps_set (i := 6) nd rfl (.inl rfl) (pe_op (catT_K (K := K) rfl) (pe_op (catT_K (K := K) rfl) (pe_slice (slT_K (K := K) rfl) (pv 6) po_none (po_some (pv 7)))
          (pe_tup (pa_cons (pe_ix ix_str pe_str (C8.pe_c cN hr (by decide) (by rfl) (pa_cons (pv 0) (pa_cons pe_int pa_nil))) (fun _ _ => rfl)) pa_nil))) (pe_slice (slT_K (K := K) rfl) (pv 6) (po_some (pe_op op_add (pv 7) pe_int)) po_none))))) pss_nil)
      (pss_one (ps_ret (pv 6)))))))), ?_⟩
    have nlen := vI_len t
    refine ⟨.ref b, rfl, b, _, rfl, .inr ht, ?_⟩
    refine ⟨_, rfl, _, rfl, a, b, p, t, rfl, hp, ht, hP, hQ, fun lr L H1 s1 nlr hlr hL hC => ?_⟩
    have sx1 := Same.sx s1 hS
    have lrst : lr ≠ st := fun z => by
      obtain ⟨_, _, _, _, g, _⟩ := hS
      rw [← z, nlr] at g
      cases g
    have few := Qm.tl_few hC l16
    rw [List.length_map] at few
    -- any looks
    have em : (if ((vI t).length : Int) - 1 > 0 then ((vI t).length : Int) - 1 else 0) = ((t.length - 1 : Nat) : Int) := by
      rw [nlen]
      split <;> omega
    refine ⟨_, rfl, _, _, rfl, rfl, _, _, rfl, _, rfl, ?_, ?_, ?_⟩
    · rw [em]
      omega
    · rw [em]
      omega
    intro D1 nD1
    rw [em, Int.toNat_natCast]
    refine lc_st walk_range yfn_same (G := fun _ => True) (fun _ _ _ => trivial) nD1 sx1 (by omega) (fun y => ∃ x : Str, y = .str x ∧ Lk3 x) (fun i x H' H'' R hi sb sx tm y hR => ?_) (fun H2 ys sb2 sx2 hD hlen hpr => ?_)
    · obtain ⟨e1, e2⟩ := y
      subst e1
      refine ⟨rfl, (by show 2 ≤ sizeLine; decide), fun o no => ?_⟩
      have so := same_new (o := .lst [.str tT, .str tN]) no
      have ho : (upd H'' o (.lst [.str tT, .str tN])) o = some (.lst [.str tT, .str tN]) := upd_same
      have ost : o ≠ st := fun z => by
        obtain ⟨_, _, _, _, g, _⟩ := sx
        rw [← z, no] at g
        cases g
      refine ⟨_, rfl, st, l, 2, rfl, Same.sx so sx, by decide, by decide, fun d H4 s4 sx4 d0 d1 => ?_⟩
      have h4 := s4 _ _ ost ho
      have hR4 := fun x k => hR (.str x) H4 ((Same.sb so).trans s4) sx4 ⟨x, rfl, k⟩
      rcases two d0 d1 with e | e
      · subst e
        exact ⟨o, _, _, _, rfl, rfl, .inl (.inl h4), atI_nat (j := 0) rfl, hR4 tT (.inl rfl)⟩
      · subst e
        exact ⟨o, _, _, _, rfl, rfl, .inl (.inl h4), atI_nat (j := 1) rfl, hR4 tN (.inr (.inl rfl))⟩
    obtain ⟨lk, e, hlk⟩ := looks_of hpr
    subst e
    rw [vT_len] at hlen
    refine ⟨D1, _, rfl, .inl ⟨.inl (.inl hD), fun r2 nr2 => ?_⟩⟩
    have s3 : Same H2 (upd H2 r2 (.tup (vT lk))) := same_new nr2
    have hr2 : SqT K (upd H2 r2 (.tup (vT lk))) r2 (vT lk) := .inl (.inl upd_same)
    generalize upd H2 r2 (.tup (vT lk)) = H3 at s3 hr2 ⊢
    have sb3 := sb2.trans (Same.sb s3)
    have sx3 := Same.sx s3 sx2
    have hlr3 := sb3 _ _ lrst hlr
    have hL3 := (sb3.tm sx1).lp hL
    refine ⟨fun σ H' => (∃ (r : Addr) (o : List Str), σ = [some (.ref st), some (.ref a), some (.ref b), some (.int ((vI t).length : Int)), some (.ref lr), some (.ref r), none, none, none, none] ∧ SqT K H' r (vT o) ∧ o.length = t.length - 1 ∧ ∀ x ∈ o, Lk3 x) ∧ Sb st H H' ∧ Sx H' st l, ?_, fun σ H' hw => ?_⟩
    · have sb03 := (Same.sb s1).trans sb3
      have nop : ∀ H', Sb st H3 H' → Sx H' st l → (∃ (r : Addr) (o : List Str), ([some (.ref st), some (.ref a), some (.ref b), some (.int ((vI t).length : Int)), some (.ref lr), some (.ref r2), none, none, none, none] : L2.St) = [some (.ref st), some (.ref a), some (.ref b), some (.int ((vI t).length : Int)), some (.ref lr), some (.ref r), none, none, none, none] ∧ SqT K H' r (vT o) ∧ o.length = t.length - 1 ∧ ∀ x ∈ o, Lk3 x) ∧ Sb st H H' ∧ Sx H' st l :=
        fun H' sb sx => ⟨⟨r2, lk, rfl, (sb.tm sx3).t hr2, hlen, hlk⟩, sb03.trans sb, sx⟩
      refine ⟨.ref lr, rfl, _, .inl ⟨_, .inl (.inl hlr3), rfl⟩, ite2 (fun c1 => ?_) (fun c1 => iteF (nop _ (Sb.refl _ _) sx3))⟩
      have hL0 : 0 < L.length := by
        cases L with
        | nil => exact absurd c1 (by decide)
        | cons x y => exact Nat.succ_pos _
      refine ⟨_, rfl, st, l, 3, rfl, sx3, by decide, by decide, fun d H4 sb4 sx4 _ _ => ⟨_, _, rfl, rfl, _, rfl, ite2 (fun _ => ?_) (fun _ => nop _ sb4 sx4)⟩⟩
      have hlr4 := sb4 _ _ lrst hlr3
      refine ⟨_, rfl, .ref lr, rfl, _, rfl, .ref lr, rfl, lr, _, rfl, .inl (.inl (.inl hlr4)), st, l, _, rfl, sx4, ?_, ?_, fun i H5 sb5 sx5 i0 i1 => ?_⟩
      · rw [refs_len]
        omega
      · rw [refs_len]
        omega
      · rw [refs_len] at i1
        obtain ⟨j, ej⟩ : ∃ j : Nat, i = (j : Int) := ⟨i.toNat, by omega⟩
        subst ej
        have hj : j < L.length := by omega
        have hlr5 := sb5 _ _ lrst hlr4
        have hL5 := (sb5.tm sx4).lp ((sb4.tm sx3).lp hL3)
        have hd := (hC.2 L[j].2).mp (List.mem_map.mpr ⟨L[j], List.getElem_mem hj, rfl⟩)
        refine ⟨lr, _, _, .ref L[j].1, rfl, rfl, .inl (.inl hlr5), atI_nat (refs_at hj), L[j].1, p, t, L[j].2, ?_, hL5.get hj, l16, hd, fun r6 H6 s6 h6 => ?_⟩
        · show [V.int ((vI t).length : Int), V.ref L[j].1] = _
          rw [nlen]
        · exact ⟨⟨r6, _, rfl, h6, Qm.looks_len tT tN _ _, fun x hx => looks3 hx⟩, sb03.trans (sb4.trans (sb5.trans (Same.sb s6))), Same.sx s6 sx5⟩
    obtain ⟨⟨rl, lo, rfl, hrl, hlo, hlo3⟩, sb, sx⟩ := hw
    -- what is seen
    refine ⟨.ref rl, rfl, rl, rfl, ⟨_, hrl⟩, fun D2 nD2 => ?_⟩
    refine lc_st walk_tup yat_same (fun H' _ tm => tm.t hrl) nD2 sx (by rw [vT_len]; omega) (fun y => ∃ x : Str, y = .str x ∧ Lk3 x) (fun i x H5 H6 R hi sb5 sx5 tm y hR => ?_) (fun H2 ys sb2 sx2 hD hlen hpr => ?_)
    · obtain ⟨e1, hx⟩ := y
      subst e1
      rw [vT_len] at hi
      rw [vT_at tQ hi] at hx
      have ex := (Option.some.inj hx).symm
      subst ex
      have m : lo.getD i tQ ∈ lo := by
        rw [List.getD_eq_getElem?_getD, List.getElem?_eq_getElem hi]
        exact List.getElem_mem hi
      have m3 := hlo3 _ m
      generalize lo.getD i tQ = x at m3 ⊢
      refine ⟨rfl, _, rfl, (by show 3 ≤ sizeLine; decide), fun o no => ?_⟩
      have so := same_new (o := .lst [.str x, .str tQ, .str tQ]) no
      have ho : (upd H6 o (.lst [.str x, .str tQ, .str tQ])) o = some (.lst [.str x, .str tQ, .str tQ]) := upd_same
      have ost : o ≠ st := fun z => by
        obtain ⟨_, _, _, _, g, _⟩ := sx5
        rw [← z, no] at g
        cases g
      refine ⟨_, rfl, st, l, 3, rfl, Same.sx so sx5, by decide, by decide, fun d H4 s4 sx4 d0 d1 => ?_⟩
      have h4 := s4 _ _ ost ho
      have hR4 := fun x k => hR (.str x) H4 ((Same.sb so).trans s4) sx4 ⟨x, rfl, k⟩
      rcases three d0 d1 with e | e | e
      · subst e
        exact ⟨o, _, _, _, rfl, rfl, .inl (.inl h4), atI_nat (j := 0) rfl, hR4 x m3⟩
      · subst e
        exact ⟨o, _, _, _, rfl, rfl, .inl (.inl h4), atI_nat (j := 1) rfl, hR4 tQ (.inr (.inr rfl))⟩
      · subst e
        exact ⟨o, _, _, _, rfl, rfl, .inl (.inl h4), atI_nat (j := 2) rfl, hR4 tQ (.inr (.inr rfl))⟩
    obtain ⟨fo, e, hfo⟩ := looks_of hpr
    subst e
    rw [vT_len, vT_len] at hlen
    refine ⟨D2, _, rfl, .inl ⟨.inl (.inl hD), fun r4 nr4 => ?_⟩⟩
    have s4 : Same H2 (upd H2 r4 (.tup (vT fo))) := same_new nr4
    have hr4 : SqT K (upd H2 r4 (.tup (vT fo))) r4 (vT fo) := .inl (.inl upd_same)
    generalize upd H2 r4 (.tup (vT fo)) = H4 at s4 hr4 ⊢
    have sb4 := sb.trans (sb2.trans (Same.sb s4))
    have sx4 := Same.sx s4 sx2
    refine ⟨fun σ H' => (∃ (r : Addr) (y7 : Option V) (o : List Str), σ = [some (.ref st), some (.ref a), some (.ref b), some (.int ((vI t).length : Int)), some (.ref lr), some (.ref rl), some (.ref r), y7, none, none] ∧ SqT K H' r (vT o) ∧ Ob t.length o) ∧ Sb st H H' ∧ Sx H' st l, ?_, fun σ H' hw => ?_⟩
    · have nop : ∀ H', Sb st H4 H' → Sx H' st l → (∃ (r : Addr) (y7 : Option V) (o : List Str), ([some (.ref st), some (.ref a), some (.ref b), some (.int ((vI t).length : Int)), some (.ref lr), some (.ref rl), some (.ref r4), none, none, none] : L2.St) = [some (.ref st), some (.ref a), some (.ref b), some (.int ((vI t).length : Int)), some (.ref lr), some (.ref rl), some (.ref r), y7, none, none] ∧ SqT K H' r (vT o) ∧ Ob t.length o) ∧ Sb st H H' ∧ Sx H' st l :=
        fun H' sb sx => ⟨⟨r4, _, fo, rfl, (sb.tm sx4).t hr4, by omega, hfo⟩, sb4.trans sb, sx⟩
      refine ⟨.ref r4, rfl, _, .inr (.inl ⟨_, hr4, rfl⟩), ite2 (fun c1 => ?_) (fun c1 => iteF (nop _ (Sb.refl _ _) sx4))⟩
      have hf0 : 0 < fo.length := by
        cases fo with
        | nil => exact absurd c1 (by decide)
        | cons x y => exact Nat.succ_pos _
      refine ⟨_, rfl, st, l, 4, rfl, sx4, by decide, by decide, fun d H5 sb5 sx5 _ _ => ⟨rfl, _, rfl, ite2 (fun _ => ?_) (fun _ => nop _ sb5 sx5)⟩⟩
      have hr5 := (sb5.tm sx4).t hr4
      refine ⟨_, rfl, .ref r4, rfl, r4, _, rfl, .inr hr5, st, l, _, rfl, sx5, ?_, ?_, fun i H6 sb6 sx6 i0 i1 => ?_⟩
      · rw [vT_len]
        omega
      · rw [vT_len]
        omega
      rw [vT_len] at i1
      obtain ⟨j, ej⟩ : ∃ j : Nat, i = (j : Int) := ⟨i.toNat, by omega⟩
      subst ej
      have hj : j < fo.length := by omega
      have hr6 := (sb6.tm sx5).t hr5
      have flen := vT_len fo
      have c1 : cutV (vT fo) none (some (j : Int)) = vT (fo.take j) := by
        unfold cutV
        rw [HT.sIx_nat, HT.sIx_none, flen, show min j fo.length = j by omega, List.drop_zero, Nat.sub_zero]
        exact List.map_take.symm
      have c2 : cutV (vT fo) (some ((j : Int) + 1)) none = vT (fo.drop (j + 1)) := by
        unfold cutV
        rw [show (j : Int) + 1 = ((j + 1 : Nat) : Int) by omega, HT.sIx_nat, HT.sIx_none, flen, show min (j + 1) fo.length = j + 1 by omega, List.take_of_length_le (by rw [List.length_drop, flen]; exact Nat.le_refl _)]
        exact List.map_drop.symm
      refine ⟨.ref r4, rfl, .int (j : Int), rfl, j, rfl, slA_ans hr6 fun r7 H7 s7 h7 => ?_⟩
      rw [c1] at h7
      have sx7 := Same.sx s7 sx6
      refine ⟨_, rfl, st, l, 3, rfl, sx7, by decide, by decide, fun z H8 sb8 sx8 z0 z1 => ?_⟩
      have gz : ∃ c, atI ("tn?" : Str).cps.toList z = some c ∧ Lk3 ⟨#[c]⟩ := by
        rcases three z0 z1 with e | e | e
        · subst e
          exact ⟨_, atI_nat (j := 0) rfl, .inl rfl⟩
        · subst e
          exact ⟨_, atI_nat (j := 1) rfl, .inr (.inl rfl)⟩
        · subst e
          exact ⟨_, atI_nat (j := 2) rfl, .inr (.inr rfl)⟩
      obtain ⟨c, hc, hc3⟩ := gz
      refine ⟨_, _, c, rfl, rfl, by decide, hc, (by show 1 ≤ sizeLine; decide), fun o2 no2 => ?_⟩
      have s9 := same_new (o := .tup [.str ⟨#[c]⟩]) no2
      have h9 : SqT K (upd H8 o2 (.tup [.str ⟨#[c]⟩])) o2 (vT [⟨#[c]⟩]) := .inl (.inl upd_same)
      generalize upd H8 o2 (.tup [.str ⟨#[c]⟩]) = H9 at s9 h9 ⊢
      have h79 := Same.t s9 ((sb8.tm sx7).t h7)
      refine catA_ans h79 h9 (by rw [vT_len, vT_len, List.length_take]; show min j fo.length + 1 ≤ 100000; omega) fun r10 H10 s10 h10 => ?_
      have hr10 := Same.t (s9.trans s10) ((sb8.tm sx7).t (Same.t s7 hr6))
      refine ⟨.ref r4, rfl, _, rfl, _, _, rfl, rfl, _, rfl, ?_⟩
      refine noPart ?_
      refine slA_ans hr10 fun r11 H11 s11 h11 => ?_
      rw [c2] at h11
      have h10' : SqT K H10 r10 (vT (fo.take j ++ [⟨#[c]⟩])) := by
        unfold vT
        rw [List.map_append]
        exact h10
      have sO : Ob t.length (fo.take j ++ [⟨#[c]⟩] ++ fo.drop (j + 1)) := by
        refine ⟨?_, fun x hx => ?_⟩
        · rw [List.length_append, List.length_append, List.length_take, List.length_drop]
          show min j fo.length + 1 + (fo.length - (j + 1)) = t.length - 1
          omega
        · rcases List.mem_append.mp hx with k | k
          · rcases List.mem_append.mp k with k | k
            · exact hfo x (List.mem_of_mem_take k)
            · rw [List.mem_singleton.mp k]
              exact hc3
          · exact hfo x (List.mem_of_mem_drop k)
      refine catA_ans (Same.t s11 h10') h11 (by rw [vT_len, vT_len, List.length_append, List.length_take, List.length_drop]; show min j fo.length + 1 + (fo.length - (j + 1)) ≤ 100000; omega) fun r12 H12 s12 h12 => ?_
      have h12' : SqT K H12 r12 (vT (fo.take j ++ [⟨#[c]⟩] ++ fo.drop (j + 1))) := by
        unfold vT
        rw [List.map_append]
        exact h12
      have sl := s9.trans (s10.trans (s11.trans s12))
      exact ⟨⟨r12, _, _, rfl, h12', sO⟩, sb4.trans (sb5.trans (sb6.trans ((Same.sb s7).trans (sb8.trans (Same.sb sl))))), Same.sx sl sx8⟩
    · obtain ⟨⟨r, y7, o, rfl, hr9, hO⟩, sb9, sx9⟩ := hw
      exact ⟨.ref r, rfl, q r o H' sb9 sx9 hr9 hO⟩
end
end Qa
end

section
set_option Elab.async false
set_option linter.all false
set_option maxRecDepth 100000
set_option maxHeartbeats 4000000
namespace Qa
open PySem PySem.Spec PyProof.Rows L2 Qb
open Qm (Pap Sq nth sat sl Tl Colls Dec looks cen bad rows imp impk Pre Pd)
theorem impk3 {rs : List (List Str)} {o : List Str} (h : ∀ r ∈ rs, ∀ x ∈ r, Lk3 x) (ho : ∀ x ∈ o, Lk3 x) (k : Nat) : Lk3 (impk tQ rs o k) := by
  have g : ∀ l : List Str, (∀ x ∈ l, Lk3 x) → Lk3 (l.getD k tQ) := fun l hl => by
    rw [List.getD_eq_getElem?_getD]
    cases e : l[k]? with
    | none => exact .inr (.inr rfl)
    | some x => exact hl x (List.mem_of_getElem? e)
  unfold impk
  by_cases c : ∀ r ∈ rs, ∀ r' ∈ rs, r.getD k tQ = r'.getD k tQ
  · rw [if_pos c]
    cases rs with
    | nil => exact g [] (fun x hx => absurd hx (by simp))
    | cons r _ => exact g r (h r List.mem_cons_self)
  · rw [if_neg c]
    exact g o ho
theorem imp_ob {t : List Int} {css : List (List Nat)} {o : List Str} (hO : Ob t.length o) : Ob t.length (imp tQ (rows tT tN tQ t.length css o) o) := by
  refine ⟨by rw [Qm.imp_len]; exact hO.len, fun x hx => ?_⟩
  obtain ⟨k, _, e⟩ := List.mem_map.mp hx
  rw [← e]
  refine impk3 (fun r hr x hx => ?_) hO.mem k
  obtain ⟨c, _, e⟩ := List.mem_map.mp (List.mem_filter.mp hr).1
  rw [← e] at hx
  exact looks3 hx
theorem dp_texts {K : PySem.W.Frag} {H : Hp} : ∀ o : List Str, DpAll K H (vT o) (o.map PyData.str)
  | [] => .nil
  | x :: o => .cons (.str x) (dp_texts o)
theorem lay3 : ∀ {o : List Str}, (∀ x ∈ o, Lk3 x) → PyData.canLayAll0 (o.map PyData.str) = true
  | [], _ => rfl
  | x :: o, h => by
    have h1 : PyData.canLay0 (.str x) = true := by
      rcases h x List.mem_cons_self with e | e | e
      · rw [e]
        decide +kernel
      · rw [e]
        decide +kernel
      · rw [e]
        decide +kernel
    have h2 := lay3 (o := o) fun z hz => h z (List.mem_cons_of_mem _ hz)
    show (PyData.canLay0 (.str x) && PyData.canLayAll0 (o.map PyData.str)) = true
    rw [h1, h2]
    rfl
theorem dep3 : ∀ o : List Str, PyData.depthAll (o.map PyData.str) = 0
  | [] => rfl
  | x :: o => by simp [PyData.depthAll, PyData.depth, dep3 o]
theorem shp {o : List Str} (h : ∀ x ∈ o, Lk3 x) : SeqAt.shaped (.tuple (o.map PyData.str)) = true := by
  simp [SeqAt.shaped, PyData.canLay0, PyData.depth, lay3 h, dep3]
theorem eqv3 {o : List Str} (h : ∀ x ∈ o, Lk3 x) : PyData.eqv (.tuple (o.map PyData.str)) (.tuple (o.map PyData.str)) = true := SeqAt.eqv_refl _ (SeqAt.canLay_of_shaped (shp h))
section
variable {P : Program} {w : World} {K : PySem.W.Frag} {mg : Str → Option Value} {base : Heap}
def spLaw (K : PySem.W.Frag) : Sp := fun vs H Q _ => ∃ (a : Addr) (ns : List Int), vs = [.ref a] ∧ SqL K H a (vI ns) ∧ ns.length ≤ 63 ∧ ∀ H', Q (.bl true) H'
theorem ok_law {f : Addr} {fd : FuncData} (B : Bls mg) (F : C8.Fun K "law" "law" (topS 41) f fd) (cSt : C8.Cal P w K mg base 1 "_law_stream" (spStream K) []) (cPap : C8.Cal P w K mg base 2 "_law_paper" (spPap K) []) (cBook : C8.Cal P w K mg base 4 "_law_book" (spBook K) [])
    (cLC : C8.Cal P w K mg base 1 "_law_collations" (spLC K) []) (cLL : C8.Cal P w K mg base 1 "_law_looks" (spLooks K) []) (cLA : C8.Cal P w K mg base 1 "_law_against" (spAgainst K) []) (cSn : C8.Cal P w K mg base 2 "_law_seen" (spSn K) [])
    (cImp : C8.Cal P w K mg base 10 "implied" (spImplied K) []) (cCnt : C8.Cal P w K mg base 10 "count_agreeing" (spCount K) []) : FnOk P w K mg base C8.CX0 11 f fd ["_law_script"] (spLaw K) := by
  have S2 := C8.fnScope_by (N := ["_law_script", "_law_stream_here", "_law_paper_here", "_law_sequence_here", "_law_looks_here", "_law_turn", "_law_seen_here", "_law_rows", "_law_told", "_law_due", "_law_k", "_law_found", "_law_row"]) (P := ["_law_script"]) (sc := C8.fnScope (topS 41)) (by decide +kernel)
  have nd := S2.nd
  refine C8.fn0 F S2 (fun vs H Q E h => ?_) (fun cdv A outer s H vs Q E hr h => ?_)
  · obtain ⟨a, ns, rfl, _⟩ := h
    rfl
  · obtain ⟨a0, ns, rfl, hns, hnl, q⟩ := h
    refine ⟨_, (pss_cons (ps_set (i := 1) nd rfl (.inl rfl) (C8.pe_c cSt hr (by decide) (by rfl) (pa_cons (pv 0) pa_nil)))
        (pss_cons (ps_set (i := 2) nd rfl (.inl rfl) (C8.pe_c cPap hr (by decide) (by rfl) (pa_cons (pv 1) pa_nil)))
        (pss_cons (ps_set (i := 3) nd rfl (.inr rfl) (C8.pe_c cBook hr (by decide) (by rfl) (pa_cons (pv 1) (pa_cons (pv 2) pa_nil))))
        (pss_cons (ps_setLc (i := 4) (own := [("_law_row", 12)]) (g := gName 12) (tt := tYes) rfl nd rfl rfl (sw_true rfl rfl rfl (by decide +kernel)) (pi_list (C8.pe_c cLC hr (by decide) (by rfl) (pa_cons (pv 2) (pa_cons (pv 3) pa_nil)))) (blkOk_by (N := ["_law_script", "_law_stream_here", "_law_paper_here", "_law_sequence_here", "_law_looks_here", "_law_turn", "_law_seen_here", "_law_rows", "_law_told", "_law_due", "_law_k", "_law_found", "_law_row"]) (sc := C8.fnScope (topS 41)) (by decide +kernel)) (fun _ _ _ _ _ => pg_name (i := 12) nd rfl (Or.inl rfl)) (fun _ _ _ _ _ => pts_nil) (fun _ _ _ _ _ => (C8.pe_c cLL hr (by decide) (by rfl) (pa_cons (pe_callB (len_K (K := K) rfl) (by rfl) B.len PySem.boot_len (pa_cons (pv 3) pa_nil)) (pa_cons (pv 12) pa_nil)))))
        (pss_cons (ps_for PassesOwn.never rfl (pi_range1 (by rfl) B.range (pa_cons pe_int pa_nil)) (pg_name (i := 5) nd rfl (.inl rfl)) (pss_cons (ps_set (i := 6) nd rfl (.inr rfl) (C8.pe_c cSn hr (by decide) (by rfl) (pa_cons (pv 1) (pa_cons (pv 2) (pa_cons (pv 3) pa_nil)))))
        (pss_cons (ps_setLc (i := 7) (own := [("_law_row", 12)]) (g := gName 12) rfl nd rfl rfl (sw_true rfl rfl rfl (by decide +kernel)) (pi_list (pv 4)) (blkOk_by (N := ["_law_script", "_law_stream_here", "_law_paper_here", "_law_sequence_here", "_law_looks_here", "_law_turn", "_law_seen_here", "_law_rows", "_law_told", "_law_due", "_law_k", "_law_found", "_law_row"]) (sc := C8.fnScope (topS 41)) (by decide +kernel)) (fun _ _ _ _ _ => pg_name (i := 12) nd rfl (Or.inl rfl)) (fun _ _ _ _ _ => pts_one (pt_cmpR op_eq (C8.pe_c cLA hr (by decide) (by rfl) (pa_cons (pv 6) (pa_cons (pv 12) pa_nil))) pe_int (nomark _))) (fun _ _ _ _ _ => pv 12))
        (pss_cons (ps_set (i := 8) nd rfl (.inl rfl) (C8.pe_c cImp hr (by decide) (by rfl) (pa_cons (pv 2) (pa_cons (pv 3) (pa_cons (pv 6) pa_nil)))))
        (pss_one (ps_if (pt_not (pt_truth (pv 7) (by intro _; rfl))) (pss_one (ps_if (pt_cmp (pc_notN (pv 8))) (pss_one (ps_ret pe_bl)) pss_nil)) (pss_cons (ps_set (i := 9) nd rfl (.inl rfl) (pe_lst pa_nil))
        (pss_cons (ps_for PassesOwn.never rfl (pi_range1 (by rfl) B.range (pa_cons (pe_callB (len_K (K := K) rfl) (by rfl) B.len PySem.boot_len (pa_cons (pv 6) pa_nil)) pa_nil)) (pg_name (i := 10) nd rfl (.inr rfl)) (pss_cons (ps_set (i := 11) nd rfl (.inl rfl) (pe_callB (Qs.cr_sortX rfl) (by rfl) B.sorted boot_sorted (pa_cons (pe_callTy (Qs.cr_setX rfl) (by rfl) B.set PyProof.Rows.boot_set (pa_cons (pe_lc (own := [("_law_row", 12)]) (g := gName 12) (tt := tYes) rfl nd (pi_list (pv 7)) (blkOk_by (N := ["_law_script", "_law_stream_here", "_law_paper_here", "_law_sequence_here", "_law_looks_here", "_law_turn", "_law_seen_here", "_law_rows", "_law_told", "_law_due", "_law_k", "_law_found", "_law_row"]) (sc := C8.fnScope (topS 41)) (by decide +kernel)) (fun _ _ _ _ _ => pg_name (i := 12) nd rfl (Or.inl rfl)) (fun _ _ _ _ _ => pts_nil) (fun _ _ _ _ _ => pe_ix (ixT_K (K := K) rfl) (pv 12) (pv 10) (fun _ _ => rfl))) pa_nil)) pa_nil)))
        (pss_one (ps_if (pt_cmpR op_eq (pe_callB (len_K (K := K) rfl) (by rfl) B.len PySem.boot_len (pa_cons (pv 11) pa_nil)) pe_int (nomark _)) (pss_one (ps_expr (pe_bm PySem.F.plainAttrs_list PySem.F.slot_list_append PySem.F.type_list_append mt_append (pv 9) (pa_cons (pe_ix (ixL_K (K := K) rfl) (pv 11) pe_int (fun _ _ => rfl)) pa_nil)))) (pss_one (ps_expr (pe_bm PySem.F.plainAttrs_list PySem.F.slot_list_append PySem.F.type_list_append mt_append (pv 9) (pa_cons pe_str pa_nil))))))))
        (pss_one (ps_if (PW.pt (pw_or (pt_cmpR (op_neD hr.units) (pv 8) (pe_callTy call_tuple_of (by rfl) B.tuple boot_tuple (pa_cons (pv 9) pa_nil)) (nomark _)) (pw_or (pt_cmpR (op_neD hr.units) (C8.pe_c cImp hr (by decide) (by rfl) (pa_cons (pv 2) (pa_cons (pv 3) (pa_cons (pv 8) pa_nil)))) (pv 8) (nomark _)) (pw_or1 (pt_cmpR op_ne (C8.pe_c cCnt hr (by decide) (by rfl) (pa_cons (pv 2) (pa_cons (pv 3) (pa_cons (pv 8) pa_nil)))) (pe_callB (len_K (K := K) rfl) (by rfl) B.len PySem.boot_len (pa_cons (pv 7) pa_nil)) (nomark _)))))) (pss_one (ps_ret pe_bl)) pss_nil))))))))))
        (pss_one (ps_ret pe_bl))))))), ?_⟩
    -- go
    have nlen : ∀ t : List Int, (vI t).length = t.length := vI_len
    refine ⟨_, rfl, a0, ns, rfl, hns, fun st l H1 s1 sx1 => ?_⟩
    refine ⟨_, rfl, st, l, rfl, sx1, fun a p H2 sb2 sx2 ha hP => ?_⟩
    refine ⟨_, rfl, _, rfl, st, l, a, p, rfl, sx2, ha, hP, fun b t H3 sb3 sx3 hb hS ht10 => ?_⟩
    have ha3 := (sb3.tm sx2).t ha
    have l16 := hS.l16
    -- the looks of all collations
    refine ⟨_, rfl, _, rfl, a, b, p, t, rfl, ha3, hb, hP, hS, fun lc L H4 s4 nlc hlc hL hC => ⟨lc, rfl, ⟨_, .inl (.inl hlc)⟩, fun D nD => ?_⟩⟩
    have sx4 := Same.sx s4 sx3
    have ha4 := Same.t s4 ha3
    have hb4 := Same.t s4 hb
    have few := Qm.tl_few hC l16
    rw [List.length_map] at few
    refine lc_new walk_list yat_same (fun H' s' => .inl (.inl (s' _ _ hlc))) nD (by rw [refs_len]; omega) (fun i y H' => ∃ c, (L.map (·.2))[i]? = some c ∧ Tu K H' y (vT (looks tT tN t.length c))) (fun i y H' H'' tm h => by
      obtain ⟨c, h1, h2⟩ := h
      exact ⟨c, h1, tm.tu h2⟩) (fun i x H' H'' R hi s' y hR => ?_) (fun H5 ys s5 hD hlen hpr => ?_)
    · obtain ⟨e5, e6⟩ := y
      subst e5
      rw [refs_len] at hi
      rw [refs_at hi] at e6
      have e6 := (Option.some.inj e6).symm
      subst e6
      have hd := (hC.2 L[i].2).mp (List.mem_map.mpr ⟨L[i], List.getElem_mem hi, rfl⟩)
      refine ⟨rfl, .ref b, rfl, b, _, rfl, .inr (Same.t s' hb4), _, rfl, L[i].1, p, t, L[i].2, ?_, Same.t s' (hL.get hi), l16, hd, fun r H6 s6 h6 => hR _ _ s6 ⟨L[i].2, ?_, r, rfl, h6⟩⟩
      · show [V.int ((vI t).length : Int), V.ref L[i].1] = _
        rw [nlen]
      · rw [List.getElem?_map, List.getElem?_eq_getElem hi]
        rfl
    rw [refs_len] at hlen
    obtain ⟨LK, m1, m2, hLK⟩ := to_pairs (K := K) (f := vT) (H := H5) (ys := ys) (css := (L.map (·.2)).map (looks tT tN t.length)) (by rw [List.length_map, List.length_map, hlen]) (fun i y hy => by
      obtain ⟨c, h1, h2⟩ := hpr i y hy
      exact ⟨_, by rw [List.getElem?_map, h1]; rfl, h2⟩)
    subst m1
    rw [refs_len] at hlen
    have sx5 := Same.sx s5 sx4
    have ha5 := Same.t s5 ha4
    have hb5 := Same.t s5 hb4
    have Dst : D ≠ st := fun z => by
      obtain ⟨_, _, _, _, g, _⟩ := sx4
      rw [← z, nD] at g
      cases g
    have lkl : ∀ q ∈ LK, q.2.length = t.length - 1 := fun q hq => by
      have h1 : q.2 ∈ LK.map (·.2) := List.mem_map.mpr ⟨q, hq, rfl⟩
      rw [m2] at h1
      obtain ⟨z, _, e⟩ := List.mem_map.mp h1
      rw [← e, Qm.looks_len]
    have lkn : LK.length ≤ 256 := by omega
    -- four turns
    refine ⟨_, rfl, by decide, by decide, ?_⟩
    refine for_it walk_range (G := fun _ => True) (fun k σ H' => (∃ y5 y6 y7 y8 y9 y10 y11, σ = [some (.ref a0), some (.ref st), some (.ref a), some (.ref b), some (.ref D), y5, y6, y7, y8, y9, y10, y11, none]) ∧ Sb st H5 H' ∧ Sx H' st l)
      ⟨⟨_, _, _, _, _, _, _, rfl⟩, Sb.refl _ _, sx5⟩ (fun _ _ _ _ _ => trivial) (fun k x σ Hk Hk' hk hw y => ?_) (fun σ H' hw => ?_)
    rotate_left
    · exact q _
    obtain ⟨⟨y5, y6, y7, y8, y9, y10, y11, rfl⟩, sbk, sxk⟩ := hw
    obtain ⟨e1, e2⟩ := y
    subst e1
    subst e2
    have tmk := sbk.tm sx5
    refine ⟨_, rfl, _, rfl, _, rfl, st, l, a, b, p, t, rfl, sxk, tmk.t ha5, tmk.t hb5, hP, hS, fun c o H6 sb6 sx6 hc hO => ?_⟩
    have sb56 := sbk.trans sb6
    have tm6 := sb56.tm sx5
    have ha6 := tm6.t ha5
    have hb6 := tm6.t hb5
    have hD6 := sb56 _ _ Dst hD
    have hLK6 := tm6.lp hLK
    have ol := hO.len
    -- the rows that agree
    refine ⟨.ref D, rfl, D, rfl, ⟨_, .inl (.inl hD6)⟩, fun D2 nD2 => ?_⟩
    refine lc_filt walk_list yat_same (fun H' s' => .inl (.inl (s' _ _ hD6))) nD2 (by rw [refs_len]; omega) (fun i => decide (bad tQ o (LK.getD i (0, [])).2 = 0)) (fun i => .ref (LK.getD i (0, [])).1) (fun i x H' H'' R R0 hi s' y h1 h0 => ?_) (fun H7 s7 hD2 => ?_)
    · obtain ⟨e1, e2⟩ := y
      subst e1
      rw [refs_len] at hi
      rw [refs_at hi] at e2
      have e2 := (Option.some.inj e2).symm
      subst e2
      have eD : LK.getD i (0, []) = LK[i] := by
        rw [List.getD_eq_getElem?_getD, List.getElem?_eq_getElem hi]
        rfl
      have hk2 := lkl LK[i] (List.getElem_mem hi)
      rw [eD] at h1 h0
      refine ⟨rfl, _, rfl, _, rfl, c, LK[i].1, o, LK[i].2, rfl, Same.t s' hc, Same.t s' (hLK6.get hi), by omega, by omega, fun H8 s8 => ⟨rfl, _, rfl, ite2 (fun c1 => ?_) (fun c1 => ?_)⟩⟩
      · have c2 : bad tQ o LK[i].2 = 0 := by
          have := V.int.inj (of_decide_eq_true c1)
          omega
        exact ⟨_, rfl, h1 (decide_eq_true c2) _ s8⟩
      · have c2 : ¬ bad tQ o LK[i].2 = 0 := fun z => c1 (decide_eq_true (by rw [z]; rfl))
        exact h0 (decide_eq_false c2) _ s8
    rw [refs_len] at hD2
    have ef := filt_at LK (0, []) (fun q : Addr × List Str => decide (bad tQ o q.2 = 0)) (fun q : Addr × List Str => V.ref q.1)
    have hD2 := hD2.trans (congrArg (fun z => some (HO.lst z)) ef)
    have hRs : ∀ q ∈ LK.filter (fun q => decide (bad tQ o q.2 = 0)), q ∈ LK := fun q hq => (List.mem_filter.mp hq).1
    have hRn : (LK.filter (fun q => decide (bad tQ o q.2 = 0))).length ≤ LK.length := List.length_filter_le _ _
    have hRm : (LK.filter (fun q => decide (bad tQ o q.2 = 0))).map (·.2) = rows tT tN tQ t.length (L.map (·.2)) o := by
      unfold rows
      rw [← m2, List.filter_map]
      rfl
    generalize LK.filter (fun q => decide (bad tQ o q.2 = 0)) = RL at hD2 hRs hRn hRm
    have hD2 : H7 D2 = some (.lst (refs RL)) := hD2
    have hRL7 : Lp K vT H7 RL := fun q hq => Same.t s7 (hLK6 q (hRs q hq))
    have hc7 := Same.t s7 hc
    have ha7 := Same.t s7 ha6
    have hb7 := Same.t s7 hb6
    have sb57 := sb56.trans (Same.sb s7)
    have sx7 := Same.sx s7 sx6
    -- what is told
    refine ⟨_, rfl, _, rfl, _, rfl, a, b, c, p, t, o, L.map (·.2), rfl, ha7, hb7, hc7, hP, hS, hO, hC, fun e0 H8 s8 => ?_, fun ne r H8 s8 hr8 => ?_⟩
    · have hR0 : RL = [] := by
        rw [e0] at hRm
        exact List.map_eq_nil_iff.mp hRm
      refine ⟨.ref D2, rfl, _, .inl ⟨_, .inl (.inl (s8 _ _ hD2)), rfl⟩, ?_⟩
      rw [hR0]
      refine iteT ⟨.non, rfl, _, rfl, iteF ?_⟩
      exact ⟨⟨_, _, _, _, _, _, _, rfl⟩, sb57.trans (Same.sb s8), Same.sx s8 sx7⟩
    · have hRne : RL ≠ [] := fun z => ne (by rw [← hRm, z]; rfl)
      have emp : (!(refs RL).isEmpty) = true := by
        cases RL with
        | nil => exact absurd rfl hRne
        | cons x y => rfl
      refine ⟨.ref D2, rfl, _, .inl ⟨_, .inl (.inl (s8 _ _ hD2)), rfl⟩, ?_⟩
      rw [emp]
      refine iteF ?_
      refine ⟨Nat.zero_le _, fun fl nfl => ?_⟩
      have s9 : Same H8 (upd H8 fl (.lst [])) := same_new nfl
      have ag := Qm.agree_imp tT tN tQ ne
      have dueL := fun (j : Nat) (hj : j < o.length) => Qm.due_imp tT tN tQ ne hj
      have obI := imp_ob (css := L.map (·.2)) hO
      generalize rows tT tN tQ t.length (L.map (·.2)) o = R at ag dueL obI hr8 hRm ne
      have hRm2 : ∀ (j : Nat) (z : Str), (z ∈ RL.map fun q => q.2.getD j tQ) ↔ ∃ r ∈ R, r.getD j tQ = z := fun j z => by
        rw [← hRm, List.mem_map]
        constructor
        · rintro ⟨q, hq, e⟩
          exact ⟨q.2, List.mem_map.mpr ⟨q, hq, rfl⟩, e⟩
        · rintro ⟨r, hr, e⟩
          obtain ⟨q, hq, e2⟩ := List.mem_map.mp hr
          refine ⟨q, hq, ?_⟩
          rw [← e, ← e2]
      have hd : R.headD [] ∈ R := by
        cases R with
        | nil => exact absurd rfl ne
        | cons a b => exact List.mem_cons_self
      refine ⟨.ref c, rfl, c, _, rfl, .inr (Same.t (s8.trans s9) hc7), _, rfl, by rw [vT_len]; omega, by rw [vT_len]; omega, ?_⟩
      have eo : ((vT o).length : Int).toNat = o.length := by
        rw [vT_len]
        omega
      rw [eo]
      refine for_it walk_range (G := fun _ => True) (fun j σ H' => (∃ y10 y11, σ = [some (.ref a0), some (.ref st), some (.ref a), some (.ref b), some (.ref D), some (.int (0 + (k : Int))), some (.ref c), some (.ref D2), some (.ref r), some (.ref fl), y10, y11, none]) ∧ Same H8 H' ∧ H' fl = some (.lst (vT ((List.range j).map (impk tQ R o)))))
        ⟨⟨_, _, rfl⟩, s9, upd_same⟩ (fun _ _ _ _ _ => trivial) (fun j x σ H9 H9' hj hw y => ?_) (fun σ H9 hw => ?_)
      · obtain ⟨⟨y10, y11, rfl⟩, sj, hfl⟩ := hw
        obtain ⟨e1, e2⟩ := y
        subst e1
        have e2 : x = V.int (j : Int) := by
          rw [e2]
          show V.int (0 + (j : Int)) = _
          rw [Int.zero_add]
        subst e2
        have s89 := s8.trans sj
        have hD29 := s89 _ _ hD2
        have hRL9 := Same.lp s89 hRL7
        refine ⟨.ref D2, rfl, D2, rfl, ⟨_, .inl (.inl hD29)⟩, fun D3 nD3 => ?_⟩
        refine lc_vals walk_list yat_same (fun H' s' => .inl (.inl (s' _ _ hD29))) nD3 (by rw [refs_len]; omega) (fun i => .str ((RL.getD i (0, [])).2.getD j tQ)) (fun i x H' H'' R' hi s' y hR => ?_) (fun H10 s10 hD3 => ?_)
        · obtain ⟨e1, e2⟩ := y
          subst e1
          rw [refs_len] at hi
          rw [refs_at hi] at e2
          have e2 := (Option.some.inj e2).symm
          subst e2
          have eD : RL.getD i (0, []) = RL[i] := by
            rw [List.getD_eq_getElem?_getD, List.getElem?_eq_getElem hi]
            rfl
          rw [eD] at hR
          have hl2 := lkl RL[i] (hRs _ (List.getElem_mem hi))
          exact ⟨rfl, _, rfl, _, rfl, RL[i].1, _, _, .str (RL[i].2.getD j tQ), rfl, rfl, Same.t s' (hRL9.get hi), atI_nat (vT_at tQ (by omega)), hR _ (Same.refl _)⟩
        rw [refs_len] at hD3
        have ef : (List.range RL.length).map (fun i => V.str ((RL.getD i (0, [])).2.getD j tQ)) = vT (RL.map fun q => q.2.getD j tQ) := by
          have h1 := congrArg (List.map fun q : Addr × List Str => V.str (q.2.getD j tQ)) (Qb.range_getD RL (0, []))
          rw [List.map_map] at h1
          unfold vT
          rw [List.map_map]
          exact h1
        rw [ef] at hD3
        refine ⟨D3, _, rfl, .inl (.inl hD3), by rw [List.length_map]; omega, fun sa nsa => ?_⟩
        refine ⟨sa, _, _, rfl, upd_same, by rw [List.length_map]; omega, fun ys yp hnd hym nyp => ?_⟩
        have s12 : Same H10 (upd (upd H10 sa (Qs.SetXO w sa (fun k => k ∈ RL.map fun q => q.2.getD j tQ) (RL.map fun q => q.2.getD j tQ).length)) yp (.lst (vT ys))) := (same_new nsa).trans (same_new nyp)
        have hyp : (upd (upd H10 sa (Qs.SetXO w sa (fun k => k ∈ RL.map fun q => q.2.getD j tQ) (RL.map fun q => q.2.getD j tQ).length)) yp (.lst (vT ys))) yp = some (.lst (vT ys)) := upd_same
        have hym2 : ∀ z, z ∈ ys ↔ ∃ r ∈ R, r.getD j tQ = z := fun z => (hym z).trans (hRm2 j z)
        have one := Qm.one_iff (rs := R) (ys := ys) (f := fun r => r.getD j tQ) hnd hym2 ne
        have s912 := s10.trans s12
        have hfl12 := s912 _ _ hfl
        have app : ∀ v, v = impk tQ R o j → (vT ((List.range j).map (impk tQ R o)) ++ [V.str v]) = vT ((List.range (j + 1)).map (impk tQ R o)) := fun v e => by
          rw [e, List.range_succ, List.map_append]
          unfold vT
          rw [List.map_append]
          rfl
        have small1 : (vT ((List.range j).map (impk tQ R o))).length < sizeLine := by
          rw [vT_len, List.length_map, List.length_range]
          exact smallL (by omega)
        refine ⟨.ref yp, rfl, yp, _, rfl, .inl (.inl (.inl hyp)), rfl, _, rfl, ite2 (fun c1 => ?_) (fun c1 => ?_)⟩
        · have c2 : ys.length = 1 := by
            have h1 := V.int.inj (of_decide_eq_true c1)
            rw [vT_len] at h1
            omega
          have al := one.mp c2
          obtain ⟨y, ey⟩ := List.length_eq_one_iff.mp c2
          have ev : y = impk tQ R o j := by
            unfold impk
            rw [if_pos al]
            have h1 := (hym2 _).mpr ⟨_, hd, rfl⟩
            rw [ey] at h1
            exact (List.mem_singleton.mp h1).symm
          refine ⟨.ref fl, rfl, .inl ⟨rfl, _, .inl (.inl hfl12)⟩, .ref yp, rfl, yp, _, 0, .str y, rfl, rfl, .inl (.inl hyp), atI_nat (j := 0) (by rw [ey]; rfl), fl, _, _, rfl, rfl, hfl12, small1, ⟨_, _, rfl⟩, same_mut (sj.trans s912) nfl, ?_⟩
          rw [upd_same, app y ev]
        · have c2 : ¬ ys.length = 1 := fun z => c1 (decide_eq_true (by rw [vT_len, z]; rfl))
          have ev : tQ = impk tQ R o j := (dueL j hj fun z => c2 (one.mpr z)).symm
          refine ⟨.ref fl, rfl, .inl ⟨rfl, _, .inl (.inl hfl12)⟩, fl, _, _, rfl, rfl, hfl12, small1, ⟨_, _, rfl⟩, same_mut (sj.trans s912) nfl, ?_⟩
          rw [upd_same]
          exact congrArg (fun z => some (HO.lst z)) (app tQ ev)
      · obtain ⟨⟨y10, y11, rfl⟩, sj, hfl⟩ := hw
        have hfl : H9 fl = some (.lst (vT (imp tQ R o))) := hfl
        have im3 := obI.mem
        have lim := obI.len
        have eimp : imp tQ R (imp tQ R o) = imp tQ R o := Qm.imp_imp tQ R o
        generalize imp tQ R o = im at hfl hr8 ag obI im3 lim eimp
        refine ⟨.ref r, rfl, .ref fl, rfl, fl, _, rfl, .inl ⟨.inl (.inl hfl), fun dt ndt => ?_⟩⟩
        have s13 : Same H9 (upd H9 dt (.tup (vT im))) := same_new ndt
        have hdt : SqT K (upd H9 dt (.tup (vT im))) dt (vT im) := .inl (.inl upd_same)
        generalize upd H9 dt (.tup (vT im)) = H13 at s13 hdt ⊢
        have s813 := sj.trans s13
        have hr13 := Same.t s813 hr8
        have s713 := s8.trans s813
        refine ⟨.tuple (im.map PyData.str), .tuple (im.map PyData.str), .tup hr13 (dp_texts _), .tup hdt (dp_texts _), shp im3, shp im3, _, rfl, ?_⟩
        rw [eqv3 im3]
        refine iteF ?_
        refine ⟨_, rfl, _, rfl, _, rfl, a, b, r, p, t, im, L.map (·.2), rfl, Same.t s713 ha7, Same.t s713 hb7, hr13, hP, hS, obI, hC, fun e0 => absurd (ag.symm.trans e0) ne, fun _ r2 H14 s14 hr14 => ?_⟩
        rw [ag, eimp] at hr14
        have hr134 := Same.t s14 hr13
        refine ⟨.ref r, rfl, .tuple (im.map PyData.str), .tuple (im.map PyData.str), .tup hr14 (dp_texts _), .tup hr134 (dp_texts _), shp im3, shp im3, _, rfl, ?_⟩
        rw [eqv3 im3]
        refine iteF ?_
        have s714 := s713.trans s14
        refine ⟨_, rfl, _, rfl, _, rfl, a, b, r, p, t, im, L.map (·.2), rfl, Same.t s714 ha7, Same.t s714 hb7, hr134, hP, hS, obI, hC, fun H15 s15 => ⟨.ref D2, rfl, D2, _, rfl, .inl (.inl (.inl ((s714.trans s15) _ _ hD2))), rfl, _, rfl, ?_⟩⟩
        have en : (R.length : Int) = ((refs RL).length : Int) := by
          rw [refs_len, ← hRm, List.length_map]
        rw [ag, en, decide_eq_true rfl]
        refine iteF ?_
        exact ⟨⟨_, _, _, _, _, _, _, rfl⟩, sb57.trans (Same.sb (s714.trans s15)), Same.sx (s714.trans s15) sx7⟩
end
end Qa
end

section
set_option Elab.async false
set_option linter.all false
set_option maxRecDepth 100000
set_option maxHeartbeats 4000000
namespace Qa
open PySem PySem.Spec PyProof.Rows L2 Qb
section
variable {P : Program} {w : World} {K : PySem.W.Frag} {mg : Str → Option Value}
theorem dn_mk {h : Heap} {x : Str} {st : Stmt} {ps : List Str} {f : Addr} {oc kV dc pm cd ct : Value} {od an : Option Addr} {sl : Array (Option Value)} (X : K.In h) (G : h.Ns mainGlobals mg) (a : PySem.W.nsIn K mainGlobals x = some (some (.ref f)))
    (l : K.lookup f = some ⟨oc, od, .func (PySem.W.fnOf x x (C8.fnArgs st) (C8.fnBody st) (C8.fnScope st) .none kV dc pm an cd ct), sl⟩) (c : PySem.W.codeIn K cd x = true) (k : PySem.W.keepIn K (.ref f) = true)
    (hb : ∀ (kV doc pm : Value) (an : Option Addr) (cdv ct : Value) (us : List Value), us.length = ps.length → bindArgs (PySem.W.fnOf x x (C8.fnArgs st) (C8.fnBody st) (C8.fnScope st) .none kV doc pm an cdv ct) ⟨us, []⟩ = pure (ps.zip us)) : Dn K mg x st ps := by
  have F : C8.Fun K x x st f (PySem.W.fnOf x x (C8.fnArgs st) (C8.fnBody st) (C8.fnScope st) .none kV dc pm an cd ct) := ⟨⟨oc, od, .none, kV, dc, pm, an, cd, ct, sl, rfl, l, c⟩⟩
  exact ⟨⟨f, _, ⟨F, PySem.W.mg_of X G a, k⟩, F.binds rfl hb⟩⟩
theorem law_mk {h : Heap} {fa f : Addr} {oc kV dc pm cd ct : Value} {od an : Option Addr} {sl : Array (Option Value)} (X : K.In h) (G : h.Ns mainGlobals mg) (hfa : mg "law" = some (.ref fa)) (a : PySem.W.nsIn K mainGlobals "law" = some (some (.ref f)))
    (l : K.lookup f = some ⟨oc, od, .func (PySem.W.fnOf "law" "law" (C8.fnArgs (topS 41)) (C8.fnBody (topS 41)) (C8.fnScope (topS 41)) .none kV dc pm an cd ct), sl⟩) (c : PySem.W.codeIn K cd "law" = true) :
    ∃ fd : FuncData, (∀ (s : Shared) (v : Value), BindsTo s fd ⟨[v], []⟩ [("_law_script", v)]) ∧ C8.Fun K "law" "law" (topS 41) fa fd := by
  have e := hfa.symm.trans (PySem.W.mg_of X G a)
  cases e
  exact ⟨_, fun s v => .of_eq rfl, ⟨⟨oc, od, .none, kV, dc, pm, an, cd, ct, sl, rfl, l, c⟩⟩⟩
theorem int_mk {h : Heap} {x : Str} {n : Int} {u : Tok} (X : K.In h) (G : h.Ns mainGlobals mg) (a : PySem.W.nsIn K mainGlobals x = some (some (.int n u))) : ∃ v, mg x = some v ∧ RelV (.int n) v := ⟨_, PySem.W.mg_of X G a, ⟨u, rfl⟩⟩
theorem looks_mk {h : Heap} {f : Addr} {od : Option Addr} {sl : Array (Option Value)} {u1 u2 u3 : Tok} {n : Nat} (X : K.In h) (G : h.Ns mainGlobals mg) (a : PySem.W.nsIn K mainGlobals "LOOKS" = some (some (.ref f)))
    (l : K.lookup f = some ⟨.type "tuple", od, .seq #[.str tT u1, .str tN u2, .str tQ u3] n, sl⟩) : ∃ aL, mg "LOOKS" = some (.ref aL) ∧ ∀ H, SqT K H aL (vT [tT, tN, tQ]) := by
  refine ⟨f, PySem.W.mg_of X G a, fun H => .inr ⟨_, _, n, l, rfl, rfl, (by show 3 ≤ sizeLine; decide), ?_⟩⟩
  exact .cons ⟨u1, rfl⟩ (.cons ⟨u2, rfl⟩ (.cons ⟨u3, rfl⟩ .nil))
/-- all defs of the text, as they stand behind the top -/
structure Top (K : PySem.W.Frag) (mg : Str → Option Value) : Prop where
  B : Bls mg
  most : ∃ u, mg "MOST_MARKS" = some u ∧ RelV (.int 6) u
  leaves : ∃ u, mg "MOST_LEAVES" = some u ∧ RelV (.int 16) u
  lks : ∃ aL, mg "LOOKS" = some (.ref aL) ∧ ∀ H, SqT K H aL (vT [tT, tN, tQ])
  d6 : Dn K mg "is_whole" (topS 6) ["value", "low", "high"]
  d7 : Dn K mg "is_paper" (topS 7) ["value"]
  d8 : Dn K mg "are_marks" (topS 8) ["paper", "value"]
  d9 : Dn K mg "is_sequence" (topS 9) ["paper", "value"]
  d11 : Dn K mg "conflict_of" (topS 11) ["paper", "sequence"]
  d12 : Dn K mg "is_gathering_of" (topS 12) ["paper", "sequence"]
  d14 : Dn K mg "shortest_at" (topS 14) ["paper", "sequence", "start"]
  d15 : Dn K mg "split_of" (topS 15) ["paper", "sequence"]
  d16 : Dn K mg "starts_of" (topS 16) ["paper", "sequence"]
  d18 : Dn K mg "tails_of" (topS 18) ["paper", "sequence"]
  d19 : Dn K mg "all_collations" (topS 19) ["paper", "sequence"]
  d22 : Dn K mg "check_marks" (topS 22) ["paper", "sequence"]
  d23 : Dn K mg "check_seen" (topS 23) ["paper", "sequence", "observations"]
  d24 : Dn K mg "looks_by" (topS 24) ["leaves", "collation"]
  d25 : Dn K mg "against" (topS 25) ["observations", "looks"]
  d26 : Dn K mg "rows_of" (topS 26) ["paper", "sequence"]
  d27 : Dn K mg "agreeing" (topS 27) ["paper", "sequence", "observations"]
  d28 : Dn K mg "count_agreeing" (topS 28) ["paper", "sequence", "observations"]
  d29 : Dn K mg "implied" (topS 29) ["paper", "sequence", "observations"]
  d31 : Dn K mg "_law_stream" (topS 31) ["_law_script"]
  d32 : Dn K mg "_law_next" (topS 32) ["_law_stream_here", "_law_many"]
  d33 : Dn K mg "_law_paper" (topS 33) ["_law_stream_here"]
  d34 : Dn K mg "_law_gathering" (topS 34) ["_law_stream_here", "_law_paper_here", "_law_sheets"]
  d35 : Dn K mg "_law_sequence" (topS 35) ["_law_stream_here", "_law_paper_here", "_law_leaves"]
  d36 : Dn K mg "_law_collations" (topS 36) ["_law_paper_here", "_law_sequence_here"]
  d37 : Dn K mg "_law_looks" (topS 37) ["_law_leaves", "_law_collation"]
  d38 : Dn K mg "_law_against" (topS 38) ["_law_seen_here", "_law_looks_here"]
  d39 : Dn K mg "_law_seen" (topS 39) ["_law_stream_here", "_law_paper_here", "_law_sequence_here"]
  d40 : Dn K mg "_law_book" (topS 40) ["_law_stream_here", "_law_paper_here"]
theorem law_all {base : Heap} {f : Addr} {fd : FuncData} (T : Top K mg) (F : C8.Fun K "law" "law" (topS 41) f fd) : FnOk P w K mg base C8.CX0 11 f fd ["_law_script"] (spLaw K) := by
  have B := T.B
  have cW : C8.Cal P w K mg base 1 "is_whole" spWhole [] := cal_whole B T.d6
  have cP := cal_paper B T.d7 T.most cW
  have cM := cal_marks B T.d8 cW
  have cS := cal_seq B T.d9 T.leaves cM
  have cC : C8.Cal P w K mg base 1 "conflict_of" (spConf K) [] := cal_conf B T.d11
  have cG := cal_gath T.d12 cC
  have cSh := cal_short B T.d14 cG
  have cSp := cal_split B T.d15 cSh
  have cSt := cal_starts T.d16 cSp
  have cT := cal_tails B T.d18 cSt cG
  have cA := cal_all T.d19 cT
  have cCm := cal_chM T.d22 cP cS
  have cCs := cal_chS B T.d23 T.lks cCm
  have cL : C8.Cal P w K mg base 1 "looks_by" (spLooks K) [] := cal_looks B T.d24
  have cAg : C8.Cal P w K mg base 1 "against" (spAgainst K) [] := cal_against B T.d25
  have cR := cal_rows B T.d26 cA cL
  have cAr := cal_agree B T.d27 cR cAg
  have cCnt := cal_count B T.d28 cCs cAr
  have cImp := cal_implied B T.d29 cCs cAr
  have lSt : C8.Cal P w K mg base 1 "_law_stream" (spStream K) [] := cal_stream B T.d31
  have lN : C8.Cal P w K mg base 1 "_law_next" spNext [] := cal_next B T.d32
  have lP := cal_pap T.d33 lN
  have lG := cal_ga B T.d34 lN
  have lS := cal_lseq B T.d35 lN lG
  have lC : C8.Cal P w K mg base 1 "_law_collations" (spLC K) [] := cal_lc B T.d36
  have lL : C8.Cal P w K mg base 1 "_law_looks" (spLooks K) [] := cal_ll B T.d37
  have lA : C8.Cal P w K mg base 1 "_law_against" (spAgainst K) [] := cal_la B T.d38
  have lSn := cal_lsn B T.d39 lN lC lL
  have lB := cal_book B T.d40 lN lG lS
  exact ok_law B F lSt lP lB lC lL lA lSn cImp cCnt
theorem all_mk {h : Heap} {fa : Addr} (_ : K.In h) (_ : h.Ns mainGlobals mg) (T : Top K mg) (Fl : ∃ fd : FuncData, (∀ (s : Shared) (v : Value), BindsTo s fd ⟨[v], []⟩ [("_law_script", v)]) ∧ C8.Fun K "law" "law" (topS 41) fa fd) :
    ∃ fd : FuncData, (∀ (s : Shared) (v : Value), BindsTo s fd ⟨[v], []⟩ [("_law_script", v)]) ∧ ∀ base : Heap, K.In base → base.Ns mainGlobals mg → FnOk P w K mg base C8.CX0 11 fa fd ["_law_script"] (spLaw K) := by
  obtain ⟨fd, hb, F⟩ := Fl
  exact ⟨fd, hb, fun base _ _ => law_all T F⟩
end
end Qa
end

section
open PySem PySem.W PyProof.Rows
set_option Elab.async false
set_option linter.all false
set_option maxRecDepth 100000
set_option maxHeartbeats 0 in
theorem PySem.Challenge.cw_quiremarks_k80_whole_what_is_implied_holds : PySem.Challenge.rw_quiremarks_k80_whole_what_is_implied.Holds := by
  w_on; o_law; k_head; (case hw => w_witness2)
  k_fill
  refine L2.walk_of (l := PySem.Challenge.rw_quiremarks_k80_whole_what_is_implied) (n := 63) (k := 11) (x := "_law_script") (CX := fun _ => C8.CX0) (sp := fun w => Qa.spLaw _) rfl (by decide) rfl ⟨rfl, by decide, by decide⟩ (fun w h Y => PySem.W.kIn_of Y) ?F (fun _ _ a ns hl _ hS => ⟨a, ns, rfl, hS, hl, fun _ => rfl⟩) (fun _ _ _ _ _ h => h)
  case F =>
    intro w mg fa h KX G hmg
    refine' Qa.all_mk KX G ⟨⟨PySem.W.mg_none_of KX G ?z0, PySem.W.mg_none_of KX G ?z1, PySem.W.mg_none_of KX G ?z2, PySem.W.mg_none_of KX G ?z3, PySem.W.mg_none_of KX G ?z4, PySem.W.mg_none_of KX G ?z5, PySem.W.mg_none_of KX G ?z6, PySem.W.mg_none_of KX G ?z7, PySem.W.mg_none_of KX G ?z8, PySem.W.mg_none_of KX G ?z9, PySem.W.mg_none_of KX G ?z10, PySem.W.mg_none_of KX G ?z11, PySem.W.mg_none_of KX G ?z12, PySem.W.mg_none_of KX G ?z13, PySem.W.mg_none_of KX G ?z14, PySem.W.mg_none_of KX G ?z15, PySem.W.mg_none_of KX G ?z16⟩, Qa.int_mk KX G ?m1, Qa.int_mk KX G ?m2, Qa.looks_mk KX G ?a0 ?l0,
        Qa.dn_mk KX G ?a6 ?l6 ?c6 ?k6 fun _ _ _ _ _ _ us hl => match us, hl with | [_, _, _], _ => rfl,
        Qa.dn_mk KX G ?a7 ?l7 ?c7 ?k7 fun _ _ _ _ _ _ us hl => match us, hl with | [_], _ => rfl,
        Qa.dn_mk KX G ?a8 ?l8 ?c8 ?k8 fun _ _ _ _ _ _ us hl => match us, hl with | [_, _], _ => rfl,
        Qa.dn_mk KX G ?a9 ?l9 ?c9 ?k9 fun _ _ _ _ _ _ us hl => match us, hl with | [_, _], _ => rfl,
        Qa.dn_mk KX G ?a11 ?l11 ?c11 ?k11 fun _ _ _ _ _ _ us hl => match us, hl with | [_, _], _ => rfl,
        Qa.dn_mk KX G ?a12 ?l12 ?c12 ?k12 fun _ _ _ _ _ _ us hl => match us, hl with | [_, _], _ => rfl,
        Qa.dn_mk KX G ?a14 ?l14 ?c14 ?k14 fun _ _ _ _ _ _ us hl => match us, hl with | [_, _, _], _ => rfl,
        Qa.dn_mk KX G ?a15 ?l15 ?c15 ?k15 fun _ _ _ _ _ _ us hl => match us, hl with | [_, _], _ => rfl,
        Qa.dn_mk KX G ?a16 ?l16 ?c16 ?k16 fun _ _ _ _ _ _ us hl => match us, hl with | [_, _], _ => rfl,
        Qa.dn_mk KX G ?a18 ?l18 ?c18 ?k18 fun _ _ _ _ _ _ us hl => match us, hl with | [_, _], _ => rfl,
        Qa.dn_mk KX G ?a19 ?l19 ?c19 ?k19 fun _ _ _ _ _ _ us hl => match us, hl with | [_, _], _ => rfl,
        Qa.dn_mk KX G ?a22 ?l22 ?c22 ?k22 fun _ _ _ _ _ _ us hl => match us, hl with | [_, _], _ => rfl,
        Qa.dn_mk KX G ?a23 ?l23 ?c23 ?k23 fun _ _ _ _ _ _ us hl => match us, hl with | [_, _, _], _ => rfl,
        Qa.dn_mk KX G ?a24 ?l24 ?c24 ?k24 fun _ _ _ _ _ _ us hl => match us, hl with | [_, _], _ => rfl,
        Qa.dn_mk KX G ?a25 ?l25 ?c25 ?k25 fun _ _ _ _ _ _ us hl => match us, hl with | [_, _], _ => rfl,
        Qa.dn_mk KX G ?a26 ?l26 ?c26 ?k26 fun _ _ _ _ _ _ us hl => match us, hl with | [_, _], _ => rfl,
        Qa.dn_mk KX G ?a27 ?l27 ?c27 ?k27 fun _ _ _ _ _ _ us hl => match us, hl with | [_, _, _], _ => rfl,
        Qa.dn_mk KX G ?a28 ?l28 ?c28 ?k28 fun _ _ _ _ _ _ us hl => match us, hl with | [_, _, _], _ => rfl,
        Qa.dn_mk KX G ?a29 ?l29 ?c29 ?k29 fun _ _ _ _ _ _ us hl => match us, hl with | [_, _, _], _ => rfl,
        Qa.dn_mk KX G ?a31 ?l31 ?c31 ?k31 fun _ _ _ _ _ _ us hl => match us, hl with | [_], _ => rfl,
        Qa.dn_mk KX G ?a32 ?l32 ?c32 ?k32 fun _ _ _ _ _ _ us hl => match us, hl with | [_, _], _ => rfl,
        Qa.dn_mk KX G ?a33 ?l33 ?c33 ?k33 fun _ _ _ _ _ _ us hl => match us, hl with | [_], _ => rfl,
        Qa.dn_mk KX G ?a34 ?l34 ?c34 ?k34 fun _ _ _ _ _ _ us hl => match us, hl with | [_, _, _], _ => rfl,
        Qa.dn_mk KX G ?a35 ?l35 ?c35 ?k35 fun _ _ _ _ _ _ us hl => match us, hl with | [_, _, _], _ => rfl,
        Qa.dn_mk KX G ?a36 ?l36 ?c36 ?k36 fun _ _ _ _ _ _ us hl => match us, hl with | [_, _], _ => rfl,
        Qa.dn_mk KX G ?a37 ?l37 ?c37 ?k37 fun _ _ _ _ _ _ us hl => match us, hl with | [_, _], _ => rfl,
        Qa.dn_mk KX G ?a38 ?l38 ?c38 ?k38 fun _ _ _ _ _ _ us hl => match us, hl with | [_, _], _ => rfl,
        Qa.dn_mk KX G ?a39 ?l39 ?c39 ?k39 fun _ _ _ _ _ _ us hl => match us, hl with | [_, _, _], _ => rfl,
        Qa.dn_mk KX G ?a40 ?l40 ?c40 ?k40 fun _ _ _ _ _ _ us hl => match us, hl with | [_, _], _ => rfl⟩ (Qa.law_mk KX G hmg ?a ?l ?c)
    (case z0 => k_is)
    (case z1 => k_is)
    (case z2 => k_is)
    (case z3 => k_is)
    (case z4 => k_is)
    (case z5 => k_is)
    (case z6 => k_is)
    (case z7 => k_is)
    (case z8 => k_is)
    (case z9 => k_is)
    (case z10 => k_is)
    (case z11 => k_is)
    (case z12 => k_is)
    (case z13 => k_is)
    (case z14 => k_is)
    (case z15 => k_is)
    (case z16 => k_is)
    (case m1 => k_is)
    (case m2 => k_is)
    (case a0 => k_is)
    (case l0 => k_is)
    (case a6 => k_is); (case l6 => k_is); (case c6 => k_is); (case k6 => k_is)
    (case a7 => k_is); (case l7 => k_is); (case c7 => k_is); (case k7 => k_is)
    (case a8 => k_is); (case l8 => k_is); (case c8 => k_is); (case k8 => k_is)
    (case a9 => k_is); (case l9 => k_is); (case c9 => k_is); (case k9 => k_is)
    (case a11 => k_is); (case l11 => k_is); (case c11 => k_is); (case k11 => k_is)
    (case a12 => k_is); (case l12 => k_is); (case c12 => k_is); (case k12 => k_is)
    (case a14 => k_is); (case l14 => k_is); (case c14 => k_is); (case k14 => k_is)
    (case a15 => k_is); (case l15 => k_is); (case c15 => k_is); (case k15 => k_is)
    (case a16 => k_is); (case l16 => k_is); (case c16 => k_is); (case k16 => k_is)
    (case a18 => k_is); (case l18 => k_is); (case c18 => k_is); (case k18 => k_is)
    (case a19 => k_is); (case l19 => k_is); (case c19 => k_is); (case k19 => k_is)
    (case a22 => k_is); (case l22 => k_is); (case c22 => k_is); (case k22 => k_is)
    (case a23 => k_is); (case l23 => k_is); (case c23 => k_is); (case k23 => k_is)
    (case a24 => k_is); (case l24 => k_is); (case c24 => k_is); (case k24 => k_is)
    (case a25 => k_is); (case l25 => k_is); (case c25 => k_is); (case k25 => k_is)
    (case a26 => k_is); (case l26 => k_is); (case c26 => k_is); (case k26 => k_is)
    (case a27 => k_is); (case l27 => k_is); (case c27 => k_is); (case k27 => k_is)
    (case a28 => k_is); (case l28 => k_is); (case c28 => k_is); (case k28 => k_is)
    (case a29 => k_is); (case l29 => k_is); (case c29 => k_is); (case k29 => k_is)
    (case a31 => k_is); (case l31 => k_is); (case c31 => k_is); (case k31 => k_is)
    (case a32 => k_is); (case l32 => k_is); (case c32 => k_is); (case k32 => k_is)
    (case a33 => k_is); (case l33 => k_is); (case c33 => k_is); (case k33 => k_is)
    (case a34 => k_is); (case l34 => k_is); (case c34 => k_is); (case k34 => k_is)
    (case a35 => k_is); (case l35 => k_is); (case c35 => k_is); (case k35 => k_is)
    (case a36 => k_is); (case l36 => k_is); (case c36 => k_is); (case k36 => k_is)
    (case a37 => k_is); (case l37 => k_is); (case c37 => k_is); (case k37 => k_is)
    (case a38 => k_is); (case l38 => k_is); (case c38 => k_is); (case k38 => k_is)
    (case a39 => k_is); (case l39 => k_is); (case c39 => k_is); (case k39 => k_is)
    (case a40 => k_is); (case l40 => k_is); (case c40 => k_is); (case k40 => k_is)
    (case a => k_is); (case l => k_is); (case c => k_is)
end
