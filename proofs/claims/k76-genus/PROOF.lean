import PyProof.Rows.All
import Wide.All
import OpenK.AllK
import Wide.FinOn
import HandS.ForMost
import HandS.Conv
import HandS.DictComp
import HandS.IsInst
import HandS.TupAny
import HandS.TupSets
import HandS.Style
import HandS.Walk
import HandS.Wide
import HandS.Flow
import KE.GoesMore
import KE.GoesEnum
import KE.KIndexOf
import PySem.Challenge.RW_swapsheets_k76_whole_genus_of_rows_of_mo
set_option Elab.async false
set_option linter.all false
set_option maxRecDepth 100000
set_option maxHeartbeats 8000000
/-! MathA: moves as functions, the number of cycles, swaps, the inequality of least swaps. Plain Lean, no program in sight. -/
namespace Gm

/-- p leads the places below d to places below d, no two to one -/
structure Pm (d : Nat) (p : Nat → Nat) : Prop where
  lt : ∀ i, i < d → p i < d
  inj : ∀ i j, i < d → j < d → p i = p j → i = j

def skip (d : Nat) (p : Nat → Nat) : Nat → Nat := fun i => if p i = d then p d else p i
/-- the number of cycles: the last place is left out, one after the other -/
def cyc : Nat → (Nat → Nat) → Nat
  | 0, _ => 0
  | d + 1, p => cyc d (skip d p) + if p d = d then 1 else 0
def sw (a b : Nat) : Nat → Nat := fun x => if x = a then b else if x = b then a else x

theorem cyc_congr : ∀ (d : Nat) (p q : Nat → Nat), (∀ i, i < d → p i = q i) → cyc d p = cyc d q
  | 0, _, _, _ => rfl
  | d + 1, p, q, h => by
    have hd := h d (Nat.lt_succ_self d)
    have e : cyc d (skip d p) = cyc d (skip d q) := cyc_congr d _ _ fun i hi => by
      unfold skip
      rw [h i (by omega), hd]
    simp only [cyc]
    rw [e, hd]

theorem Pm.congr {d : Nat} {p q : Nat → Nat} (h : Pm d p) (e : ∀ i, i < d → p i = q i) : Pm d q :=
  ⟨fun i hi => by rw [← e i hi]; exact h.lt i hi, fun i j hi hj x => h.inj i j hi hj (by rw [e i hi, e j hj]; exact x)⟩

theorem Pm.skip {d : Nat} {p : Nat → Nat} (h : Pm (d + 1) p) : Pm d (skip d p) := by
  have key : ∀ i, i < d → (p i = d ∧ Gm.skip d p i = p d) ∨ (p i ≠ d ∧ Gm.skip d p i = p i) := fun i _ => by
    unfold Gm.skip
    by_cases e : p i = d
    · exact .inl ⟨e, if_pos e⟩
    · exact .inr ⟨e, if_neg e⟩
  refine ⟨fun i hi => ?_, fun i j hi hj e => ?_⟩
  · have h1 := h.lt i (by omega)
    have h2 := h.lt d (by omega)
    rcases key i hi with ⟨a, b⟩ | ⟨a, b⟩
    · have : p d ≠ d := fun z => by
        have := h.inj i d (by omega) (by omega) (by omega)
        omega
      omega
    · omega
  · rcases key i hi with ⟨a, b⟩ | ⟨a, b⟩ <;> rcases key j hj with ⟨a', b'⟩ | ⟨a', b'⟩
    · exact h.inj i j (by omega) (by omega) (by omega)
    · have := h.inj d j (by omega) (by omega) (by omega)
      omega
    · have := h.inj i d (by omega) (by omega) (by omega)
      omega
    · exact h.inj i j (by omega) (by omega) (by omega)

theorem Pm.surj : ∀ {d : Nat} {p : Nat → Nat}, Pm d p → ∀ x, x < d → ∃ i, i < d ∧ p i = x
  | 0, _, _, x, hx => by omega
  | d + 1, p, h, x, hx => by
    have S := Pm.surj h.skip
    have key : ∀ y, y < d → ∃ i, i < d ∧ ((p i = d ∧ p d = y) ∨ (p i ≠ d ∧ p i = y)) := fun y hy => by
      obtain ⟨i, hi, e⟩ := S y hy
      unfold Gm.skip at e
      by_cases z : p i = d
      · rw [if_pos z] at e
        exact ⟨i, hi, .inl ⟨z, e⟩⟩
      · rw [if_neg z] at e
        exact ⟨i, hi, .inr ⟨z, e⟩⟩
    by_cases hxd : x < d
    · obtain ⟨i, hi, h1 | h1⟩ := key x hxd
      · exact ⟨d, by omega, h1.2⟩
      · exact ⟨i, by omega, h1.2⟩
    · have ex : x = d := by omega
      subst ex
      by_cases z : p x = x
      · exact ⟨x, by omega, z⟩
      · have h2 := h.lt x (by omega)
        obtain ⟨i, hi, h1 | h1⟩ := key (p x) (by omega)
        · exact ⟨i, by omega, h1.1⟩
        · have := h.inj i x (by omega) (by omega) h1.2
          omega

theorem Pm.comp {d : Nat} {p q : Nat → Nat} (h : Pm d p) (k : Pm d q) : Pm d (fun i => q (p i)) :=
  ⟨fun i hi => k.lt _ (h.lt i hi), fun i j hi hj e => h.inj i j hi hj (k.inj _ _ (h.lt i hi) (h.lt j hj) e)⟩

theorem sw_cases (a b x : Nat) : (x = a ∧ sw a b x = b) ∨ (x ≠ a ∧ x = b ∧ sw a b x = a) ∨ (x ≠ a ∧ x ≠ b ∧ sw a b x = x) := by
  unfold sw
  by_cases h : x = a
  · exact .inl ⟨h, if_pos h⟩
  · rw [if_neg h]
    by_cases k : x = b
    · exact .inr (.inl ⟨h, k, if_pos k⟩)
    · exact .inr (.inr ⟨h, k, if_neg k⟩)
theorem sw_comm (a b x : Nat) : sw a b x = sw b a x := by
  have h1 := sw_cases a b x
  have h2 := sw_cases b a x
  omega
theorem sw_sw (a b x : Nat) : sw a b (sw a b x) = x := by
  have h1 := sw_cases a b x
  have h2 := sw_cases a b (sw a b x)
  omega
theorem pm_sw {d a b : Nat} (ha : a < d) (hb : b < d) : Pm d (sw a b) :=
  ⟨fun i hi => by have := sw_cases a b i; omega, fun i j hi hj e => by rw [← sw_sw a b i, e, sw_sw]⟩

/-- f tells no place from the place to which p leads it -/
def Inv (d : Nat) (p : Nat → Nat) (f : Nat → Nat) : Prop := ∀ i, i < d → f (p i) = f i
def Sep (d : Nat) (p : Nat → Nat) (a b : Nat) : Prop := ∃ f, Inv d p f ∧ f a ≠ f b
theorem Sep.comm {d : Nat} {p : Nat → Nat} {a b : Nat} (h : Sep d p a b) : Sep d p b a := by
  obtain ⟨f, h1, h2⟩ := h
  exact ⟨f, h1, fun e => h2 e.symm⟩

theorem sep_skip {d : Nat} {p : Nat → Nat} {a b : Nat} (h : Pm (d + 1) p) (ha : a < d) (hb : b < d) : Sep (d + 1) p a b ↔ Sep d (skip d p) a b := by
  constructor
  · rintro ⟨f, hf, hne⟩
    refine ⟨f, fun i hi => ?_, hne⟩
    unfold skip
    by_cases z : p i = d
    · rw [if_pos z, hf d (by omega), ← z, hf i (by omega)]
    · rw [if_neg z, hf i (by omega)]
  · rintro ⟨f, hf, hne⟩
    refine ⟨fun i => if i = d then (if p d = d then 0 else f (p d)) else f i, fun i hi => ?_, ?_⟩
    · show (if p i = d then _ else _) = (if i = d then _ else _)
      by_cases hid : i = d
      · subst hid
        rw [if_pos rfl]
        by_cases z : p i = i
        · rw [if_pos z]
        · rw [if_neg z, if_neg z]
      · rw [if_neg hid]
        have hs := hf i (by omega)
        unfold skip at hs
        by_cases z : p i = d
        · rw [if_pos z] at hs ⊢
          have : p d ≠ d := fun y => hid (h.inj i d (by omega) (by omega) (by omega))
          rw [if_neg this]
          exact hs
        · rw [if_neg z] at hs ⊢
          exact hs
    · show (if a = d then _ else _) ≠ (if b = d then _ else _)
      rw [if_neg (by omega), if_neg (by omega)]
      exact hne

theorem cyc_succ (d : Nat) (p : Nat → Nat) : cyc (d + 1) p = cyc d (skip d p) + if p d = d then 1 else 0 := rfl
/-- ONE SWAP MORE: one cycle more or one less, as the two places were told apart or not -/
theorem swap_step : ∀ (d : Nat) (p : Nat → Nat) (a b : Nat), Pm d p → a < d → b < d → a ≠ b →
    (cyc d (fun i => sw a b (p i)) = cyc d p + 1 ∧ ¬ Sep d p a b) ∨ (cyc d (fun i => sw a b (p i)) + 1 = cyc d p ∧ Sep d p a b) := by
  intro d
  induction d with
  | zero => intro p a b _ ha; omega
  | succ d ih =>
    have C : ∀ (p : Nat → Nat) (a b : Nat), cyc (d + 1) (fun i => sw a b (p i)) = cyc d (skip d fun i => sw a b (p i)) + if sw a b (p d) = d then 1 else 0 := fun _ _ _ => rfl
    have main : ∀ (p : Nat → Nat) (a b : Nat), Pm (d + 1) p → a < d → b < d + 1 → a ≠ b →
        (cyc (d + 1) (fun i => sw a b (p i)) = cyc (d + 1) p + 1 ∧ ¬ Sep (d + 1) p a b) ∨ (cyc (d + 1) (fun i => sw a b (p i)) + 1 = cyc (d + 1) p ∧ Sep (d + 1) p a b) := by
      intro p a b h ha hb hab
      have hpd := h.lt d (by omega)
      by_cases hbd : b < d
      · -- both below d
        have e1 : cyc d (skip d fun i => sw a b (p i)) = cyc d (fun i => sw a b (skip d p i)) := cyc_congr _ _ _ fun i hi => by
          dsimp only [skip]
          have c := sw_cases a b (p i)
          by_cases z : p i = d
          · rw [if_pos z, if_pos (by omega)]
          · rw [if_neg z, if_neg (by omega)]
        have e2 : (if sw a b (p d) = d then 1 else 0) = if p d = d then 1 else 0 := by
          have c := sw_cases a b (p d)
          by_cases z : p d = d
          · rw [if_pos z, if_pos (by omega)]
          · rw [if_neg z, if_neg (by omega)]
        have H := ih (skip d p) a b h.skip ha hbd hab
        rw [sep_skip h ha hbd]
        rw [C p a b, cyc_succ d p, e1, e2]
        rcases H with ⟨h1, h2⟩ | ⟨h1, h2⟩
        · exact .inl ⟨by omega, h2⟩
        · exact .inr ⟨by omega, h2⟩
      · have eb : b = d := by omega
        subst eb
        rcases Nat.lt_or_ge (p b) b with hlt | hge
        · by_cases hpa : p b = a
          · -- b led to a
            have e1 : cyc b (skip b fun i => sw a b (p i)) = cyc b (skip b p) := cyc_congr _ _ _ fun i hi => by
              have ne : p i ≠ a := fun z => by
                have := h.inj i b (by omega) (by omega) (by omega)
                omega
              dsimp only [skip]
              have c := sw_cases a b (p i)
              have c2 := sw_cases a b (p b)
              by_cases z : p i = b
              · rw [if_pos z, if_neg (by omega)]
                omega
              · rw [if_neg z, if_neg (by omega)]
                omega
            have e2 : (if sw a b (p b) = b then 1 else 0) = 1 := by
              have c := sw_cases a b (p b)
              rw [if_pos (by omega)]
            have e3 : (if p b = b then 1 else 0) = 0 := by rw [if_neg (by omega)]
            refine .inl ⟨?_, ?_⟩
            · rw [C p a b, cyc_succ b p, e1, e2, e3]
            · rintro ⟨f, hf, hne⟩
              have := hf b (by omega)
              rw [hpa] at this
              exact hne this
          · -- b led to another place
            generalize hx : p b = x at *
            have e1 : cyc b (skip b fun i => sw a b (p i)) = cyc b (fun i => sw a x (skip b p i)) := cyc_congr _ _ _ fun i hi => by
              have ne : p i ≠ x := fun z => by
                have := h.inj i b (by omega) (by omega) (by omega)
                omega
              dsimp only [skip]
              rw [hx]
              have c := sw_cases a b (p i)
              have c2 := sw_cases a b x
              by_cases z : p i = b
              · rw [if_pos z, if_neg (by omega)]
                have c3 := sw_cases a x x
                omega
              · rw [if_neg z]
                have c3 := sw_cases a x (p i)
                by_cases y : p i = a
                · rw [if_pos (by omega)]
                  omega
                · rw [if_neg (by omega)]
                  omega
            have e2 : (if sw a b x = b then 1 else 0) = 0 := by
              have c := sw_cases a b x
              rw [if_neg (by omega)]
            have e3 : (if x = b then 1 else 0) = 0 := by rw [if_neg (by omega)]
            have H := ih (skip b p) a x h.skip ha hlt (fun z => hpa z.symm)
            have es : Sep (b + 1) p a b ↔ Sep (b + 1) p a x := by
              constructor
              · rintro ⟨f, hf, hne⟩
                refine ⟨f, hf, fun z => hne ?_⟩
                have := hf b (by omega)
                rw [hx] at this
                rw [z, this]
              · rintro ⟨f, hf, hne⟩
                refine ⟨f, hf, fun z => hne ?_⟩
                have := hf b (by omega)
                rw [hx] at this
                rw [z, this]
            rw [es, sep_skip h ha hlt]
            rw [C p a b, cyc_succ b p, e1, hx, e2, e3]
            rcases H with ⟨h1, h2⟩ | ⟨h1, h2⟩
            · exact .inl ⟨by omega, h2⟩
            · exact .inr ⟨by omega, h2⟩
        · -- b stayed
          have hpb : p b = b := by omega
          have e1 : cyc b (skip b fun i => sw a b (p i)) = cyc b (skip b p) := cyc_congr _ _ _ fun i hi => by
            have ne : p i ≠ b := fun z => by
              have := h.inj i b (by omega) (by omega) (by omega)
              omega
            dsimp only [skip]
            have c := sw_cases a b (p i)
            have c2 := sw_cases a b (p b)
            rw [if_neg ne]
            by_cases z : p i = a
            · rw [if_pos (by omega)]
              omega
            · rw [if_neg (by omega)]
              omega
          have e2 : (if sw a b (p b) = b then 1 else 0) = 0 := by
            have c := sw_cases a b (p b)
            rw [if_neg (by omega)]
          have e3 : (if p b = b then 1 else 0) = 1 := by rw [if_pos hpb]
          refine .inr ⟨?_, ?_⟩
          · rw [C p a b, cyc_succ b p, e1, e2, e3]
          · refine ⟨fun i => if i = b then 1 else 0, fun i hi => ?_, ?_⟩
            · show (if p i = b then 1 else 0) = if i = b then 1 else 0
              by_cases z : i = b
              · rw [if_pos z, if_pos (by rw [z]; exact hpb)]
              · rw [if_neg z, if_neg fun y => z (h.inj i b (by omega) (by omega) (by omega))]
            · show (if a = b then 1 else 0) ≠ if b = b then 1 else 0
              rw [if_neg hab, if_pos rfl]
              omega
    intro p a b h ha hb hab
    by_cases had : a < d
    · exact main p a b h had hb hab
    · have hbd : b < d := by omega
      have := main p b a h hbd ha (fun z => hab z.symm)
      have e : cyc (d + 1) (fun i => sw a b (p i)) = cyc (d + 1) (fun i => sw b a (p i)) := cyc_congr _ _ _ fun i _ => sw_comm a b (p i)
      rw [e]
      rcases this with ⟨h1, h2⟩ | ⟨h1, h2⟩
      · exact .inl ⟨h1, fun z => h2 z.comm⟩
      · exact .inr ⟨h1, h2.comm⟩

theorem cyc_le : ∀ (d : Nat) (p : Nat → Nat), cyc d p ≤ d
  | 0, _ => Nat.le_refl _
  | d + 1, p => by
    have := cyc_le d (skip d p)
    simp only [cyc]
    split <;> omega
theorem cyc_full : ∀ (d : Nat) (p : Nat → Nat), cyc d p = d → ∀ i, i < d → p i = i
  | 0, _, _, i, hi => by omega
  | d + 1, p, h, i, hi => by
    have l := cyc_le d (skip d p)
    simp only [cyc] at h
    by_cases z : p d = d
    · rw [if_pos z] at h
      have S := cyc_full d (skip d p) (by omega)
      by_cases e : i = d
      · rw [e]; exact z
      · have := S i (by omega)
        unfold skip at this
        by_cases y : p i = d
        · rw [if_pos y] at this
          omega
        · rw [if_neg y] at this
          exact this
    · rw [if_neg z] at h
      omega
theorem cyc_idle : ∀ (d : Nat) (p : Nat → Nat), (∀ i, i < d → p i = i) → cyc d p = d
  | 0, _, _ => rfl
  | d + 1, p, h => by
    have e : cyc d (skip d p) = d := cyc_idle d _ fun i hi => by
      unfold skip
      rw [h i (by omega), if_neg (by omega)]
    simp only [cyc]
    rw [e, if_pos (h d (by omega))]
theorem cyc_pos {d : Nat} {p : Nat → Nat} (hd : 0 < d) (h : Pm d p) : 0 < cyc d p := by
  induction d generalizing p with
  | zero => omega
  | succ d ih =>
    simp only [cyc]
    by_cases z : d = 0
    · subst z
      have := h.lt 0 (by omega)
      rw [if_pos (by omega)]
      omega
    · have := ih (by omega) h.skip
      omega

/-- a move that is not idle, with one swap more that lets one of its places stay, has one cycle more -/
theorem unswap {d : Nat} {p : Nat → Nat} {a : Nat} (h : Pm d p) (ha : a < d) (hne : p a ≠ a) :
    Pm d (fun i => sw a (p a) (p i)) ∧ cyc d (fun i => sw a (p a) (p i)) = cyc d p + 1 := by
  have hb := h.lt a ha
  have h2 : Pm d (fun i => sw a (p a) (p i)) := h.comp (pm_sw ha hb)
  refine ⟨h2, ?_⟩
  have fix : sw a (p a) (p a) = a := by have := sw_cases a (p a) (p a); omega
  have sep : Sep d (fun i => sw a (p a) (p i)) a (p a) := by
    refine ⟨fun i => if i = a then 1 else 0, fun i hi => ?_, ?_⟩
    · show (if sw a (p a) (p i) = a then 1 else 0) = if i = a then 1 else 0
      by_cases z : i = a
      · rw [if_pos z, if_pos (by rw [z]; exact fix)]
      · rw [if_neg z, if_neg fun y => z (h2.inj i a hi ha (by show sw a (p a) (p i) = sw a (p a) (p a); rw [y, fix]))]
    · show (if a = a then 1 else 0) ≠ if p a = a then 1 else 0
      rw [if_pos rfl, if_neg hne]
      omega
  have e : cyc d (fun i => sw a (p a) (sw a (p a) (p i))) = cyc d p := cyc_congr _ _ _ fun i _ => sw_sw _ _ _
  rcases swap_step d _ a (p a) h2 ha hb (fun z => hne z.symm) with ⟨h3, h4⟩ | ⟨h3, h4⟩
  · exact absurd sep h4
  · omega
end Gm

/-! MathB: the least swaps of a row that joins all places; moves carried. -/
namespace Gm

/-- how many places name themselves -/
def kk : Nat → (Nat → Nat) → Nat
  | 0, _ => 0
  | d + 1, f => kk d f + if f d = d then 1 else 0
theorem kk_succ (d : Nat) (f : Nat → Nat) : kk (d + 1) f = kk d f + if f d = d then 1 else 0 := rfl
theorem kk_id : ∀ d, kk d (fun i => i) = d
  | 0 => rfl
  | d + 1 => by rw [kk_succ, kk_id d, if_pos rfl]
theorem kk_congr : ∀ (d : Nat) (f g : Nat → Nat), (∀ i, i < d → (f i = i ↔ g i = i)) → kk d f = kk d g
  | 0, _, _, _ => rfl
  | d + 1, f, g, h => by
    rw [kk_succ, kk_succ, kk_congr d f g fun i hi => h i (by omega)]
    have := h d (by omega)
    by_cases z : f d = d
    · rw [if_pos z, if_pos (this.mp z)]
    · rw [if_neg z, if_neg fun y => z (this.mpr y)]
theorem kk_less : ∀ (d : Nat) (f g : Nat → Nat) (y : Nat), y < d → f y = y → g y ≠ y → (∀ i, i < d → i ≠ y → (f i = i ↔ g i = i)) → kk d g + 1 = kk d f
  | 0, _, _, y, hy, _, _, _ => by omega
  | d + 1, f, g, y, hy, e, ne, h => by
    rw [kk_succ, kk_succ]
    by_cases z : y = d
    · subst z
      rw [if_pos e, if_neg ne, kk_congr y f g fun i hi => h i (by omega) (by omega)]
    · have ih := kk_less d f g y (by omega) e ne fun i hi => h i (by omega)
      have := h d (by omega) (fun x => z x.symm)
      by_cases w : f d = d
      · rw [if_pos w, if_pos (this.mp w)]
        omega
      · rw [if_neg w, if_neg fun x => w (this.mpr x)]
        omega
theorem kk_one {d : Nat} {f : Nat → Nat} (h : ∀ i, i < d → f i = 0) (hd : 0 < d) : kk d f = 1 := by
  have e : ∀ n, n < d → kk (n + 1) f = 1 := by
    intro n
    induction n with
    | zero =>
      intro hn
      rw [kk_succ, if_pos (h 0 hn)]
      rfl
    | succ n ih =>
      intro hn
      rw [kk_succ, ih (by omega), h (n + 1) hn, if_neg (by omega)]
  have := e (d - 1) (by omega)
  rw [show d - 1 + 1 = d by omega] at this
  exact this

/-- n swaps done, p their product, f names the lots of places joined so far -/
structure Ok (d n : Nat) (p f : Nat → Nat) : Prop where
  pm : Pm d p
  le : ∀ i, i < d → f i ≤ i
  idem : ∀ i, i < d → f (f i) = f i
  inv : Inv d p f
  ineq : d + cyc d p ≤ n + 2 * kk d f
  par : (n + d + cyc d p) % 2 = 0
theorem Ok.congr {d n : Nat} {p q f : Nat → Nat} (h : Ok d n p f) (e : ∀ i, i < d → p i = q i) : Ok d n q f :=
  ⟨h.pm.congr e, h.le, h.idem, fun i hi => by rw [← e i hi]; exact h.inv i hi, by rw [← cyc_congr d p q e]; exact h.ineq, by rw [← cyc_congr d p q e]; exact h.par⟩
theorem Ok.begin (d : Nat) : Ok d 0 (fun i => i) (fun i => i) := by
  have c : cyc d (fun i => i) = d := cyc_idle d _ fun _ _ => rfl
  refine ⟨⟨fun _ h => h, fun _ _ _ _ h => h⟩, fun _ _ => Nat.le_refl _, fun _ _ => rfl, fun _ _ => rfl, ?_, ?_⟩
  · rw [c, kk_id]
    omega
  · rw [c]
    omega
/-- what f does not tell apart f' does not -/
def Coarse (d : Nat) (f f' : Nat → Nat) : Prop := ∀ i j, i < d → j < d → f i = f j → f' i = f' j
theorem Coarse.trans {d : Nat} {f g h : Nat → Nat} (a : Coarse d f g) (b : Coarse d g h) : Coarse d f h := fun i j hi hj e => b i j hi hj (a i j hi hj e)
theorem Coarse.inv {d : Nat} {f g m : Nat → Nat} (a : Coarse d f g) (hm : Pm d m) (h : Inv d m f) : Inv d m g := fun i hi => a _ _ (hm.lt i hi) hi (h i hi)

theorem Ok.swap {d n : Nat} {p f : Nat → Nat} {a b : Nat} (h : Ok d n p f) (ha : a < d) (hb : b < d) (hab : a ≠ b) :
    ∃ f', Ok d (n + 1) (fun i => sw a b (p i)) f' ∧ Coarse d f f' ∧ f' a = f' b := by
  have st := swap_step d p a b h.pm ha hb hab
  have pm := h.pm.comp (pm_sw ha hb)
  have hi := h.ineq
  have hp := h.par
  by_cases e : f a = f b
  · refine ⟨f, ⟨pm, h.le, h.idem, fun i hi => ?_, ?_, ?_⟩, fun _ _ _ _ x => x, e⟩
    · have c := sw_cases a b (p i)
      have v := h.inv i hi
      rcases c with ⟨c1, c2⟩ | ⟨_, c1, c2⟩ | ⟨_, _, c2⟩
      · show f (sw a b (p i)) = f i
        rw [c2, ← e, ← c1, v]
      · show f (sw a b (p i)) = f i
        rw [c2, e, ← c1, v]
      · show f (sw a b (p i)) = f i
        rw [c2, v]
    · rcases st with ⟨s, _⟩ | ⟨s, _⟩ <;> omega
    · rcases st with ⟨s, _⟩ | ⟨s, _⟩ <;> omega
  · have st' : cyc d (fun i => sw a b (p i)) + 1 = cyc d p := by
      rcases st with ⟨_, s⟩ | ⟨s, _⟩
      · exact absurd ⟨f, h.inv, e⟩ s
      · exact s
    -- the greater name gives way
    have main : ∀ x y : Nat, x < y → y < d → f x = x → f y = y → (∀ i, (i = a ∨ i = b) → (f i = x ∨ f i = y)) → ∃ f', Ok d (n + 1) (fun i => sw a b (p i)) f' ∧ Coarse d f f' ∧ f' a = f' b := by
      intro x y hxy hy fx fy hab2
      have cs : ∀ i, (f i = y ∧ (if f i = y then x else f i) = x) ∨ (f i ≠ y ∧ (if f i = y then x else f i) = f i) := fun i => by
        by_cases z : f i = y
        · exact .inl ⟨z, if_pos z⟩
        · exact .inr ⟨z, if_neg z⟩
      have k : kk d (fun i => if f i = y then x else f i) + 1 = kk d f := by
        refine kk_less d f _ y hy fy ?_ fun i hi ne => ?_
        · have := cs y
          show (if f y = y then x else f y) ≠ y
          omega
        · have := cs i
          have := h.le i hi
          show f i = i ↔ (if f i = y then x else f i) = i
          constructor
          · intro z
            omega
          · intro z
            rcases cs i with ⟨c1, c2⟩ | ⟨c1, c2⟩
            · have ei : i = x := by omega
              rw [ei]
              exact fx
            · omega
      have same : (fun i => if f i = y then x else f i) a = (fun i => if f i = y then x else f i) b := by
        show (if f a = y then x else f a) = (if f b = y then x else f b)
        have h1 := hab2 a (.inl rfl)
        have h2 := hab2 b (.inr rfl)
        have h3 := cs a
        have h4 := cs b
        omega
      refine ⟨fun i => if f i = y then x else f i, ⟨pm, fun i hi => ?_, fun i hi => ?_, fun i hi => ?_, ?_, ?_⟩, fun i j hi hj z => ?_, same⟩
      · have := cs i
        have := h.le i hi
        show (if f i = y then x else f i) ≤ i
        omega
      · show (if f (if f i = y then x else f i) = y then x else f (if f i = y then x else f i)) = (if f i = y then x else f i)
        rcases cs i with ⟨c1, c2⟩ | ⟨c1, c2⟩
        · rw [c2, fx, if_neg (by omega)]
        · rw [c2, h.idem i hi, if_neg c1]
      · show (if f (sw a b (p i)) = y then x else f (sw a b (p i))) = (if f i = y then x else f i)
        have v := h.inv i hi
        rcases sw_cases a b (p i) with ⟨c1, c2⟩ | ⟨_, c1, c2⟩ | ⟨_, _, c2⟩
        · rw [c2, ← v, c1]
          exact same.symm
        · rw [c2, ← v, c1]
          exact same
        · rw [c2, v]
      · omega
      · omega
      · show (if f i = y then x else f i) = (if f j = y then x else f j)
        rw [z]
    have la := h.le a ha
    have lb := h.le b hb
    have ia := h.idem a ha
    have ib := h.idem b hb
    rcases Nat.lt_or_gt_of_ne e with hlt | hlt
    · exact main (f a) (f b) hlt (by omega) ia ib fun i hi => by rcases hi with rfl | rfl; exact .inl rfl; exact .inr rfl
    · exact main (f b) (f a) hlt (by omega) ib ia fun i hi => by rcases hi with rfl | rfl; exact .inr rfl; exact .inl rfl

/-- the least swaps of a move -/
def lst (d : Nat) (m : Nat → Nat) : Nat := d - cyc d m

theorem Ok.move : ∀ (l : Nat) {d n : Nat} {p f m : Nat → Nat}, lst d m = l → Ok d n p f → Pm d m →
    ∃ f', Ok d (n + l) (fun i => m (p i)) f' ∧ Coarse d f f' ∧ Inv d m f'
  | 0, d, n, p, f, m, hl, h, hm => by
    unfold lst at hl
    have le := cyc_le d m
    have idm := cyc_full d m (by omega)
    exact ⟨f, h.congr fun i hi => (idm _ (h.pm.lt i hi)).symm, fun _ _ _ _ e => e, fun i hi => by rw [idm i hi]⟩
  | l + 1, d, n, p, f, m, hl, h, hm => by
    obtain ⟨a, ha, hne⟩ : ∃ a, a < d ∧ m a ≠ a := by
      refine Classical.byContradiction fun no => ?_
      have : cyc d m = d := cyc_idle d m fun i hi => Classical.byContradiction fun z => no ⟨i, hi, z⟩
      unfold lst at hl
      omega
    have hb := hm.lt a ha
    obtain ⟨u1, u2⟩ := unswap hm ha hne
    have le := cyc_le d (fun i => sw a (m a) (m i))
    obtain ⟨f1, o1, c1, i1⟩ := Ok.move l (m := fun i => sw a (m a) (m i)) (by unfold lst at hl ⊢; omega) h u1
    obtain ⟨f2, o2, c2, e2⟩ := o1.swap ha hb (fun z => hne z.symm)
    refine ⟨f2, o2.congr fun i hi => sw_sw _ _ _, c1.trans c2, fun i hi => ?_⟩
    have v := c2.inv u1 i1 i hi
    have v : f2 (sw a (m a) (m i)) = f2 i := v
    rcases sw_cases a (m a) (m i) with ⟨k1, k2⟩ | ⟨_, k1, k2⟩ | ⟨_, _, k2⟩
    · rw [k2] at v
      rw [k1, e2]
      exact v
    · rw [k2] at v
      rw [k1, ← e2]
      exact v
    · rw [k2] at v
      exact v

/-- the product of moves, done from left to right -/
def prodF : List (Nat → Nat) → (Nat → Nat) → (Nat → Nat)
  | [], p => p
  | m :: ms, p => prodF ms (fun i => m (p i))
def lstF (d : Nat) : List (Nat → Nat) → Nat
  | [] => 0
  | m :: ms => lst d m + lstF d ms
/-- the moves join all places: what no move tells apart is one -/
def Join (d : Nat) (ms : List (Nat → Nat)) : Prop := ∀ f : Nat → Nat, (∀ m ∈ ms, Inv d m f) → ∀ i, i < d → f i = f 0

theorem Ok.moves : ∀ (ms : List (Nat → Nat)) {d n : Nat} {p f : Nat → Nat}, Ok d n p f → (∀ m ∈ ms, Pm d m) →
    ∃ f', Ok d (n + lstF d ms) (prodF ms p) f' ∧ Coarse d f f' ∧ ∀ m ∈ ms, Inv d m f'
  | [], d, n, p, f, h, _ => ⟨f, h, fun _ _ _ _ e => e, fun m hm => absurd hm (by simp)⟩
  | m :: ms, d, n, p, f, h, hm => by
    have pm := hm m (by simp)
    obtain ⟨f1, o1, c1, i1⟩ := Ok.move (lst d m) rfl h pm
    obtain ⟨f2, o2, c2, i2⟩ := Ok.moves ms o1 fun x hx => hm x (by simp [hx])
    refine ⟨f2, ?_, c1.trans c2, fun x hx => ?_⟩
    · have e : n + lstF d (m :: ms) = n + lst d m + lstF d ms := by
        show n + (lst d m + lstF d ms) = _
        omega
      rw [e]
      exact o2
    · rcases List.mem_cons.mp hx with rfl | hx
      · exact c2.inv pm i1
      · exact i2 x hx

/-- THE LEAST SWAPS of a row that joins all places -/
theorem genus_right {d : Nat} {ms : List (Nat → Nat)} (hd : 0 < d) (hm : ∀ m ∈ ms, Pm d m) (hj : Join d ms) :
    d + cyc d (prodF ms fun i => i) ≤ lstF d ms + 2 ∧ (lstF d ms + d + cyc d (prodF ms fun i => i)) % 2 = 0 := by
  obtain ⟨f, o, _, i⟩ := Ok.moves ms (Ok.begin d) hm
  have j := hj f i
  have f0 : f 0 = 0 := by have := o.le 0 hd; omega
  have k := kk_one (f := f) (fun i hi => by rw [j i hi, f0]) hd
  have h1 := o.ineq
  have h2 := o.par
  rw [k] at h1
  rw [Nat.zero_add] at h1 h2
  exact ⟨h1, h2⟩

/-! ### moves carried -/
theorem cyc_sw_conj {d : Nat} {m : Nat → Nat} {a b : Nat} (h : Pm d m) (ha : a < d) (hb : b < d) (hab : a ≠ b) :
    cyc d (fun i => sw a b (m (sw a b i))) = cyc d m := by
  have hma := h.lt a ha
  have hmb := h.lt b hb
  have nm : m a ≠ m b := fun z => hab (h.inj a b ha hb z)
  -- q = m behind the swap = the swap of the goals behind m
  have q1 : ∀ i, i < d → m (sw a b i) = sw (m a) (m b) (m i) := fun i hi => by
    have c2 := sw_cases (m a) (m b) (m i)
    rcases sw_cases a b i with ⟨c, e⟩ | ⟨_, c, e⟩ | ⟨n1, n2, e⟩
    · rw [e, c]
      have := sw_cases (m a) (m b) (m a)
      omega
    · rw [e, c]
      have := sw_cases (m a) (m b) (m b)
      omega
    · rw [e]
      have k1 : m i ≠ m a := fun z => n1 (h.inj i a hi ha z)
      have k2 : m i ≠ m b := fun z => n2 (h.inj i b hi hb z)
      omega
  have pq : Pm d (fun i => m (sw a b i)) := (pm_sw ha hb).comp h
  have s1 := swap_step d m (m a) (m b) h hma hmb nm
  have e1 : cyc d (fun i => sw (m a) (m b) (m i)) = cyc d (fun i => m (sw a b i)) := cyc_congr _ _ _ fun i hi => (q1 i hi).symm
  rw [e1] at s1
  have s2 := swap_step d (fun i => m (sw a b i)) (m a) (m b) pq hma hmb nm
  have e2 : cyc d (fun i => sw (m a) (m b) (m (sw a b i))) = cyc d m := cyc_congr _ _ _ fun i hi => by
    show sw (m a) (m b) (m (sw a b i)) = m i
    rw [q1 i hi, sw_sw]
  rw [e2] at s2
  have s3 := swap_step d (fun i => m (sw a b i)) a b pq ha hb hab
  have es : Sep d (fun i => m (sw a b i)) (m a) (m b) ↔ Sep d (fun i => m (sw a b i)) a b := by
    have va : ∀ g, Inv d (fun i => m (sw a b i)) g → g (m a) = g b := fun g hg => by
      have := hg b hb
      have e : sw a b b = a := by have := sw_cases a b b; omega
      show g (m a) = g b
      rw [← this]
      show g (m a) = g (m (sw a b b))
      rw [e]
    have vb : ∀ g, Inv d (fun i => m (sw a b i)) g → g (m b) = g a := fun g hg => by
      have := hg a ha
      have e : sw a b a = b := by have := sw_cases a b a; omega
      rw [← this]
      show g (m b) = g (m (sw a b a))
      rw [e]
    constructor
    · rintro ⟨g, hg, ne⟩
      exact ⟨g, hg, fun z => ne (by rw [va g hg, vb g hg, z])⟩
    · rintro ⟨g, hg, ne⟩
      exact ⟨g, hg, fun z => ne (by rw [va g hg, vb g hg] at z; exact z.symm)⟩
  rw [es] at s2
  rcases s1 with ⟨a1, _⟩ | ⟨a1, _⟩ <;> rcases s2 with ⟨a2, b2⟩ | ⟨a2, b2⟩ <;> rcases s3 with ⟨a3, b3⟩ | ⟨a3, b3⟩
  · omega
  · omega
  · exact absurd b2 b3
  · omega
  · omega
  · exact absurd b3 b2
  · omega
  · omega

/-- r is m carried by g -/
def Car (d : Nat) (g m r : Nat → Nat) : Prop := ∀ i, i < d → r (g i) = g (m i)
theorem cyc_car : ∀ (l : Nat) {d : Nat} {g m r : Nat → Nat}, lst d g = l → Pm d g → Pm d m → Pm d r → Car d g m r → cyc d r = cyc d m
  | 0, d, g, m, r, hl, hg, hm, hr, h => by
    unfold lst at hl
    have le := cyc_le d g
    have idm := cyc_full d g (by omega)
    refine cyc_congr d r m fun i hi => ?_
    have := h i hi
    rw [idm i hi, idm _ (hm.lt i hi)] at this
    exact this
  | l + 1, d, g, m, r, hl, hg, hm, hr, h => by
    obtain ⟨a, ha, hne⟩ : ∃ a, a < d ∧ g a ≠ a := by
      refine Classical.byContradiction fun no => ?_
      have : cyc d g = d := cyc_idle d g fun i hi => Classical.byContradiction fun z => no ⟨i, hi, z⟩
      unfold lst at hl
      omega
    have hb := hg.lt a ha
    obtain ⟨u1, u2⟩ := unswap hg ha hne
    have le := cyc_le d (fun i => sw a (g a) (g i))
    have ps := pm_sw ha hb
    rw [← cyc_sw_conj hr ha hb (fun z => hne z.symm)]
    refine cyc_car l (g := fun i => sw a (g a) (g i)) (by unfold lst at hl ⊢; omega) u1 hm ((ps.comp hr).comp ps) fun i hi => ?_
    show sw a (g a) (r (sw a (g a) (sw a (g a) (g i)))) = sw a (g a) (g (m i))
    rw [sw_sw, h i hi]

/-- rows of moves, each of one carried to that of the other -/
def Cars (d : Nat) (g : Nat → Nat) : List (Nat → Nat) → List (Nat → Nat) → Prop
  | [], [] => True
  | m :: ms, r :: rs => Car d g m r ∧ Cars d g ms rs
  | _, _ => False
theorem lstF_car {d : Nat} {g : Nat → Nat} (hg : Pm d g) : ∀ (ms rs : List (Nat → Nat)), (∀ m ∈ ms, Pm d m) → (∀ r ∈ rs, Pm d r) → Cars d g ms rs → lstF d rs = lstF d ms
  | [], [], _, _, _ => rfl
  | m :: ms, r :: rs, hm, hr, h => by
    have e := cyc_car _ rfl hg (hm m (by simp)) (hr r (by simp)) h.1
    have ih := lstF_car hg ms rs (fun x hx => hm x (by simp [hx])) (fun x hx => hr x (by simp [hx])) h.2
    show (d - cyc d r) + lstF d rs = (d - cyc d m) + lstF d ms
    rw [e, ih]
  | [], _ :: _, _, _, h => h.elim
  | _ :: _, [], _, _, h => h.elim
theorem prodF_car {d : Nat} {g : Nat → Nat} : ∀ (ms rs : List (Nat → Nat)) (p q : Nat → Nat), (∀ m ∈ ms, Pm d m) → Pm d p → Cars d g ms rs → Car d g p q → Car d g (prodF ms p) (prodF rs q)
  | [], [], _, _, _, _, _, h => h
  | m :: ms, r :: rs, p, q, hm, hp, h, k => by
    refine prodF_car ms rs _ _ (fun x hx => hm x (by simp [hx])) (hp.comp (hm m (by simp))) h.2 fun i hi => ?_
    show r (q (g i)) = g (m (p i))
    rw [k i hi, h.1 _ (hp.lt i hi)]
  | [], _ :: _, _, _, _, _, h, _ => h.elim
  | _ :: _, [], _, _, _, _, h, _ => h.elim
theorem pm_prodF {d : Nat} : ∀ (ms : List (Nat → Nat)) (p : Nat → Nat), (∀ m ∈ ms, Pm d m) → Pm d p → Pm d (prodF ms p)
  | [], _, _, h => h
  | m :: ms, p, hm, h => pm_prodF ms _ (fun x hx => hm x (by simp [hx])) (h.comp (hm m (by simp)))
theorem cars_mem {d : Nat} {g : Nat → Nat} : ∀ (ms rs : List (Nat → Nat)), Cars d g ms rs → ∀ m ∈ ms, ∃ r ∈ rs, Car d g m r
  | [], [], _, m, hm => absurd hm (by simp)
  | m :: ms, r :: rs, h, x, hx => by
    rcases List.mem_cons.mp hx with rfl | hx
    · exact ⟨r, by simp, h.1⟩
    · obtain ⟨y, hy, e⟩ := cars_mem ms rs h.2 x hx
      exact ⟨y, by simp [hy], e⟩
  | [], _ :: _, h, _, _ => h.elim
  | _ :: _, [], h, _, _ => h.elim
theorem join_car {d : Nat} {g : Nat → Nat} {ms rs : List (Nat → Nat)} (hg : Pm d g) (hm : ∀ m ∈ ms, Pm d m) (h : Cars d g ms rs) (j : Join d ms) : Join d rs := by
  intro f hf i hi
  have k := j (fun i => f (g i)) fun m hx => by
    obtain ⟨r, hr, c⟩ := cars_mem ms rs h m hx
    intro i hi
    show f (g (m i)) = f (g i)
    rw [← c i hi]
    exact hf r hr _ (hg.lt i hi)
  have all : ∀ x, x < d → f x = f (g 0) := fun x hx => by
    obtain ⟨y, hy, e⟩ := hg.surj x hx
    rw [← e]
    exact k y hy
  rw [all i hi, all 0 (by omega)]
/-- the way back -/
theorem Pm.back {d : Nat} {g : Nat → Nat} (hg : Pm d g) : ∃ g', Pm d g' ∧ (∀ i, i < d → g' (g i) = i) ∧ ∀ i, i < d → g (g' i) = i := by
  have ch : ∀ x, ∃ i, x < d → i < d ∧ g i = x := fun x => by
    by_cases hx : x < d
    · obtain ⟨i, h⟩ := hg.surj x hx
      exact ⟨i, fun _ => h⟩
    · exact ⟨0, fun h => absurd h hx⟩
  refine ⟨fun x => (ch x).choose, ?_, ?_, ?_⟩
  · refine ⟨fun i hi => ((ch i).choose_spec hi).1, fun i j hi hj e => ?_⟩
    have h1 := ((ch i).choose_spec hi).2
    have h2 := ((ch j).choose_spec hj).2
    rw [← h1, ← h2]
    exact congrArg g e
  · intro i hi
    exact hg.inj _ _ ((ch _).choose_spec (hg.lt i hi)).1 hi ((ch _).choose_spec (hg.lt i hi)).2
  · intro i hi
    exact ((ch i).choose_spec hi).2
theorem cars_back {d : Nat} {g g' : Nat → Nat} (hg' : Pm d g') (e1 : ∀ i, i < d → g' (g i) = i) (e2 : ∀ i, i < d → g (g' i) = i) : ∀ (ms rs : List (Nat → Nat)), (∀ m ∈ ms, Pm d m) → Cars d g ms rs → Cars d g' rs ms
  | [], [], _, h => h
  | m :: ms, r :: rs, hm, h => by
    refine ⟨fun i hi => ?_, cars_back hg' e1 e2 ms rs (fun x hx => hm x (by simp [hx])) h.2⟩
    have c := h.1 _ (hg'.lt i hi)
    rw [e2 i hi] at c
    rw [c, e1 _ ((hm m (by simp)).lt _ (hg'.lt i hi))]
  | [], _ :: _, _, h => h.elim
  | _ :: _, [], _, h => h.elim
theorem join_car_iff {d : Nat} {g : Nat → Nat} {ms rs : List (Nat → Nat)} (hg : Pm d g) (hm : ∀ m ∈ ms, Pm d m) (hr : ∀ r ∈ rs, Pm d r) (h : Cars d g ms rs) : Join d ms ↔ Join d rs := by
  refine ⟨join_car hg hm h, fun j => ?_⟩
  obtain ⟨g', p', e1, e2⟩ := hg.back
  exact join_car p' hr (cars_back p' e1 e2 ms rs hm h) j

/-! ### a row turned by one place -/
theorem prodF_append : ∀ (ms ns : List (Nat → Nat)) (p : Nat → Nat), prodF (ms ++ ns) p = prodF ns (prodF ms p)
  | [], _, _ => rfl
  | m :: ms, ns, p => prodF_append ms ns _
theorem lstF_append (d : Nat) : ∀ (ms ns : List (Nat → Nat)), lstF d (ms ++ ns) = lstF d ms + lstF d ns
  | [], ns => by show lstF d ns = 0 + lstF d ns; omega
  | m :: ms, ns => by
    show lst d m + lstF d (ms ++ ns) = lst d m + lstF d ms + lstF d ns
    rw [lstF_append d ms ns]
    omega
theorem prodF_from : ∀ (ms : List (Nat → Nat)) (p : Nat → Nat) (i : Nat), prodF ms p i = prodF ms (fun j => j) (p i)
  | [], _, _ => rfl
  | m :: ms, p, i => by
    show prodF ms (fun i => m (p i)) i = prodF ms (fun j => m j) (p i)
    rw [prodF_from ms (fun i => m (p i)) i, prodF_from ms (fun j => m j) (p i)]
theorem inv_prodF {d : Nat} {f : Nat → Nat} : ∀ (ms : List (Nat → Nat)) (p : Nat → Nat), (∀ m ∈ ms, Pm d m) → Pm d p → (∀ m ∈ ms, Inv d m f) → Inv d p f → Inv d (prodF ms p) f
  | [], _, _, _, _, h => h
  | m :: ms, p, hm, hp, hi, h => by
    refine inv_prodF ms _ (fun x hx => hm x (by simp [hx])) (hp.comp (hm m (by simp))) (fun x hx => hi x (by simp [hx])) fun i hi' => ?_
    show f (m (p i)) = f i
    rw [hi m (by simp) _ (hp.lt i hi'), h i hi']
/-- back undoes the product of ms and then l; c is l carried by back -/
structure Turned (d : Nat) (ms : List (Nat → Nat)) (l c back : Nat → Nat) : Prop where
  pms : ∀ m ∈ ms, Pm d m
  pl : Pm d l
  pc : Pm d c
  pback : Pm d back
  undo : ∀ i, i < d → back (prodF (ms ++ [l]) (fun j => j) i) = i
  undo' : ∀ i, i < d → prodF (ms ++ [l]) (fun j => j) (back i) = i
  car : Car d back l c
theorem Turned.prod {d : Nat} {ms : List (Nat → Nat)} {l c back : Nat → Nat} (h : Turned d ms l c back) : ∀ i, i < d → prodF (c :: ms) (fun j => j) i = prodF (ms ++ [l]) (fun j => j) i := by
  intro i hi
  have pP : Pm d (prodF (ms ++ [l]) fun j => j) := pm_prodF _ _ (fun x hx => by
    rcases List.mem_append.mp hx with hx | hx
    · exact h.pms x hx
    · rw [List.mem_singleton.mp hx]; exact h.pl) ⟨fun _ h => h, fun _ _ _ _ h => h⟩
  have pM : Pm d (prodF ms fun j => j) := pm_prodF _ _ h.pms ⟨fun _ h => h, fun _ _ _ _ h => h⟩
  -- c i = back (l (P i))
  have hc : c i = back (l (prodF (ms ++ [l]) (fun j => j) i)) := by
    have := h.car _ (pP.lt i hi)
    rw [h.undo i hi] at this
    exact this
  have e1 : prodF (c :: ms) (fun j => j) i = prodF ms (fun j => j) (c i) := prodF_from ms (fun j => c j) i
  have e2 : ∀ j, prodF (ms ++ [l]) (fun j => j) j = l (prodF ms (fun j => j) j) := fun j => by
    rw [prodF_append]
    rfl
  rw [e1]
  have hlP : l (prodF (ms ++ [l]) (fun j => j) i) < d := h.pl.lt _ (pP.lt i hi)
  have u := h.undo' _ hlP
  rw [e2, ← hc] at u
  -- l (M (c i)) = l (P i)
  exact h.pl.inj _ _ (pM.lt _ (h.pc.lt i hi)) (pP.lt i hi) u
theorem Turned.needs {d : Nat} {ms : List (Nat → Nat)} {l c back : Nat → Nat} (h : Turned d ms l c back) : lstF d (c :: ms) = lstF d (ms ++ [l]) := by
  have e := cyc_car _ rfl h.pback h.pl h.pc h.car
  rw [lstF_append]
  show (d - Gm.cyc d c) + lstF d ms = lstF d ms + ((d - Gm.cyc d l) + 0)
  omega
theorem Turned.join {d : Nat} {ms : List (Nat → Nat)} {l c back : Nat → Nat} (h : Turned d ms l c back) : Join d (c :: ms) ↔ Join d (ms ++ [l]) := by
  have pI : Pm d (fun j => j) := ⟨fun _ h => h, fun _ _ _ _ h => h⟩
  have hA : ∀ x ∈ ms ++ [l], Pm d x := fun x hx => by
    rcases List.mem_append.mp hx with hx | hx
    · exact h.pms x hx
    · rw [List.mem_singleton.mp hx]; exact h.pl
  have hB : ∀ x ∈ c :: ms, Pm d x := fun x hx => by
    rcases List.mem_cons.mp hx with rfl | hx
    · exact h.pc
    · exact h.pms x hx
  have pP : Pm d (prodF (ms ++ [l]) fun j => j) := pm_prodF _ _ hA pI
  -- an f that the product keeps is kept by back
  have hb : ∀ f, Inv d (prodF (ms ++ [l]) fun j => j) f → Inv d back f := fun f hf i hi => by
    have := hf _ (h.pback.lt i hi)
    rw [h.undo' i hi] at this
    exact this.symm
  constructor
  · intro j f hf
    refine j f fun m hm => ?_
    rcases List.mem_cons.mp hm with rfl | hm
    · have hP := inv_prodF _ _ hA pI hf (fun _ _ => rfl)
      have hB := hb f hP
      intro i hi
      have e := h.car _ (pP.lt i hi)
      rw [h.undo i hi] at e
      rw [e, hB _ (h.pl.lt _ (pP.lt i hi)), hf l (by simp) _ (pP.lt i hi), hP i hi]
    · exact hf m (by simp [hm])
  · intro j f hf
    refine j f fun m hm => ?_
    rcases List.mem_append.mp hm with hm | hm
    · exact hf m (by simp [hm])
    · rw [List.mem_singleton.mp hm]
      have hP' := inv_prodF _ _ hB pI hf (fun _ _ => rfl)
      have hP : Inv d (prodF (ms ++ [l]) fun j => j) f := fun i hi => by rw [← h.prod i hi]; exact hP' i hi
      have hB := hb f hP
      intro i hi
      have e := h.car i hi
      have e2 := hf c (by simp) _ (h.pback.lt i hi)
      rw [e, hB _ (h.pl.lt i hi), hB i hi] at e2
      exact e2
end Gm

/-! MathC: the cycles of a move, gone through place by place. -/
namespace Gm
/-- T is kept by p, both ways -/
def TI (d : Nat) (p : Nat → Nat) (T : Nat → Prop) : Prop := ∀ x, x < d → (T x ↔ T (p x))
/-- j is the least place of its cycle -/
def Lst (d : Nat) (p : Nat → Nat) (j : Nat) : Prop := ∃ T, TI d p T ∧ T j ∧ ∀ k, k < j → ¬ T k
open Classical in
noncomputable def cntL (d : Nat) (p : Nat → Nat) : Nat → Nat
  | 0 => 0
  | i + 1 => cntL d p i + if Lst d p i then 1 else 0
open Classical in
theorem cntL_yes {d : Nat} {p : Nat → Nat} {i : Nat} (h : Lst d p i) : cntL d p (i + 1) = cntL d p i + 1 := by
  show cntL d p i + (if Lst d p i then 1 else 0) = _
  rw [if_pos h]
open Classical in
theorem cntL_no {d : Nat} {p : Nat → Nat} {i : Nat} (h : ¬ Lst d p i) : cntL d p (i + 1) = cntL d p i := by
  show cntL d p i + (if Lst d p i then 1 else 0) = _
  rw [if_neg h]
  rfl
theorem lst_skip {d : Nat} {p : Nat → Nat} (h : Pm (d + 1) p) {j : Nat} (hj : j < d) : Lst (d + 1) p j ↔ Lst d (skip d p) j := by
  constructor
  · rintro ⟨T, hT, tj, no⟩
    refine ⟨T, fun x hx => ?_, tj, no⟩
    unfold skip
    by_cases z : p x = d
    · rw [if_pos z, ← hT d (by omega), ← z, ← hT x (by omega)]
    · rw [if_neg z, ← hT x (by omega)]
  · rintro ⟨T, hT, tj, no⟩
    refine ⟨fun x => (x ≠ d ∧ T x) ∨ (x = d ∧ p d ≠ d ∧ T (p d)), fun x hx => ?_, .inl ⟨by omega, tj⟩, fun k hk => ?_⟩
    · show ((x ≠ d ∧ T x) ∨ (x = d ∧ p d ≠ d ∧ T (p d))) ↔ ((p x ≠ d ∧ T (p x)) ∨ (p x = d ∧ p d ≠ d ∧ T (p d)))
      by_cases e : x = d
      · subst e
        by_cases z : p x = x
        · rw [z]
        · constructor
          · rintro (q | q)
            · exact absurd rfl q.1
            · exact .inl ⟨q.2.1, q.2.2⟩
          · rintro (q | q)
            · exact .inr ⟨rfl, z, q.2⟩
            · exact absurd q.1 z
      · have hs := hT x (by omega)
        unfold skip at hs
        by_cases z : p x = d
        · rw [if_pos z] at hs
          have pd : p d ≠ d := fun y => e (h.inj x d (by omega) (by omega) (by omega))
          constructor
          · rintro (q | q)
            · exact .inr ⟨z, pd, hs.mp q.2⟩
            · exact absurd q.1 e
          · rintro (q | q)
            · exact absurd z q.1
            · exact .inl ⟨e, hs.mpr q.2.2⟩
        · rw [if_neg z] at hs
          constructor
          · rintro (q | q)
            · exact .inl ⟨z, hs.mp q.2⟩
            · exact absurd q.1 e
          · rintro (q | q)
            · exact .inl ⟨e, hs.mpr q.2⟩
            · exact absurd q.1 z
    · rintro (q | q)
      · exact no k hk q.2
      · omega
theorem lst_last {d : Nat} {p : Nat → Nat} (h : Pm (d + 1) p) : Lst (d + 1) p d ↔ p d = d := by
  constructor
  · rintro ⟨T, hT, td, no⟩
    have t2 := (hT d (by omega)).mp td
    have lt := h.lt d (by omega)
    exact Classical.byContradiction fun z => no (p d) (by omega) t2
  · intro e
    refine ⟨fun x => x = d, fun x hx => ⟨fun z => by rw [z]; exact e, fun z => h.inj x d hx (by omega) (by omega)⟩, rfl, fun k hk z => ?_⟩
    have : k = d := z
    omega
theorem cntL_cyc : ∀ {d : Nat} {p : Nat → Nat}, Pm d p → cntL d p d = cyc d p
  | 0, _, _ => rfl
  | d + 1, p, h => by
    have part : ∀ i, i ≤ d → cntL (d + 1) p i = cntL d (skip d p) i := by
      intro i
      induction i with
      | zero => intro _; rfl
      | succ i ih =>
        intro hi
        have e := ih (by omega)
        by_cases z : Lst (d + 1) p i
        · rw [cntL_yes z, cntL_yes ((lst_skip h (by omega)).mp z), e]
        · rw [cntL_no z, cntL_no fun y => z ((lst_skip h (by omega)).mpr y), e]
    have ih := cntL_cyc h.skip
    rw [cyc_succ, ← ih, ← part d (Nat.le_refl _)]
    by_cases z : p d = d
    · rw [cntL_yes ((lst_last h).mpr z), if_pos z]
    · rw [cntL_no fun y => z ((lst_last h).mp y), if_neg z]
      rfl

/-- the state ahead of place i: S the places met, n the cycles found -/
structure Scan (d : Nat) (p : Nat → Nat) (i : Nat) (S : Nat → Prop) (n : Nat) : Prop where
  inv : TI d p S
  below : ∀ j, j < i → j < d → S j
  reach : ∀ x, x < d → S x → ∀ T, TI d p T → T x → ∃ k, k < i ∧ T k
  count : n = cntL d p i
theorem Scan.begin {d : Nat} {p : Nat → Nat} {S : Nat → Prop} (h : ∀ x, x < d → ¬ S x) (hp : Pm d p) : Scan d p 0 S 0 :=
  ⟨fun x hx => ⟨fun s => absurd s (h x hx), fun s => absurd s (h _ (hp.lt x hx))⟩, fun j hj => by omega, fun x hx s => absurd s (h x hx), rfl⟩
theorem Scan.met {d : Nat} {p : Nat → Nat} {i n : Nat} {S : Nat → Prop} (h : Scan d p i S n) (hi : i < d) (s : S i) : Scan d p (i + 1) S n := by
  refine ⟨h.inv, fun j hj hd => ?_, fun x hx sx T hT tx => ?_, ?_⟩
  · by_cases e : j = i
    · rw [e]; exact s
    · exact h.below j (by omega) hd
  · obtain ⟨k, hk, t⟩ := h.reach x hx sx T hT tx
    exact ⟨k, by omega, t⟩
  · rw [cntL_no, h.count]
    rintro ⟨T, hT, ti, no⟩
    obtain ⟨k, hk, t⟩ := h.reach i hi s T hT ti
    exact no k hk t
theorem Scan.done {d : Nat} {p : Nat → Nat} {n : Nat} {S : Nat → Prop} (h : Scan d p d S n) (hp : Pm d p) : n = cyc d p := by
  rw [h.count, cntL_cyc hp]

/-- p, so many times -/
def it (p : Nat → Nat) : Nat → Nat → Nat
  | 0, i => i
  | s + 1, i => p (it p s i)
theorem it_lt {d : Nat} {p : Nat → Nat} (h : Pm d p) {i : Nat} (hi : i < d) : ∀ s, it p s i < d
  | 0 => hi
  | s + 1 => h.lt _ (it_lt h hi s)
theorem it_inv {d : Nat} {p : Nat → Nat} (h : Pm d p) {i : Nat} (hi : i < d) {T : Nat → Prop} (hT : TI d p T) : ∀ s, T (it p s i) ↔ T i
  | 0 => Iff.rfl
  | s + 1 => (hT _ (it_lt h hi s)).symm.trans (it_inv h hi hT s)
theorem it_fun {d : Nat} {p : Nat → Nat} (h : Pm d p) {i : Nat} (hi : i < d) {f : Nat → Nat} (hf : Inv d p f) : ∀ s, f (it p s i) = f i
  | 0 => rfl
  | s + 1 => (hf _ (it_lt h hi s)).trans (it_fun h hi hf s)
/-- the first r places of the way from i -/
def ring (p : Nat → Nat) (i r : Nat) : List Nat := (List.range r).map fun s => it p s i
theorem ring_succ (p : Nat → Nat) (i r : Nat) : ring p i (r + 1) = ring p i r ++ [it p r i] := by
  unfold ring
  rw [List.range_succ, List.map_append]
  rfl
theorem ring_len (p : Nat → Nat) (i r : Nat) : (ring p i r).length = r := by
  unfold ring
  rw [List.length_map, List.length_range]
theorem mem_ring {p : Nat → Nat} {i r x : Nat} : x ∈ ring p i r ↔ ∃ s, s < r ∧ it p s i = x := by
  unfold ring
  rw [List.mem_map]
  constructor
  · rintro ⟨s, hs, e⟩
    exact ⟨s, List.mem_range.mp hs, e⟩
  · rintro ⟨s, hs, e⟩
    exact ⟨s, List.mem_range.mpr hs, e⟩
theorem nodup_le : ∀ (d : Nat) (l : List Nat), l.Nodup → (∀ x ∈ l, x < d) → l.length ≤ d
  | 0, l, _, h => by
    cases l with
    | nil => exact Nat.le_refl _
    | cons x l => exact absurd (h x (by simp)) (by omega)
  | d + 1, l, nd, h => by
    by_cases hm : d ∈ l
    · have ih := nodup_le d (l.erase d) (nd.erase d) fun x hx => by
        have := (nd.mem_erase_iff).mp hx
        have := h x this.2
        omega
      rw [List.length_erase_of_mem hm] at ih
      omega
    · have ih := nodup_le d l nd fun x hx => by
        have := h x hx
        have : x ≠ d := fun e => hm (e ▸ hx)
        omega
      omega
/-- on the way from i, r places gone, none twice -/
def Way (p : Nat → Nat) (i r : Nat) : Prop := (ring p i r).Nodup
theorem Way.zero (p : Nat → Nat) (i : Nat) : Way p i 0 := List.Pairwise.nil
theorem Way.succ {p : Nat → Nat} {i r : Nat} (h : Way p i r) (n : it p r i ∉ ring p i r) : Way p i (r + 1) := by
  unfold Way
  rw [ring_succ]
  refine List.nodup_append.mpr ⟨h, by simp, fun a ha b hb e => ?_⟩
  rw [List.mem_singleton.mp hb] at e
  exact n (e ▸ ha)
theorem Way.le {d : Nat} {p : Nat → Nat} (hp : Pm d p) {i r : Nat} (hi : i < d) (h : Way p i r) : r ≤ d := by
  have := nodup_le d _ h fun x hx => by
    obtain ⟨s, _, e⟩ := mem_ring.mp hx
    rw [← e]
    exact it_lt hp hi s
  rw [ring_len] at this
  exact this
/-- the way comes back to i, nowhere else -/
theorem Way.closes {d : Nat} {p : Nat → Nat} (hp : Pm d p) {i r : Nat} (hi : i < d) (h : Way p i r) (m : it p r i ∈ ring p i r) : it p r i = i ∧ 0 < r := by
  obtain ⟨s, hs, e⟩ := mem_ring.mp m
  refine ⟨?_, by omega⟩
  cases s with
  | zero => exact e.symm
  | succ s =>
    obtain ⟨r, rfl⟩ : ∃ q, r = q + 1 := ⟨r - 1, by omega⟩
    have e2 : it p s i = it p r i := hp.inj _ _ (it_lt hp hi s) (it_lt hp hi r) e
    unfold Way at h
    rw [ring_succ] at h
    have := (List.nodup_append.mp h).2.2 (it p s i) (mem_ring.mpr ⟨s, by omega, rfl⟩) (it p r i) (by simp)
    exact absurd e2 this
/-- what is known of each cycle found -/
structure Rg (d : Nat) (p : Nat → Nat) (l : List Nat) : Prop where
  ne : l ≠ []
  lt : ∀ x ∈ l, x < d
  next : ∀ x ∈ l, p x ∈ l
  one : ∀ f, Inv d p f → ∀ x ∈ l, ∀ y ∈ l, f x = f y
  len : l.length ≤ d
section
variable {d : Nat} {p : Nat → Nat} {i r n : Nat} {S : Nat → Prop}
theorem Rg.of (hp : Pm d p) (hi : i < d) (h : Way p i r) (m : it p r i ∈ ring p i r) : Rg d p (ring p i r) := by
  obtain ⟨e, h0⟩ := h.closes hp hi m
  refine ⟨fun z => ?_, fun x hx => ?_, fun x hx => ?_, fun f hf x hx y hy => ?_, ?_⟩
  · have := ring_len p i r
    rw [z] at this
    have : r = 0 := this.symm
    omega
  · obtain ⟨s, _, e⟩ := mem_ring.mp hx
    rw [← e]
    exact it_lt hp hi s
  · obtain ⟨s, hs, e2⟩ := mem_ring.mp hx
    rw [← e2]
    by_cases z : s + 1 < r
    · exact mem_ring.mpr ⟨s + 1, z, rfl⟩
    · have : s + 1 = r := by omega
      have e3 : p (it p s i) = it p (s + 1) i := rfl
      rw [e3, this]
      exact m
  · obtain ⟨s, _, e2⟩ := mem_ring.mp hx
    obtain ⟨t, _, e3⟩ := mem_ring.mp hy
    rw [← e2, ← e3, it_fun hp hi hf s, it_fun hp hi hf t]
  · rw [ring_len]
    exact h.le hp hi
theorem Scan.next (h : Scan d p i S n) (hp : Pm d p) (hi : i < d) (ns : ¬ S i) (hw : Way p i r) (m : it p r i ∈ ring p i r) {S' : Nat → Prop} (hS : ∀ x, x < d → (S' x ↔ S x ∨ x ∈ ring p i r)) :
    Scan d p (i + 1) S' (n + 1) := by
  obtain ⟨e, h0⟩ := hw.closes hp hi m
  have rg := Rg.of hp hi hw m
  have back : ∀ x, x < d → p x ∈ ring p i r → x ∈ ring p i r := fun x hx hm => by
    obtain ⟨s, hs, e2⟩ := mem_ring.mp hm
    cases s with
    | zero =>
      obtain ⟨q, rfl⟩ : ∃ q, r = q + 1 := ⟨r - 1, by omega⟩
      have e3 : p x = p (it p q i) := by
        have e4 : p (it p q i) = i := e
        rw [e4, ← e2]
        rfl
      rw [hp.inj _ _ hx (it_lt hp hi q) e3]
      exact mem_ring.mpr ⟨q, by omega, rfl⟩
    | succ s =>
      have e3 : p (it p s i) = p x := e2
      rw [← hp.inj _ _ (it_lt hp hi s) hx e3]
      exact mem_ring.mpr ⟨s, by omega, rfl⟩
  refine ⟨fun x hx => ?_, fun j hj hd => ?_, fun x hx sx T hT tx => ?_, ?_⟩
  · rw [hS x hx, hS _ (hp.lt x hx), ← h.inv x hx]
    constructor
    · rintro (q | q)
      · exact .inl q
      · exact .inr (rg.next x q)
    · rintro (q | q)
      · exact .inl q
      · exact .inr (back x hx q)
  · rw [hS j hd]
    by_cases z : j = i
    · exact .inr (mem_ring.mpr ⟨0, h0, z.symm⟩)
    · exact .inl (h.below j (by omega) hd)
  · rcases (hS x hx).mp sx with q | q
    · obtain ⟨k, hk, t⟩ := h.reach x hx q T hT tx
      exact ⟨k, by omega, t⟩
    · obtain ⟨s, _, e2⟩ := mem_ring.mp q
      rw [← e2] at tx
      exact ⟨i, by omega, (it_inv hp hi hT s).mp tx⟩
  · rw [cntL_yes, h.count]
    refine ⟨fun x => ¬ S x, fun x hx => by show ¬ S x ↔ ¬ S (p x); rw [h.inv x hx], ns, fun k hk z => z (h.below k hk (by omega))⟩
/-- no place of the way is met before -/
theorem Scan.fresh (h : Scan d p i S n) (hp : Pm d p) (hi : i < d) (ns : ¬ S i) (s : Nat) : ¬ S (it p s i) := fun z => ns ((it_inv hp hi h.inv s).mp z)
end
end Gm

/-! MathD: names of places, merged. -/
namespace Gm
/-- the names in S become the least of them -/
def mrg (g : Nat → Nat) (S : List Nat) (l : Nat) : Nat → Nat := fun i => if g i ∈ S then l else g i
/-- names of the places below d: each is a place not behind it, and nothing that keeps to C tells it from its place -/
structure Nm (d : Nat) (C : (Nat → Nat) → Prop) (g : Nat → Nat) : Prop where
  le : ∀ i, i < d → g i ≤ i
  rel : ∀ f, C f → ∀ i, i < d → f (g i) = f i
theorem Nm.begin (d : Nat) (C : (Nat → Nat) → Prop) (g : Nat → Nat) (h : ∀ i, i < d → g i = i) : Nm d C g := ⟨fun i hi => Nat.le_of_eq (h i hi), fun f _ i hi => by rw [h i hi]⟩
/-- X: places that nothing of C tells apart; S: their names; l: the least of these -/
structure Mg (d : Nat) (C : (Nat → Nat) → Prop) (g : Nat → Nat) (X S : List Nat) (l : Nat) : Prop where
  lt : ∀ x ∈ X, x < d
  one : ∀ f, C f → ∀ x ∈ X, ∀ y ∈ X, f x = f y
  nam : ∀ n, n ∈ S ↔ ∃ x ∈ X, g x = n
  mem : l ∈ S
  min : ∀ n ∈ S, l ≤ n
section
variable {d : Nat} {C : (Nat → Nat) → Prop} {g : Nat → Nat} {X S : List Nat} {l : Nat}
theorem Nm.merge (h : Nm d C g) (m : Mg d C g X S l) : Nm d C (mrg g S l) := by
  refine ⟨fun i hi => ?_, fun f hf i hi => ?_⟩
  · unfold mrg
    have a := h.le i hi
    by_cases z : g i ∈ S
    · rw [if_pos z]
      have := m.min _ z
      omega
    · rw [if_neg z]
      exact a
  · unfold mrg
    by_cases z : g i ∈ S
    · rw [if_pos z]
      obtain ⟨x, hx, ex⟩ := (m.nam _).mp z
      obtain ⟨y, hy, ey⟩ := (m.nam _).mp m.mem
      have e1 := h.rel f hf x (m.lt x hx)
      have e2 := h.rel f hf y (m.lt y hy)
      have e3 := h.rel f hf i hi
      rw [← ey, e2, m.one f hf y hy x hx, ← e1, ex, e3]
    · rw [if_neg z]
      exact h.rel f hf i hi
theorem mrg_keep {i j : Nat} (e : g i = g j) : mrg g S l i = mrg g S l j := by
  unfold mrg
  rw [e]
theorem Mg.same (m : Mg d C g X S l) : ∀ x ∈ X, ∀ y ∈ X, mrg g S l x = mrg g S l y := fun x hx y hy => by
  unfold mrg
  rw [if_pos ((m.nam _).mpr ⟨x, hx, rfl⟩), if_pos ((m.nam _).mpr ⟨y, hy, rfl⟩)]
/-- at the end: all names 0, or not all places joined -/
theorem Nm.done {ms : List (Nat → Nat)} (hd : 0 < d) (h : Nm d (fun f => ∀ m ∈ ms, Inv d m f) g) (k : ∀ m ∈ ms, Inv d m g) : (∀ i, i < d → g i = 0) ↔ Join d ms := by
  constructor
  · intro z f hf i hi
    have := h.rel f hf i hi
    rw [z i hi] at this
    exact this.symm
  · intro j i hi
    have := j g k i hi
    have := h.le 0 hd
    omega
end
end Gm

/-! Txt: the defs of the text by their places, their names by slot. -/
namespace Gn
open PySem PySem.Spec PyProof.Rows L2
def tp (i : Nat) : Stmt := PySem.Challenge.pw_swapsheets_k76_whole_genus_of_rows_of_mo.main.body.getD i (.Pass ⟨0, 0, 0, 0⟩)
abbrev sWhole : Stmt := tp 5
abbrev nWhole : List Str := ["value"]
theorem scWhole : FnScope nWhole ["value"] (defScope sWhole) := ⟨rfl, rfl, rfl, by decide +kernel, rfl, by decide +kernel, by decide +kernel⟩
abbrev sInteger : Stmt := tp 6
abbrev nInteger : List Str := ["value"]
theorem scInteger : FnScope nInteger ["value"] (defScope sInteger) := ⟨rfl, rfl, rfl, by decide +kernel, rfl, by decide +kernel, by decide +kernel⟩
abbrev sIdle : Stmt := tp 9
abbrev nIdle : List Str := ["size"]
theorem scIdle : FnScope nIdle ["size"] (defScope sIdle) := ⟨rfl, rfl, rfl, by decide +kernel, rfl, by decide +kernel, by decide +kernel⟩
abbrev sBehind : Stmt := tp 10
abbrev nBehind : List Str := ["one", "other", "place"]
theorem scBehind : FnScope nBehind ["one", "other"] (defScope sBehind) := ⟨rfl, rfl, rfl, by decide +kernel, rfl, by decide +kernel, by decide +kernel⟩
abbrev sCycles : Stmt := tp 11
abbrev nCycles : List Str := ["move", "met", "found", "place", "round_here", "here"]
theorem scCycles : FnScope nCycles ["move"] (defScope sCycles) := ⟨rfl, rfl, rfl, by decide +kernel, rfl, by decide +kernel, by decide +kernel⟩
abbrev sLeast : Stmt := tp 12
abbrev nLeast : List Str := ["move"]
theorem scLeast : FnScope nLeast ["move"] (defScope sLeast) := ⟨rfl, rfl, rfl, by decide +kernel, rfl, by decide +kernel, by decide +kernel⟩
abbrev sMoveIn : Stmt := tp 13
abbrev nMoveIn : List Str := ["size", "value", "one"]
theorem scMoveIn : FnScope nMoveIn ["size", "value"] (defScope sMoveIn) := ⟨rfl, rfl, rfl, by decide +kernel, rfl, by decide +kernel, by decide +kernel⟩
abbrev sIsMove : Stmt := tp 14
abbrev nIsMove : List Str := ["value"]
theorem scIsMove : FnScope nIsMove ["value"] (defScope sIsMove) := ⟨rfl, rfl, rfl, by decide +kernel, rfl, by decide +kernel, by decide +kernel⟩
abbrev sProd : Stmt := tp 17
abbrev nProd : List Str := ["size", "some", "found", "move"]
theorem scProd : FnScope nProd ["size", "some"] (defScope sProd) := ⟨rfl, rfl, rfl, by decide +kernel, rfl, by decide +kernel, by decide +kernel⟩
abbrev sJoin : Stmt := tp 18
abbrev nJoin : List Str := ["size", "some", "names", "move", "ring", "met", "least", "place", "name"]
theorem scJoin : FnScope nJoin ["size", "some"] (defScope sJoin) := ⟨rfl, rfl, rfl, by decide +kernel, rfl, by decide +kernel, by decide +kernel⟩
abbrev sGenIn : Stmt := tp 19
abbrev nGenIn : List Str := ["size", "some", "members", "move"]
theorem scGenIn : FnScope nGenIn ["size", "some"] (defScope sGenIn) := ⟨rfl, rfl, rfl, by decide +kernel, rfl, by decide +kernel, by decide +kernel⟩
abbrev sGenus : Stmt := tp 20
abbrev nGenus : List Str := ["moves", "one"]
theorem scGenus : FnScope nGenus ["moves"] (defScope sGenus) := ⟨rfl, rfl, rfl, by decide +kernel, rfl, by decide +kernel, by decide +kernel⟩
abbrev sDice : Stmt := tp 22
abbrev nDice : List Str := ["_law_script", "_law_spot", "_law_cell", "_law_left"]
theorem scDice : FnScope nDice ["_law_script", "_law_spot"] (defScope sDice) := ⟨rfl, rfl, rfl, by decide +kernel, rfl, by decide +kernel, by decide +kernel⟩
abbrev sRoll : Stmt := tp 23
abbrev nRoll : List Str := ["_law_dice_here", "_law_total", "_law_found", "_law_one", "_law_two"]
theorem scRoll : FnScope nRoll ["_law_dice_here", "_law_total"] (defScope sRoll) := ⟨rfl, rfl, rfl, by decide +kernel, rfl, by decide +kernel, by decide +kernel⟩
abbrev sShuf : Stmt := tp 24
abbrev nShuf : List Str := ["_law_dice_here", "_law_items", "_law_left", "_law_found", "_law_turn"]
theorem scShuf : FnScope nShuf ["_law_dice_here", "_law_items"] (defScope sShuf) := ⟨rfl, rfl, rfl, by decide +kernel, rfl, by decide +kernel, by decide +kernel⟩
abbrev sLotOf : Stmt := tp 25
abbrev nLotOf : List Str := ["_law_members"]
theorem scLotOf : FnScope nLotOf ["_law_members"] (defScope sLotOf) := ⟨rfl, rfl, rfl, by decide +kernel, rfl, by decide +kernel, by decide +kernel⟩
abbrev sLBehind : Stmt := tp 26
abbrev nLBehind : List Str := ["_law_one", "_law_other", "_law_place"]
theorem scLBehind : FnScope nLBehind ["_law_one", "_law_other"] (defScope sLBehind) := ⟨rfl, rfl, rfl, by decide +kernel, rfl, by decide +kernel, by decide +kernel⟩
abbrev sUndone : Stmt := tp 27
abbrev nUndone : List Str := ["_law_move", "_law_place"]
theorem scUndone : FnScope nUndone ["_law_move"] (defScope sUndone) := ⟨rfl, rfl, rfl, by decide +kernel, rfl, by decide +kernel, by decide +kernel⟩
abbrev sKind : Stmt := tp 28
abbrev nKind : List Str := ["_law_move", "_law_found", "_law_met", "_law_start", "_law_many", "_law_place"]
theorem scKind : FnScope nKind ["_law_move"] (defScope sKind) := ⟨rfl, rfl, rfl, by decide +kernel, rfl, by decide +kernel, by decide +kernel⟩
abbrev sDrawn : Stmt := tp 29
abbrev nDrawn : List Str := ["_law_dice_here", "_law_size"]
theorem scDrawn : FnScope nDrawn ["_law_dice_here", "_law_size"] (defScope sDrawn) := ⟨rfl, rfl, rfl, by decide +kernel, rfl, by decide +kernel, by decide +kernel⟩
abbrev sLJoin : Stmt := tp 30
abbrev nLJoin : List Str := ["_law_size", "_law_moves", "_law_names", "_law_move", "_law_place", "_law_goal", "_law_one", "_law_other", "_law_name"]
theorem scLJoin : FnScope nLJoin ["_law_size", "_law_moves"] (defScope sLJoin) := ⟨rfl, rfl, rfl, by decide +kernel, rfl, by decide +kernel, by decide +kernel⟩
abbrev sLProd : Stmt := tp 31
abbrev nLProd : List Str := ["_law_size", "_law_row", "_law_found", "_law_move"]
theorem scLProd : FnScope nLProd ["_law_size", "_law_row"] (defScope sLProd) := ⟨rfl, rfl, rfl, by decide +kernel, rfl, by decide +kernel, by decide +kernel⟩
abbrev sLLeast : Stmt := tp 32
abbrev nLLeast : List Str := ["_law_move"]
theorem scLLeast : FnScope nLLeast ["_law_move"] (defScope sLLeast) := ⟨rfl, rfl, rfl, by decide +kernel, rfl, by decide +kernel, by decide +kernel⟩
abbrev sLGenus : Stmt := tp 33
abbrev nLGenus : List Str := ["_law_size", "_law_row", "_law_needs", "_law_move"]
theorem scLGenus : FnScope nLGenus ["_law_size", "_law_row"] (defScope sLGenus) := ⟨rfl, rfl, rfl, by decide +kernel, rfl, by decide +kernel, by decide +kernel⟩
abbrev sCarried : Stmt := tp 34
abbrev nCarried : List Str := ["_law_move", "_law_by", "_law_found", "_law_place", "_law_goal"]
theorem scCarried : FnScope nCarried ["_law_move", "_law_by"] (defScope sCarried) := ⟨rfl, rfl, rfl, by decide +kernel, rfl, by decide +kernel, by decide +kernel⟩
abbrev sParity : Stmt := tp 35
abbrev nParity : List Str := ["_law_size", "_law_row", "_law_needs", "_law_rest", "_law_move"]
theorem scParity : FnScope nParity ["_law_size", "_law_row"] (defScope sParity) := ⟨rfl, rfl, rfl, by decide +kernel, rfl, by decide +kernel, by decide +kernel⟩
abbrev sRight : Stmt := tp 36
abbrev nRight : List Str := ["_law_dice_here", "_law_size", "_law_row", "_law_due", "_law_by", "_law_back", "_law_turned", "_law_turn", "_law_move"]
theorem scRight : FnScope nRight ["_law_dice_here"] (defScope sRight) := ⟨rfl, rfl, rfl, by decide +kernel, rfl, by decide +kernel, by decide +kernel⟩
abbrev sLaw : Stmt := tp 37
abbrev nLaw : List Str := ["_law_script", "_law_spot", "_law_dice_here", "_law_turn", "_law_told"]
theorem scLaw : FnScope nLaw ["_law_script"] (defScope sLaw) := ⟨rfl, rfl, rfl, by decide +kernel, rfl, by decide +kernel, by decide +kernel⟩
end Gn

/-! Hlp: moves as lists of places, rows of them in the heap, small lemmas. -/
namespace Gn
open PySem PySem.Spec PyProof.Rows L2 Gm
/-- a list of places as values -/
def mv (m : List Nat) : List V := m.map fun n : Nat => V.int (n : Int)
/-- a list of places as a function -/
def ap (m : List Nat) : Nat → Nat := fun i => m.getD i 0
/-- a move -/
structure Mv (m : List Nat) : Prop where
  lt : ∀ x ∈ m, x < m.length
  nd : m.Nodup
theorem mv_length (m : List Nat) : (mv m).length = m.length := List.length_map _
theorem mv_get {m : List Nat} {i x : Nat} (h : m[i]? = some x) : (mv m)[i]? = some (.int (x : Int)) := by
  unfold mv
  rw [List.getElem?_map, h]
  rfl
theorem ap_get {m : List Nat} {i : Nat} (h : i < m.length) : m[i]? = some (ap m i) := by
  unfold ap
  rw [List.getD_eq_getElem?_getD, List.getElem?_eq_getElem h]
  rfl
theorem get_ap {m : List Nat} {i x : Nat} (h : m[i]? = some x) : ap m i = x := by
  unfold ap
  rw [List.getD_eq_getElem?_getD, h]
  rfl
theorem mv_ap {m : List Nat} {i : Nat} (h : i < m.length) : (mv m)[i]? = some (.int (ap m i : Nat)) := mv_get (ap_get h)
theorem mv_append (a b : List Nat) : mv (a ++ b) = mv a ++ mv b := List.map_append
theorem mv_ints (m : List Nat) : mv m = (m.map fun n : Nat => (n : Int)).map V.int := by
  unfold mv
  rw [List.map_map]
  rfl
theorem mv_inj {a b : List Nat} (h : mv a = mv b) : a = b := by
  unfold mv at h
  induction a generalizing b with
  | nil =>
    cases b with
    | nil => rfl
    | cons y b => cases h
  | cons x a ih =>
    cases b with
    | nil => cases h
    | cons y b =>
      rw [List.map_cons, List.map_cons] at h
      injection h with h1 h2
      injection h1 with h1
      rw [ih h2, Int.ofNat.inj h1]
theorem at_mv {m : List Nat} {i : Nat} {z : Int} (e : z = (i : Int)) (h : i < m.length) : atI (mv m) z = some (.int (ap m i : Nat)) := at_of e (mv_ap h)
theorem ap_mem {m : List Nat} {i : Nat} (h : i < m.length) : ap m i ∈ m := List.mem_of_getElem? (ap_get h)
theorem Mv.pm {m : List Nat} (h : Mv m) : Pm m.length (ap m) := by
  refine ⟨fun i hi => h.lt _ (ap_mem hi), fun i j hi hj e => ?_⟩
  have h1 := ap_get hi
  have h2 := ap_get hj
  rw [← e] at h2
  exact nd_ix h.nd h1 h2
theorem Mv.of_pm {m : List Nat} (h : Pm m.length (ap m)) : Mv m := by
  refine ⟨fun x hx => ?_, ?_⟩
  · obtain ⟨i, hi, e⟩ := List.getElem_of_mem hx
    have := h.lt i hi
    rw [get_ap (List.getElem?_eq_getElem hi), e] at this
    exact this
  · refine List.pairwise_iff_getElem.mpr fun i j hi hj hlt e => ?_
    have e1 := get_ap (List.getElem?_eq_getElem hi)
    have e2 := get_ap (List.getElem?_eq_getElem hj)
    have := h.inj i j hi hj (by rw [e1, e2, e])
    omega
/-- two lists of places are one if they are so at each place -/
theorem ext_ap {a b : List Nat} {d : Nat} (ha : a.length = d) (hb : b.length = d) (h : ∀ i, i < d → ap a i = ap b i) : a = b := by
  refine List.ext_getElem? fun i => ?_
  by_cases hi : i < d
  · rw [ap_get (by omega), ap_get (by omega), h i hi]
  · rw [List.getElem?_eq_none (by omega), List.getElem?_eq_none (by omega)]
/-- the idle move -/
def idl (d : Nat) : List Nat := List.range d
theorem idl_len (d : Nat) : (idl d).length = d := List.length_range
theorem idl_ap {d i : Nat} (h : i < d) : ap (idl d) i = i := get_ap (by unfold idl; rw [List.getElem?_range h])
/-- one move and then another -/
def bhd (m g : List Nat) : List Nat := m.map (ap g)
theorem bhd_len (m g : List Nat) : (bhd m g).length = m.length := List.length_map _
theorem bhd_ap {m g : List Nat} {i : Nat} (h : i < m.length) : ap (bhd m g) i = ap g (ap m i) := get_ap (by
  unfold bhd
  rw [List.getElem?_map, ap_get h]
  rfl)
theorem Mv.bhd {m g : List Nat} (h : Mv m) (k : Mv g) (e : g.length = m.length) : Mv (bhd m g) := by
  refine Mv.of_pm ?_
  rw [bhd_len]
  have := h.pm.comp (show Pm m.length (ap g) by rw [← e]; exact k.pm)
  exact this.congr fun i hi => (bhd_ap hi).symm
theorem idl_mv (d : Nat) : Mv (idl d) := Mv.of_pm (by
  rw [idl_len]
  exact Pm.congr ⟨fun _ h => h, fun _ _ _ _ h => h⟩ fun i hi => (idl_ap hi).symm)
/-- the product of a row -/
def prd (d : Nat) (ms : List (List Nat)) : List Nat := ms.foldl bhd (idl d)
/-- rows of moves of d places -/
def Row (d : Nat) (ms : List (List Nat)) : Prop := ∀ m ∈ ms, Mv m ∧ m.length = d
theorem Row.pm {d : Nat} {ms : List (List Nat)} (h : Row d ms) : ∀ m ∈ ms.map ap, Pm d m := fun m hm => by
  obtain ⟨x, hx, rfl⟩ := List.mem_map.mp hm
  obtain ⟨a, b⟩ := h x hx
  rw [← b]
  exact a.pm
theorem fold_ok {d : Nat} : ∀ (ms : List (List Nat)) (p : List Nat) (q : Nat → Nat), Row d ms → Mv p → p.length = d → (∀ i, i < d → ap p i = q i) →
    Mv (ms.foldl Gn.bhd p) ∧ (ms.foldl Gn.bhd p).length = d ∧ ∀ i, i < d → ap (ms.foldl Gn.bhd p) i = prodF (ms.map ap) q i
  | [], p, q, _, h1, h2, h3 => ⟨h1, h2, h3⟩
  | m :: ms, p, q, hr, h1, h2, h3 => by
    obtain ⟨a, b⟩ := hr m (by simp)
    refine fold_ok ms (Gn.bhd p m) (fun i => ap m (q i)) (fun x hx => hr x (by simp [hx])) (h1.bhd a (by omega)) (by rw [bhd_len]; exact h2) fun i hi => ?_
    rw [bhd_ap (by omega), h3 i hi]
theorem prd_ok {d : Nat} {ms : List (List Nat)} (h : Row d ms) : Mv (prd d ms) ∧ (prd d ms).length = d ∧ ∀ i, i < d → ap (prd d ms) i = prodF (ms.map ap) (fun j => j) i :=
  fold_ok ms (idl d) (fun j => j) h (idl_mv d) (idl_len d) fun i hi => idl_ap hi

/-! ### in the heap -/
/-- lists of places, one at each address -/
def Tups (K : PySem.W.Frag) (H : Hp) (ps : List Addr) (ms : List (List Nat)) : Prop := ps.length = ms.length ∧ ∀ (i : Nat) (p : Addr) (m : List Nat), ps[i]? = some p → ms[i]? = some m → SqT K H p (mv m)
section
variable {K : PySem.W.Frag} {H H' : Hp} {a p : Addr} {o : HO} {xs : List V}
theorem Same.tup (e : Same H H') (h : SqT K H a xs) : SqT K H' a xs := by
  rcases h with (h | ⟨o, h⟩) | h
  · exact .inl (.inl (e _ _ h))
  · exact .inl (.inr ⟨o, e _ _ h⟩)
  · exact .inr h
theorem Tups.same {ps : List Addr} {ms : List (List Nat)} (h : Tups K H ps ms) (e : Same H H') : Tups K H' ps ms := ⟨h.1, fun i p m h1 h2 => Same.tup e (h.2 i p m h1 h2)⟩
theorem same_new (h : H p = none) : Same H (upd H p o) := fun b x e => by
  rw [upd_ne (ne_of_none e h)]
  exact e
/-- all but what stands at D is as it was -/
def But (D : Addr) (H H' : Hp) : Prop := ∀ b o, b ≠ D → H b = some o → H' b = some o
theorem But.refl (D : Addr) (H : Hp) : But D H H := fun _ _ _ h => h
theorem But.trans {D : Addr} {H H1 H2 : Hp} (a : But D H H1) (b : But D H1 H2) : But D H H2 := fun c o n h => b c o n (a c o n h)
theorem Same.but {D : Addr} (e : Same H H') : But D H H' := fun b o _ h => e b o h
theorem But.upd (D : Addr) : But D H (upd H D o) := fun b x n e => by
  rw [upd_ne n]
  exact e
theorem But.tup {D : Addr} (e : But D H H') (h : SqT K H a xs) (hD : ∃ ys, H D = some (.lst ys)) : SqT K H' a xs := by
  obtain ⟨ys, hD⟩ := hD
  rcases h with (h | ⟨o, h⟩) | h
  · exact .inl (.inl (e _ _ (ne_of h hD fun z => nomatch z) h))
  · exact .inl (.inr ⟨o, e _ _ (ne_of h hD fun z => nomatch z) h⟩)
  · exact .inr h
theorem Tups.but {D : Addr} {ps : List Addr} {ms : List (List Nat)} (h : Tups K H ps ms) (e : But D H H') (hD : ∃ ys, H D = some (.lst ys)) : Tups K H' ps ms := ⟨h.1, fun i p m h1 h2 => But.tup e (h.2 i p m h1 h2) hD⟩
/-- what is new behind H is not at D -/
theorem But.free {D : Addr} (e : But D H H') {l : Addr} (hl : H' l = none) (n : l ≠ D) : H l = none := by
  cases q : H l with
  | none => rfl
  | some o =>
    rw [e l o n q] at hl
    cases hl
theorem ty_tup (h : SqT K H a xs) : TyX K H (.ref a) (.type "tuple") := by
  rcases h with (h | ⟨o, h⟩) | ⟨o, its, n, h1, h2, _⟩
  · exact .base (.tup h)
  · exact .fTuple h
  · exact .kTuple h1 h2
theorem small {n : Nat} (h : n ≤ 4096) : n < sizeLine := Nat.lt_of_le_of_lt h (by decide)
end
end Gn

/-! W1: the small defs of the program. -/
namespace Gn
open PySem PySem.Spec PyProof.Rows L2 Gm
section
variable {P : Program} {w : World} {K : PySem.W.Frag} {mg : Str → Option Value} {base : Heap}
/-! ### is_whole, is_integer -/
def spWhole : Sp := fun vs H Q _ => ∃ i : Int, vs = [.int i] ∧ Q (.bl true) H
theorem okWhole {f : Addr} {fd : FuncData} {k : Nat} (F : Fun K "is_whole" "is_whole" sWhole f fd) (m1 : mg "isinstance" = none) (m2 : mg "int" = none) (m3 : mg "bool" = none) :
    FnOk P w K mg base CX0 (k + 1) f fd ["value"] spWhole := by
  refine F.ok scWhole (fun vs H Q E h => ?_) (fun cdv A outer s H vs Q E hr h => ?_)
  · obtain ⟨i, rfl, _⟩ := h
    rfl
  · obtain ⟨i, rfl, q⟩ := h
    refine ⟨_, pss_one (ps_ret (pe_and (pe_callB call_isi (by rfl) m1 (by decide +kernel) (pa_cons (pv 0) (pa_cons (pe_bltn (v := .ty "int") (by rfl) m2 (by decide +kernel) rfl) pa_nil)))
      (pe_one (pe_not (pe_callB call_isi (by rfl) m1 (by decide +kernel) (pa_cons (pv 0) (pa_cons (pe_bltn (v := .ty "bool") (by rfl) m3 (by decide +kernel) rfl) pa_nil))))))), ?_⟩
    refine ⟨.int i, rfl, .int i, .ty "int", .type "int", .type "int", true, rfl, .ty _, .base (.int i), kit_ty (by decide +kernel), true, rfl, iteT ?_⟩
    exact ⟨.int i, rfl, .int i, .ty "bool", .type "int", .type "bool", false, rfl, .ty _, .base (.int i), kit_ty (by decide +kernel), false, rfl, q⟩
def big : Int := 10 ^ 60
def spInteger : Sp := fun vs H Q _ => ∃ i : Int, vs = [.int i] ∧ -big < i ∧ i < big ∧ Q (.bl true) H
theorem okInteger {f fW : Addr} {fd fdW : FuncData} {t : Tok} (F : Fun K "is_integer" "is_integer" sInteger f fd) (FW : Fun K "is_whole" "is_whole" sWhole fW fdW) (bW : Binds K fdW ["value"] []) (gW : mg "is_whole" = some (.ref fW))
    (gB : mg "BOUND" = some (.int big t)) (m1 : mg "isinstance" = none) (m2 : mg "int" = none) (m3 : mg "bool" = none) :
    FnOk P w K mg base CX0 2 f fd ["value"] spInteger := by
  have GW : FnOk P w K mg base CX0 1 fW fdW ["value"] spWhole := okWhole FW m1 m2 m3
  refine F.ok scInteger (fun vs H Q E h => ?_) (fun cdv A outer s H vs Q E hr h => ?_)
  · obtain ⟨i, rfl, _⟩ := h
    rfl
  · obtain ⟨i, rfl, h1, h2, q⟩ := h
    refine ⟨_, pss_one (ps_ret (pe_and (pe_call GW hr (by rfl) gW FW.kp bW .nil pass0 (pa_cons (pv 0) pa_nil))
      (pe_one (pe_chain op_lt op_lt (pe_un un_neg (pe_glob (v := .int big) (by rfl) gB ⟨_, rfl⟩)) (pv 0) (pe_glob (v := .int big) (by rfl) gB ⟨_, rfl⟩))))), ?_⟩
    refine ⟨.int i, rfl, i, rfl, true, rfl, iteT ?_⟩
    refine ⟨big, rfl, .int i, rfl, _, _, rfl, rfl, true, congrArg V.bl (decide_eq_true h1), iteT ?_⟩
    refine ⟨_, _, rfl, rfl, ?_⟩
    show Q (.bl (decide (i < big))) H
    rw [decide_eq_true h2]
    exact q
/-! ### idle_in, behind_in -/
def spIdle : Sp := fun vs H Q _ => ∃ d : Nat, vs = [.int (d : Int)] ∧ d ≤ 4096 ∧ ∀ H' p, Same H H' → H' p = some (.tup (mv (idl d))) → Q (.ref p) H'
theorem rgV_mv (d : Nat) : rgV 0 (d : Int) = mv (idl d) := by
  unfold rgV mv idl
  rw [show ((d : Int) - 0).toNat = d by omega]
  refine List.map_congr_left fun i _ => ?_
  rw [Int.zero_add]
theorem rgOk {d : Nat} (h : d ≤ 4096) : RgOk 0 (d : Int) := RgOk.of_le (by omega) (by omega) (by omega) (by omega)
theorem okIdle {f : Addr} {fd : FuncData} {k : Nat} (F : Fun K "idle_in" "idle_in" sIdle f fd) (m1 : mg "tuple" = none) (m2 : mg "range" = none) : FnOk P w K mg base CX0 (k + 1) f fd ["size"] spIdle := by
  refine F.ok scIdle (fun vs H Q E h => ?_) (fun cdv A outer s H vs Q E hr h => ?_)
  · obtain ⟨i, rfl, _⟩ := h
    rfl
  · obtain ⟨d, rfl, h1, q⟩ := h
    refine ⟨_, pss_one (ps_ret (pe_tupRg rfl (by rfl) m1 (prg_1 (by rfl) m2 (pv 0)))), ?_⟩
    refine ⟨.int (d : Int), rfl, _, rfl, rgOk h1, fun p np => ?_⟩
    rw [rgV_mv]
    exact q _ p (same_new np) upd_same
def spBehind (K : PySem.W.Frag) : Sp := fun vs H Q _ => ∃ (a b : Addr) (m g : List Nat), vs = [.ref a, .ref b] ∧ SqT K H a (mv m) ∧ SqT K H b (mv g) ∧ (∀ x ∈ m, x < g.length) ∧ m.length ≤ 4096 ∧
  ∀ H' p, Same H H' → H' p = some (.tup (mv (bhd m g))) → Q (.ref p) H'
theorem okBehind {f : Addr} {fd : FuncData} {k : Nat} (F : Fun K "behind_in" "behind_in" sBehind f fd) (m1 : mg "tuple" = none) : FnOk P w K mg base CX0 (k + 1) f fd ["one", "other"] (spBehind K) := by
  refine F.ok scBehind (fun vs H Q E h => ?_) (fun cdv A outer s H vs Q E hr h => ?_)
  · obtain ⟨a, b, m, g, rfl, _⟩ := h
    rfl
  · obtain ⟨a, b, m, g, rfl, hA, hB, hlt, hlen, q⟩ := h
    refine ⟨_, pss_one (ps_ret (pe_tupleOf (by rfl) m1 (pe_lc (own := [("place", 2)]) (g := gName 2) rfl scBehind.nd (pi_tup (pv 0)) (blkOk_by (N := nBehind) (sc := defScope sBehind) (by decide +kernel))
      (fun _ _ _ _ _ => pg_name (i := 2) scBehind.nd rfl (Or.inl rfl)) (fun _ _ _ _ _ => pts_nil) (fun _ _ _ _ _ => pe_ix (r := rIxT K) ix_tup (pv 1) (pv 2) (fun _ _ => rfl))))), ?_⟩
    refine ⟨.ref a, rfl, a, rfl, ⟨_, hA⟩, fun D nD => lc_tup (K := K) (a := a) (xs := mv m) (fun i H2 => Same H H2 ∧ H D = none ∧ H2 D = some (.lst (mv ((bhd m g).take i)))) ⟨same_new nD, nD, upd_same⟩
      (fun i H2 _ p => Same.tup p.1 hA) (fun i x H2 hx p => ?_) fun H2 p => ?_⟩
    · obtain ⟨e, _, eD⟩ := p
      have hi : i < m.length := by
        have := (List.getElem?_eq_some_iff.mp hx).1
        rw [mv_length] at this
        exact this
      have ex : x = .int (ap m i : Nat) := Option.some.inj (hx.symm.trans (mv_ap hi))
      subst ex
      have hg : (mv g)[ap m i]? = some (.int (ap g (ap m i) : Nat)) := mv_ap (hlt _ (ap_mem hi))
      refine ⟨rfl, .ref b, rfl, .int (ap m i : Nat), rfl, b, mv g, _, _, rfl, rfl, Same.tup e hB, atI_nat hg, _, eD, ?_, fun c o z => ?_, nD, ?_⟩
      · rw [mv_length, List.length_take]
        exact Nat.lt_of_le_of_lt (Nat.min_le_left _ _) (small (by omega))
      · rw [upd_ne (ne_of_none z nD)]
        exact e _ _ z
      · rw [upd_same, List.take_add_one, ap_get (by rw [bhd_len]; exact hi), bhd_ap hi, mv_append]
        rfl
    · obtain ⟨e, _, eD⟩ := p
      refine .inl ⟨D, _, rfl, SqL.of eD, fun l nl => ?_⟩
      rw [mv_length, List.take_of_length_le (by rw [bhd_len]; exact Nat.le_refl _)]
      exact q _ l (e.trans (same_new nl)) upd_same
end
end Gn

/-! W2: cycles_in, least_in. -/
namespace Gn
open PySem PySem.Spec PyProof.Rows L2 Gm
theorem bl_set (bs : List Bool) (j : Nat) (b : Bool) : (bs.map V.bl).set j (.bl b) = (bs.set j b).map V.bl := (List.map_set).symm
theorem bl_get {bs : List Bool} {j : Nat} (h : j < bs.length) : (bs.map V.bl)[j]? = some (.bl bs[j]) := by
  rw [List.getElem?_map, List.getElem?_eq_getElem h]
  rfl
theorem refs_append (ps : List Addr) (p : Addr) : ps.map V.ref ++ [.ref p] = (ps ++ [p]).map V.ref := by
  rw [List.map_append]
  rfl
theorem Tups.snoc {K : PySem.W.Frag} {H : Hp} {ps : List Addr} {ms : List (List Nat)} {p : Addr} {m : List Nat} (h : Tups K H ps ms) (hp : SqT K H p (mv m)) : Tups K H (ps ++ [p]) (ms ++ [m]) := by
  refine ⟨by rw [List.length_append, List.length_append, h.1]; rfl, fun i q x h1 h2 => ?_⟩
  by_cases hi : i < ps.length
  · rw [List.getElem?_append_left hi] at h1
    rw [List.getElem?_append_left (by rw [← h.1]; exact hi)] at h2
    exact h.2 i q x h1 h2
  · have hl : i < (ps ++ [p]).length := (List.getElem?_eq_some_iff.mp h1).1
    rw [List.length_append, List.length_singleton] at hl
    have e : i = ps.length := by omega
    have e1 : (ps ++ [p])[i]? = some p := by rw [e, List.getElem?_append_right (Nat.le_refl _), Nat.sub_self]; rfl
    have e2 : (ms ++ [m])[i]? = some m := by rw [e, h.1, List.getElem?_append_right (Nat.le_refl _), Nat.sub_self]; rfl
    rw [e1] at h1
    rw [e2] at h2
    cases h1
    cases h2
    exact hp
/-- what is known of the cycles of a move -/
structure Rings (m : List Nat) (rs : List (List Nat)) : Prop where
  len : rs.length = cyc m.length (ap m)
  rg : ∀ r ∈ rs, Rg m.length (ap m) r
  all : ∀ x, x < m.length → ∃ r ∈ rs, x ∈ r
section
variable {P : Program} {w : World} {K : PySem.W.Frag} {mg : Str → Option Value} {base : Heap}
def spCycles (K : PySem.W.Frag) : Sp := fun vs H Q _ => ∃ (a : Addr) (m : List Nat), vs = [.ref a] ∧ SqT K H a (mv m) ∧ Mv m ∧ m.length ≤ 4096 ∧
  ∀ H' p ps rs, Same H H' → H' p = some (.lst (ps.map V.ref)) → Tups K H' ps rs → Rings m rs → Q (.ref p) H'
theorem okCycles {f : Addr} {fd : FuncData} {k : Nat} (F : Fun K "cycles_in" "cycles_in" sCycles f fd) (m1 : mg "len" = none) (m2 : mg "range" = none) (m3 : mg "tuple" = none) :
    FnOk P w K mg base CX0 (k + 1) f fd ["move"] (spCycles K) := by
  refine F.ok scCycles (fun vs H Q E h => ?_) (fun cdv A outer s H vs Q E hr h => ?_)
  · obtain ⟨a, m, rfl, _⟩ := h
    rfl
  · obtain ⟨a, m, rfl, hA, hm, hlen, q⟩ := h
    have nd := scCycles.nd
    refine ⟨_, pss_cons (ps_par (i := 1) (j := 2) rfl nd rfl rfl (by decide) rfl rfl (pa_cons (pe_op op_rep (pe_lst (pa_cons pe_bl pa_nil)) (pe_callB call_len_seq (by rfl) m1 PySem.boot_len (pa_cons (pv 0) pa_nil))) (pa_cons (pe_lst pa_nil) pa_nil)) (by rfl))
      (pss_cons (ps_for PassesOwn.never rfl (pi_range1 rfl m2 (pa_cons (pe_callB call_len_seq (by rfl) m1 PySem.boot_len (pa_cons (pv 0) pa_nil)) pa_nil)) (pg_name (i := 3) nd rfl (Or.inl rfl))
        (pss_one (ps_if (pt_not (pt_val (pe_ix (r := rIxL K) ix_list (pv 1) (pv 3) (fun _ _ => rfl))))
          (pss_cons (ps_par (i := 4) (j := 5) rfl nd rfl rfl (by decide) rfl rfl (pa_cons (pe_lst pa_nil) (pa_cons (pv 3) pa_nil)) (by rfl))
          (pss_cons (ps_while PassesOwn.never (pt_not (pt_val (pe_ix (r := rIxL K) ix_list (pv 1) (pv 5) (fun _ _ => rfl))))
            (pss_cons (ps_asg pe_bl (pg_sub (pv 1) (pv 5) set_list))
            (pss_cons (ps_expr (pe_bm PySem.F.plainAttrs_list PySem.F.slot_list_append PySem.F.type_list_append mt_append (pv 4) (pa_cons (pv 5) pa_nil)))
            (pss_one (ps_set (i := 5) nd rfl (.inl rfl) (pe_ix (r := rIxT K) ix_tup (pv 0) (pv 5) (fun _ _ => rfl)))))))
          (pss_one (ps_expr (pe_bm PySem.F.plainAttrs_list PySem.F.slot_list_append PySem.F.type_list_append mt_append (pv 2) (pa_cons (pe_callTy call_tuple_of (by rfl) m3 boot_tuple (pa_cons (pv 4) pa_nil)) pa_nil))))))
          pss_nil)))
      (pss_one (ps_ret (pv 2)))), ?_⟩
    -- met, found = ([False] * len(move), [])
    refine ⟨by decide, fun T0 n0 => ⟨.ref a, rfl, a, mv m, rfl, .inr (Same.tup (same_new n0) hA), T0, _, _, rfl, rfl, upd_same, ?_, ?_, ?_, fun B nB => ⟨Nat.zero_le _, fun D nD => ⟨_, _, rfl, ?_⟩⟩⟩⟩
    · rw [mv_length]; omega
    · rw [mv_length]; omega
    · rw [mv_length]
      show 1 * ((m.length : Int)).toNat ≤ sizeLine
      rw [Int.toNat_natCast, Nat.one_mul]
      exact Nat.le_of_lt (small hlen)
    have fl : (List.replicate ((mv m).length : Int).toNat [V.bl false]).flatten = (List.replicate m.length false).map V.bl := by
      rw [mv_length, Int.toNat_natCast, List.map_replicate]
      induction m.length with
      | zero => rfl
      | succ n ih =>
        rw [List.replicate_succ, List.replicate_succ, List.flatten_cons, ih]
        rfl
    rw [fl] at nD ⊢
    have nBH : H B = none := (same_new n0).free nB
    have nDB : D ≠ B := fun e => by
      rw [e, upd_same] at nD
      cases nD
    have nDH : H D = none := (same_new n0).free ((same_new nB).free nD)
    have s0 : Same H (upd (upd (upd H T0 (.lst [.bl false])) B (.lst ((List.replicate m.length false).map V.bl))) D (.lst [])) := ((same_new n0).trans (same_new nB)).trans (same_new nD)
    generalize hH0 : upd (upd (upd H T0 (.lst [.bl false])) B (.lst ((List.replicate m.length false).map V.bl))) D (.lst []) = H0 at s0 ⊢
    have eB : H0 B = some (.lst ((List.replicate m.length false).map V.bl)) := by rw [← hH0, upd_ne (fun e => nDB e.symm), upd_same]
    have eD : H0 D = some (.lst []) := by rw [← hH0, upd_same]
    clear hH0 fl
    have pm := hm.pm
    -- for place in range(len(move))
    have ln : (((mv m).length : Nat) : Int).toNat = m.length := by rw [mv_length]; omega
    refine ⟨.ref a, rfl, a, mv m, rfl, .inr (Same.tup s0 hA), _, rfl, ?_, ?_, ?_⟩
    · rw [mv_length]; omega
    · rw [mv_length]; omega
    rw [ln]
    refine for_range (lo := 0) (n := m.length) (fun i σ H1 => ∃ y3 y4 y5, ∃ (bs : List Bool) (ps : List Addr) (rs : List (List Nat)),
      σ = [some (.ref a), some (.ref B), some (.ref D), y3, y4, y5] ∧ Same H H1 ∧ H1 B = some (.lst (bs.map V.bl)) ∧ bs.length = m.length ∧ H1 D = some (.lst (ps.map V.ref)) ∧ Tups K H1 ps rs ∧ (∀ r ∈ rs, Rg m.length (ap m) r) ∧
      (∀ x, x < m.length → bs[x]? = some true → ∃ r ∈ rs, x ∈ r) ∧ Scan m.length (ap m) i (fun x => bs[x]? = some true) rs.length ∧ rs.length ≤ i) ?h0 ?hs ?hd
    case h0 =>
      refine ⟨none, none, none, List.replicate m.length false, [], [], rfl, s0, eB, List.length_replicate, eD, ⟨rfl, fun i p x h => by simp at h⟩, fun r h => by simp at h, fun x hx h => ?_, Scan.begin (fun x hx h => ?_) pm, Nat.le_refl _⟩
      · rw [List.getElem?_replicate, if_pos hx] at h
        cases h
      · have h : (List.replicate m.length false)[x]? = some true := h
        rw [List.getElem?_replicate, if_pos hx] at h
        cases h
    case hd =>
      rintro σ H1 ⟨y3, y4, y5, bs, ps, rs, rfl, s1, e1, hl, e2, tu, hrg, hall, sc, _⟩
      refine ⟨_, rfl, q H1 D ps rs s1 e2 tu ⟨sc.done pm, hrg, fun x hx => hall x hx (sc.below x hx hx)⟩⟩
    case hs =>
      rintro i σ H1 hi ⟨y3, y4, y5, bs, ps, rs, rfl, s1, e1, hl, e2, tu, hrg, hall, sc, hcnt⟩
      have ei : ((0 : Int) + (i : Int)) = (i : Int) := Int.zero_add _
      rw [ei]
      have hib : i < bs.length := by omega
      -- if not met[place]
      refine ⟨_, rfl, _, rfl, B, _, _, _, rfl, rfl, SqL.of e1, atI_nat (bl_get hib), bs[i], rfl, ?_⟩
      cases hb : bs[i] with
      | true =>
        refine iteF ⟨_, y4, y5, bs, ps, rs, rfl, s1, e1, hl, e2, tu, hrg, hall, sc.met hi (by show bs[i]? = some true; rw [List.getElem?_eq_getElem hib, hb]), by omega⟩
      | false =>
        have ns : ¬ bs[i]? = some true := by
          rw [List.getElem?_eq_getElem hib, hb]
          intro z
          cases z
        refine iteT ?_
        -- round_here, here = ([], place)
        refine ⟨Nat.zero_le _, fun R nR => ⟨_, rfl, _, _, rfl, ?_⟩⟩
        have nRB : R ≠ B := fun e => by rw [e, e1] at nR; cases nR
        have nRD : R ≠ D := fun e => by rw [e, e2] at nR; cases nR
        have nRH : H R = none := s1.free nR
        -- while not met[here]
        refine while_by (fun σ H2 => ∃ (r : Nat) (cs : List Bool), σ = [some (.ref a), some (.ref B), some (.ref D), some (.int (i : Int)), some (.ref R), some (.int (it (ap m) r i : Nat))] ∧ Way (ap m) i r ∧ cs.length = m.length ∧
            (∀ x, x < m.length → (cs[x]? = some true ↔ bs[x]? = some true ∨ x ∈ ring (ap m) i r)) ∧ Same H H2 ∧ H2 B = some (.lst (cs.map V.bl)) ∧ H2 R = some (.lst (mv (ring (ap m) i r))) ∧ H2 D = some (.lst (ps.map V.ref)) ∧ Tups K H2 ps rs)
          (fun _ H2 => match H2 R with | some (.lst xs) => m.length + 1 - xs.length | _ => 0) ?w0 ?ws ?wm
        case w0 =>
          refine ⟨0, bs, rfl, Way.zero _ _, hl, fun x hx => ?_, s1.trans (same_new nR), ?_, upd_same, ?_, tu.same (same_new nR)⟩
          · constructor
            · exact .inl
            · rintro (z | z)
              · exact z
              · exact absurd z (by simp [ring])
          · rw [upd_ne nRB.symm]; exact e1
          · rw [upd_ne nRD.symm]; exact e2
        case wm =>
          intro σ H2 Q1 Q2 hQ h
          obtain ⟨v, h1, u, h2, p, xs, j, z, h3, h4, h5, h6, c, h7, h8⟩ := h
          exact ⟨v, h1, u, h2, p, xs, j, z, h3, h4, h5, h6, c, h7, hQ _ _ h8⟩
        case ws =>
          rintro σ H2 ⟨r, cs, rfl, hw, hcl, hcs, s2, g1, g2, g3, tu2⟩
          have hlt := it_lt pm hi r
          have hlc : it (ap m) r i < cs.length := by omega
          refine ⟨_, rfl, _, rfl, B, _, _, _, rfl, rfl, SqL.of g1, atI_nat (bl_get hlc), cs[it (ap m) r i], rfl, ?_⟩
          have hget : cs[it (ap m) r i]? = some cs[it (ap m) r i] := List.getElem?_eq_getElem hlc
          cases hc : cs[it (ap m) r i] with
          | false =>
            refine iteT ?_
            have nin : it (ap m) r i ∉ ring (ap m) i r := fun z => by
              have := (hcs _ hlt).mpr (.inr z)
              rw [hget, hc] at this
              cases this
            have hw2 := hw.succ nin
            have hr2 := hw2.le pm hi
            -- met[here] = True
            refine ⟨_, rfl, _, rfl, B, _, _, it (ap m) r i, rfl, rfl, g1, ?_, ?_⟩
            · unfold ixN
              rw [if_pos (by omega), if_pos (by rw [List.length_map]; omega)]
              rfl
            rw [bl_set]
            have k2 : (upd H2 B (.lst ((cs.set (it (ap m) r i) true).map V.bl))) R = some (.lst (mv (ring (ap m) i r))) := by rw [upd_ne nRB]; exact g2
            -- round_here.append(here)
            refine ⟨_, rfl, .inl ⟨rfl, _, SqL.of k2⟩, _, rfl, R, _, _, rfl, rfl, k2, ?_, ?_⟩
            · rw [mv_length, ring_len]; exact small (by omega)
            have ring2 : mv (ring (ap m) i r) ++ [V.int (it (ap m) r i : Nat)] = mv (ring (ap m) i (r + 1)) := by
              rw [ring_succ, mv_append]
              rfl
            rw [ring2]
            have bt : But R H (upd (upd H2 B (.lst ((cs.set (it (ap m) r i) true).map V.bl))) R (.lst (mv (ring (ap m) i (r + 1))))) := fun b o n e => by
              rw [upd_ne n, upd_ne (ne_of_none e nBH)]
              exact s2 b o e
            have s3 : Same H (upd (upd H2 B (.lst ((cs.set (it (ap m) r i) true).map V.bl))) R (.lst (mv (ring (ap m) i (r + 1))))) := fun b o e => bt b o (ne_of_none e nRH) e
            -- here = move[here]
            refine ⟨_, rfl, _, rfl, a, _, _, _, rfl, rfl, Same.tup s3 hA, atI_nat (mv_ap hlt), ?_⟩
            refine ⟨⟨r + 1, cs.set (it (ap m) r i) true, rfl, hw2, by rw [List.length_set]; exact hcl, fun x hx => ?_, s3, ?_, upd_same, ?_, ?_⟩, ?_⟩
            · rw [ring_succ, List.mem_append, List.mem_singleton, ← or_assoc, ← hcs x hx]
              by_cases e : x = it (ap m) r i
              · rw [e, List.getElem?_set_self hlc]
                exact ⟨fun _ => .inr rfl, fun _ => rfl⟩
              · rw [List.getElem?_set_ne (fun z => e z.symm)]
                exact ⟨.inl, fun z => z.elim id fun z => absurd z e⟩
            · rw [upd_ne nRB.symm, upd_same]
            · rw [upd_ne nRD.symm, upd_ne nDB]; exact g3
            · exact (tu2.but (But.upd B) ⟨_, g1⟩).but (But.upd R) ⟨_, k2⟩
            · show (match (upd (upd H2 B _) R (.lst (mv (ring (ap m) i (r + 1))))) R with | some (.lst xs) => m.length + 1 - xs.length | _ => 0) < (match H2 R with | some (.lst xs) => m.length + 1 - xs.length | _ => 0)
              rw [upd_same, g2]
              show m.length + 1 - (mv (ring (ap m) i (r + 1))).length < m.length + 1 - (mv (ring (ap m) i r)).length
              rw [mv_length, mv_length, ring_len, ring_len]
              omega
          | true =>
            refine iteF ?_
            have inr : it (ap m) r i ∈ ring (ap m) i r := by
              rcases (hcs _ hlt).mp (by rw [hget, hc]) with z | z
              · exact absurd z (sc.fresh pm hi ns r)
              · exact z
            -- found.append(tuple(round_here))
            refine ⟨_, rfl, .inl ⟨rfl, _, SqL.of g3⟩, _, rfl, R, _, rfl, .inl ⟨SqL.of g2, fun T nT => ?_⟩⟩
            have nTD : T ≠ D := fun e => by rw [e, g3] at nT; cases nT
            have nTB : T ≠ B := fun e => by rw [e, g1] at nT; cases nT
            have k3 : (upd H2 T (.tup (mv (ring (ap m) i r)))) D = some (.lst (ps.map V.ref)) := by rw [upd_ne nTD.symm]; exact g3
            refine ⟨D, _, _, rfl, rfl, k3, ?_, ?_⟩
            · rw [List.length_map, tu.1]
              exact small (by omega)
            rw [refs_append]
            have tu3 : Tups K (upd (upd H2 T (.tup (mv (ring (ap m) i r)))) D (.lst ((ps ++ [T]).map V.ref))) ps rs := (tu2.same (same_new nT)).but (But.upd D) ⟨_, k3⟩
            refine ⟨_, _, _, cs, ps ++ [T], rs ++ [ring (ap m) i r], rfl, fun b o e => ?_, ?_, hcl, upd_same, tu3.snoc (SqT.of ?_), fun x hx => ?_, fun x hx hx2 => ?_, ?_, ?_⟩
            · rw [upd_ne (ne_of_none e nDH)]
              exact same_new nT b o (s2 b o e)
            · rw [upd_ne nDB.symm, upd_ne nTB.symm]; exact g1
            · rw [upd_ne nTD, upd_same]
            · rcases List.mem_append.mp hx with z | z
              · exact hrg x z
              · rw [List.mem_singleton.mp z]
                exact Rg.of pm hi hw inr
            · rcases (hcs x hx).mp hx2 with z | z
              · obtain ⟨y, hy, hxy⟩ := hall x hx z
                exact ⟨y, List.mem_append_left _ hy, hxy⟩
              · exact ⟨_, List.mem_append_right _ (List.mem_singleton.mpr rfl), z⟩
            · rw [List.length_append]
              exact sc.next pm hi ns hw inr hcs
            · rw [List.length_append, List.length_singleton]
              omega
end
end Gn

/-! Rl: rules that the layer lacks: a tuple told as its object, its index, sorted and enumerate of a tuple. -/
namespace Gn
open PySem PySem.Spec PyProof.Rows L2 Gm
/-- at p a tuple of these values, its object told -/
def TupF (H : Hp) (p : Addr) (xs : List V) : Prop := ∃ o : Obj, H p = some (.frz o (.tup xs)) ∧ o.cls = .type "tuple" ∧ o.dict = none
theorem TupF.sq {K : PySem.W.Frag} {H : Hp} {p : Addr} {xs : List V} (h : TupF H p xs) : SqT K H p xs := by
  obtain ⟨o, e, _⟩ := h
  exact .inl (.inr ⟨o, e⟩)
theorem TupF.same {H H' : Hp} {p : Addr} {xs : List V} (h : TupF H p xs) (e : Same H H') : TupF H' p xs := by
  obtain ⟨o, k, r⟩ := h
  exact ⟨o, e _ _ k, r⟩
theorem TupF.but {H H' : Hp} {p D : Addr} {xs ys : List V} (h : TupF H p xs) (e : But D H H') (hD : H D = some (.lst ys)) : TupF H' p xs := by
  obtain ⟨o, k, r⟩ := h
  exact ⟨o, e _ _ (ne_of k hD fun z => nomatch z) k, r⟩
section
variable {X : Cx} {e : Expr} {te : TE}
/-- tuple(xs), xs a list: the new object told -/
def tTupF (K : PySem.W.Frag) (te : TE) : TE := fun σ H Q => te σ H fun x H1 => ∃ p xs, x = .ref p ∧ SqL K H1 p xs ∧ ∀ (q : Addr) (o : Obj), H1 q = none → o.cls = .type "tuple" → o.dict = none → Q (.ref q) (upd H1 q (.frz o (.tup xs)))
theorem pe_tupF {p pos : Pos} (hg : Gl X "tuple") (hm : X.mg "tuple" = none) (he : PE X e te) (na : starEach [e] X.env = (false, eval e X.env) :: starEach [] X.env := by rfl) :
    PE X (.Call (.Name "tuple" p) [e] [] pos) (tTupF X.K te) := by
  constructor
  intro pins s σ H Q I h
  refine Call_ (ld_blt I hg hm boot_tuple (PyProof.Rows.callWith_type1 (one_arg he I h (fun v s2 x H2 I2 rx hx => ?_) na) na))
  obtain ⟨a, xs, ex, hs, q⟩ := hx
  subst ex
  have ev : v = .ref a := rx
  subst ev
  obtain ⟨items, rel, pl, hz⟩ := I2.list hs
  have hsz : items.toArray.size ≤ sizeLine := by
    rw [List.size_toArray, ← rel.length]
    exact hz
  refine call_tuple_list pl.isList (fun h' grows => ?_) hsz
  have J : Inv X pins σ H2 { s2 with heap := h' } := I2.kept (t' := s2.toks) grows
  have free : H2 h'.objs.size = none := J.hok.fresh (Nat.le_refl _)
  have at' : (h'.push { cls := .type "tuple", data := .seq items.toArray }).get? h'.objs.size = some { cls := .type "tuple", data := .seq items.toArray } := Heap.get?_push_size _ rfl
  have new : ObjOk X.prog X.w (upd H2 h'.objs.size (.frz { cls := .type "tuple", data := .seq items.toArray } (.tup xs))) (h'.push { cls := .type "tuple", data := .seq items.toArray }) h'.objs.size (.frz { cls := .type "tuple", data := .seq items.toArray } (.tup xs)) :=
    And.intro at' ⟨hz, items, rel, ⟨_, at', rfl, _, rfl⟩⟩
  exact ⟨.ref h'.objs.size, _, J.laid (t' := s2.toks) (fun _ _ z => Heap.get?_push_of_some _ z) (Nat.le_refl _) new, rfl, q h'.objs.size { cls := .type "tuple", data := .seq items.toArray } free rfl rfl⟩

/-- t.index(k), t a tuple of ints whose object is told, k in it -/
def tIxF (K : PySem.W.Frag) (to te : TE) : TE := fun σ H Q => to σ H fun x H1 => ∃ (p : Addr) (ns : List Int), x = .ref p ∧ TupF H1 p (ns.map V.int) ∧ te σ H1 fun y H2 => ∃ k : Int, [y] = [V.int k] ∧ k ∈ ns ∧ SqT K H2 p (ns.map V.int) ∧ Q (.int (ns.idxOf k : Nat)) H2
theorem pe_ixF {o : Expr} {to : TE} {apos cpos : Pos} (ho : PE X o to) (he : PE X e te) (hb : attributeBase o "index" X.env (eval o X.env) = eval o X.env := by rfl)
    (hf : ((backTo cpos (starEach [e] X.env)).all (fun x => !x.1) && (backToKw cpos (keywordEach [] X.env)).all (fun x => x.1.isSome) && decide ([e].length + ([] : List Keyword).length + (if ([] : List Keyword).isEmpty then 0 else 1) < 30)) = true := by rfl)
    (hl : (apos.endLine == cpos.line) = true := by rfl) (hs : starEach [e] X.env = (false, eval e X.env) :: starEach [] X.env := by rfl) (hp : (backTo cpos (starEach [] X.env)).any (·.1) = false := by rfl) :
    PE X (.Call (.Attribute o "index" apos) [e] [] cpos) (tIxF X.K to te) := by
  constructor
  intro pins s σ H Q I h
  refine wpAny_Call_method_late hb hf hl rfl (thn (ho.run pins s σ H _ I h) fun v s1 hv => ?_)
  obtain ⟨x, H1, I1, r1, p, ns, ex, ⟨ob, hob, hc, hd⟩, q1⟩ := hv
  subst ex
  have ev : v = .ref p := r1
  subst ev
  have at1 : s1.heap.get? p = some ob := (I1.hok p _ hob).1
  refine ⟨"tuple", "tuple.index", PySem.F.plainAttrs_tuple, PySem.F.slot_tuple_index, PySem.F.type_tuple_index, ⟨ob, at1, hc⟩, fun b eb => ?_, ?_⟩
  · cases eb
    exact ⟨ob, at1, hd⟩
  have run := (pa_cons he pa_nil hs).run cpos pins s1 σ H1 (fun vs H2 => ∃ k : Int, vs = [V.int k] ∧ k ∈ ns ∧ SqT X.K H2 p (ns.map V.int) ∧ Q (.int (ns.idxOf k : Nat)) H2) I1 q1
  rw [hs] at run ⊢
  refine Calls.callWith_builtin (by show (false || (backTo cpos (starEach [] X.env)).any (·.1)) = false; rw [hp]; rfl) (Calls.evalArgs_plain ?_)
  refine thn run fun us s2 hus => ?_
  obtain ⟨vs, H2, I2, r2, k, evs, hk, hq, q⟩ := hus
  subst evs
  obtain ⟨u, rfl, t, rfl⟩ := r2.one
  obtain ⟨items, rel, pl, _⟩ := I2.tuple hq
  exact SeqAt.tuple_index_ints pl (intsAre_of rel) hk ⟨.int (ns.idxOf k : Nat), H2, I2.tok _, ⟨_, rfl⟩, q⟩
end
/-! ### sorted(t), t a tuple of ints -/
section
variable {prog : Program} {w : World} {A : Around} {E : Value → Shared → Prop} {s : Shared}
theorem sorted_tup {t : Addr} {vs : List Value} {ns : List Int} {Q : Value → Shared → Prop} (ht : IsTup s.heap t vs.toArray) (hI : IntsAre vs ns) (hz : vs.length < 64)
    (h : ∀ (h1 h' : Heap) (out : List Value) (ns' : List Int) (n : Nat), (∀ b o, s.heap.get? b = some o → h1.get? b = some o) → (∀ b o, h1.get? b = some o → h'.get? b = some o) → h'.get? h1.objs.size = some { cls := .type "list", data := .seq out.toArray n } →
      IntsAre out ns' → ns'.Perm ns → ns'.Pairwise (· ≤ ·) → Q (.ref h1.objs.size) { s with heap := h' }) :
    wpAny (model prog w) A (PySem.call (.builtin "sorted") [.ref t]) Q E s := by
  have big : vs.toArray.size ≤ sizeLine := by
    rw [List.size_toArray]
    exact Nat.le_of_lt (small (by omega))
  obtain ⟨o, ho, hc, n, hd⟩ := ht
  refine Calls.call_function_entry PyProof.Rows.kind_sorted PyProof.Rows.plain_sorted PyProof.Rows.entry_sorted (PyProof.Rows.args_sorted1 _) ?_
  unfold Builtin.«sorted»
  refine wpAny_bind (m := checkCount "sorted" 1 1 _) (wpAny_pure (wpAny_bind (wpAny_collect_seq t (.inr rfl) ho hc hd (fun h1 keeps => ?_) big)))
  refine wpAny_bind (wpAny_newList ?_)
  have e1 : vs.toArray.toList = vs := by simp
  rw [e1]
  have new : (h1.push (PyProof.Rows.seqObj "list" vs.toArray 0)).get? h1.objs.size = some (PyProof.Rows.seqObj "list" vs.toArray 0) := Heap.get?_push_size _ rfl
  refine wpAny_bind (wpAny_holding (wpAny_call_entry PyProof.Rows.slot_list_sort ⟨_, new, rfl⟩ PyProof.Rows.entry_list_sort (PyProof.Rows.list_sort_tree new hI hz fun out ns' a1 a2 a3 => ⟨_, rfl, ?_⟩) (PyProof.Rows.args_list_sort _)))
  obtain ⟨ep, he⟩ := PyProof.Rows.sortedHeap_at (vs := vs) (out := out) new
  refine wpAny_pure ⟨_, rfl, h h1 _ out.toList ns' ep keeps (fun b u e => ?_) (by rw [Array.toArray_toList]; exact he) a1 a2 a3⟩
  rw [PyProof.Rows.sortedHeap_old (Nat.ne_of_lt (Heap.lt_size e)) (Heap.lt_size (Heap.get?_push_of_some _ e))]
  exact Heap.get?_push_of_some _ e
end
section
variable {X : Cx}
def rSortT (K : PySem.W.Frag) : List V → Hp → VK → Prop := fun xs H Q => ∃ (a : Addr) (ns : List Int), xs = [.ref a] ∧ SqT K H a (ns.map V.int) ∧ ns.length < 64 ∧
  ∀ (ns' : List Int) (p : Addr), ns'.Perm ns → ns'.Pairwise (· ≤ ·) → H p = none → Q (.ref p) (upd H p (.lst (ns'.map V.int)))
theorem cr_sortTup : CallR X (.builtin "sorted") (rSortT X.K) := by
  intro pins s σ H xs us Q I rel h
  obtain ⟨a, ns, ex, hq, hlen, q⟩ := h
  subst ex
  obtain ⟨u, rfl, ru⟩ := rel.one
  have eu : u = .ref a := ru
  subst eu
  obtain ⟨items, rv, pl, _⟩ := I.tuple hq
  have hi := intsAre_of rv
  refine sorted_tup pl hi (by rw [hi.length]; exact hlen) fun h1 h' out ns' n k1 k2 he a1 a2 a3 => ?_
  have J : Inv X pins σ H { s with heap := h1 } := I.kept (t' := s.toks) k1
  have hz : (ns'.map V.int).length ≤ sizeLine := by
    rw [List.length_map, a2.length_eq]
    exact Nat.le_of_lt (small (by omega))
  have new : ObjOk X.prog X.w (upd H h1.objs.size (.lst (ns'.map V.int))) h' h1.objs.size (.lst (ns'.map V.int)) := And.intro hz ⟨out, n, vals_ints a1, he⟩
  exact ⟨.ref h1.objs.size, _, J.laid (t' := s.toks) k2 (Nat.le_refl _) new, rfl, q ns' _ a2 a3 (J.hok.fresh (Nat.le_refl _))⟩
end
end Gn

/-! Rl2: enumerate of a tuple. -/
namespace Gn
open PySem PySem.Spec PyProof.Rows L2 Gm
abbrev itO (t : Addr) : Obj := { cls := .type "tuple_iterator", data := .fields #[.ref t, .int 0 0] }
abbrev enO (i : Addr) : Obj := { cls := .type "enumerate", data := .fields #[.none, .bool false, .ref i, rawInt 0, .none, .none] }
theorem meets_enumT (t : Addr) (items : Array Value) : Meets (Builtin.«enumerate.__new__» ⟨[.type "enumerate", .ref t], []⟩) (fun _ R s => s.heap.IsTuple t items ∧
      R (.ok (.ret (.ref (s.heap.push (itO t)).objs.size))) { s with heap := (s.heap.push (itO t)).push (enO s.heap.objs.size) }) := by
  refine .of_wp fun prog w A R s h => ?_
  obtain ⟨hp, g, d, tk, os⟩ := s
  obtain ⟨ht, h⟩ := h
  have hsub := sub_enumerate
  wp_walk using wpAny_pyIter_tuple ht
  refine wpAny_stack_any fun st => wpAny_pure ?_
  split
  · rename_i c _ _ _ _ _
    cases (c == Value.type "enumerate") <;> (wp_walk using wpAny_pyIter_tuple ht) <;> exact ⟨_, rfl, h⟩
  · wp_walk using wpAny_pyIter_tuple ht
    exact ⟨_, rfl, h⟩
section
variable {prog : Program} {w : World} {A : Around} {E : Value → Shared → Prop} {s : Shared}
theorem call_enumT {t : Addr} {items : Array Value} {Q : Value → Shared → Prop} (ht : s.heap.IsTuple t items)
    (h : ∀ h', IsEnum h' (s.heap.objs.size + 1) s.heap.objs.size 0 .none → h'.IsTupleIter s.heap.objs.size t 0 → (∀ b o, s.heap.get? b = some o → h'.get? b = some o) → Q (.ref (s.heap.objs.size + 1)) { s with heap := h' }) :
    wpAny (model prog w) A (PySem.call (.type "enumerate") [.ref t]) Q E s := by
  refine callType_new F.called_enumerate (by decide) (F.typeCall_enumerate_1 _) (F.newCall_enumerate_1 _) (fun obj => F.args_object_init_2 obj _) F.entry_enumerate_new (meets_enumT t items) (And.intro ht ?_)
  have sz : (s.heap.push (itO t)).objs.size = s.heap.objs.size + 1 := Heap.size_push ..
  have it1 : (s.heap.push (itO t)).get? s.heap.objs.size = some (itO t) := Heap.get?_push_size _ rfl
  have en1 : ((s.heap.push (itO t)).push (enO s.heap.objs.size)).get? (s.heap.push (itO t)).objs.size = some (enO s.heap.objs.size) := Heap.get?_push_size _ rfl
  rw [sz] at en1
  show _ ∧ _
  rw [sz]
  exact ⟨⟨_, en1, rfl⟩, h _ en1 ⟨_, Heap.get?_push_of_some _ it1, rfl, rfl⟩ fun b o z => Heap.get?_push_of_some _ (Heap.get?_push_of_some _ z)⟩
end
/-- the tuple at a, each item in a new pair behind its place -/
def JEnT (K : PySem.W.Frag) (a : Addr) : It where
  go := fun i H => ∃ (xs : List V) (x : V), SqT K H a xs ∧ xs[i]? = some x
  yld := fun i H v H' => ∃ T x, v = .ref T ∧ H T = none ∧ H' = upd H T (.tup [.int (i : Nat), x]) ∧ ∀ xs, SqT K H a xs → xs[i]? = some x
  stop := fun i H => ∃ xs : List V, SqT K H a xs ∧ i = xs.length
theorem turn_enT {P : Program} {w : World} {K : PySem.W.Frag} {elts : List Expr} {kk : Nat} {tpos : Pos} (a e it : Addr) :
    Turn P w K (.Tuple elts kk tpos) (JEnT K a) [e, it] e (fun i h => (∃ old, IsEnum h e it ((i : Nat) : Int) old) ∧ h.IsTupleIter it a i ∧ e ≠ it ∧ a ≠ it) := by
  refine ⟨by simp, ?_, ?_, ?_, ?_, ?_⟩
  · rintro i h ⟨⟨old, he⟩, ⟨o, ho, hc, hd⟩, _⟩ b hb
    rcases List.mem_cons.mp hb with rfl | hb
    · exact ⟨_, he, fun v q => nomatch q⟩
    · rw [List.mem_singleton.mp hb]
      exact ⟨o, ho, fun v q => by rw [hd] at q; cases q⟩
  · rintro i h h' ⟨⟨old, he⟩, hi, hne⟩ k
    exact ⟨⟨old, k e (by simp) _ he⟩, hi.at fun o q => k it (by simp) o q, hne⟩
  · intro X hP hw hK hc i pins s σ H E I hf st hg
    subst hP hw hK
    obtain ⟨⟨old, he⟩, hit, hne, hai⟩ := st
    obtain ⟨xs, x, hq, hx⟩ := hg
    obtain ⟨items, rv, pl, hz⟩ := I.tuple hq
    obtain ⟨u, hu, ru⟩ := rv.get hx
    have el : e < s.heap.objs.size := Heap.lt_size he
    have il : it < s.heap.objs.size := by obtain ⟨_, q, _⟩ := hit; exact Heap.lt_size q
    have ilt : i < items.toArray.size := by
      rw [List.size_toArray]
      exact (List.getElem?_eq_some_iff.mp hu).1
    have hea : e ≠ a := fun z => by
      obtain ⟨o, ho, hc', _⟩ := pl
      have he' : s.heap.get? e = some _ := he
      rw [z, ho] at he'
      cases he'
      exact absurd hc' (by intro q; injection q with q; exact absurd q (by decide))
    have D := Draws.tuple (prog := X.prog) (w := X.w) (A := X.A.in1) (show X.A.in1.handled = none from I.ok.hd hc) it a hai items.toArray
    refine wpAny_pyNext_enum_itemD D he ⟨hit, pl⟩ ilt hne (by simp [hne, hea]) fun y h' tk hy ho st' hT hsz hk => ?_
    have ey : y = u := by
      have hy' : items.toArray[i]? = some y := hy
      rw [List.getElem?_toArray, hu] at hy'
      exact (Option.some.inj hy').symm
    subst ey
    refine ⟨_, rfl, wpAny_letOwnedTupleGo_enum (s := { s with heap := h', toks := tk + 1 }) ho fun h'' he' sb => ?_⟩
    have hT2 : h''.get? s.heap.objs.size = some { cls := .type "tuple", data := .seq #[.int i tk, y] } := (sb.2 _ (Nat.ne_of_gt el)).trans hT
    have new : ObjOk X.prog X.w (upd H s.heap.objs.size (.tup [.int (i : Nat), x])) h'' s.heap.objs.size (.tup [.int (i : Nat), x]) :=
      And.intro (by show 2 ≤ sizeLine; decide) ⟨[.int i tk, y], .cons ⟨_, rfl⟩ (.cons ru .nil), ⟨_, hT2, rfl, _, rfl⟩⟩
    have kp : ∀ b o, b ∉ [e, it] → s.heap.get? b = some o → h''.get? b = some o := fun b o hb q => by
      have n1 : b ≠ e := fun z => hb (by simp [z])
      have n2 : b ≠ it := fun z => hb (by simp [z])
      exact (sb.2 b n1).trans (hk b o n1 n2 q)
    have I1 : Inv X pins σ (upd H s.heap.objs.size (.tup [.int (i : Nat), x])) { s with heap := h'', toks := tk + 1 } := I.turnedNew (ch := [e, it]) kp hf (Nat.le_refl _) new
    refine ⟨.ref s.heap.objs.size, _, I1, rfl, ⟨_, x, rfl, I.hok.fresh (Nat.le_refl _), rfl, fun ys hy => by rw [I.tuple_inj hy hq]; exact hx⟩, ⟨⟨y, ?_⟩, st'.1.at fun o q => (sb.2 it (Ne.symm hne)).trans q, hne, hai⟩, fun b hb => ?_⟩
    · have c : ((i + 1 : Nat) : Int) = (i : Int) + 1 := by omega
      rw [c]
      exact he'
    · have lt : b < s.heap.objs.size := by
        rcases List.mem_cons.mp hb with rfl | hb
        · exact el
        · rw [List.mem_singleton.mp hb]; exact il
      rw [upd_ne (Nat.ne_of_lt lt)]
      exact (hf b hb).1
  · intro X hP hw hK hc i pins s σ H E I hf st hg
    subst hP hw hK
    obtain ⟨⟨old, he⟩, hit, hne, hai⟩ := st
    obtain ⟨xs, hq, hx⟩ := hg
    obtain ⟨items, rv, pl, hz⟩ := I.tuple hq
    obtain ⟨f0, f1, f2, f3, f4, f5⟩ := hf it (by simp)
    have hl := rv.length
    have ei : i = items.toArray.size := by
      rw [List.size_toArray, ← hl]
      exact hx
    subst ei
    have D := Draws.tuple (prog := X.prog) (w := X.w) (A := X.A.in1) (show X.A.in1.handled = none from I.ok.hd hc) it a hai items.toArray
    exact wpAny_pyNext_enum_endD D he ⟨hit, pl⟩ fun h' eb => ⟨rfl, I.turned (t' := s.toks) (fun b o hb q => eb b o hb q) f0 f1 f3 f4 f5⟩
  · intro A i s Q E st h
    obtain ⟨⟨_, he⟩, _⟩ := st
    exact wpAny_pyIter_enum he h
/-- for i, x in enumerate(t), t a tuple -/
def iEnT (K : PySem.W.Frag) (te : TE) : TI := fun σ H R => te σ H fun x H1 => ∃ a xs, x = .ref a ∧ SqT K H1 a xs ∧ R (JEnT K a) H1
theorem pi_enT {X : Cx} {e : Expr} {te : TE} {p pos tpos : Pos} {elts : List Expr} {kk : Nat} (hg : Gl X "enumerate") (hm : X.mg "enumerate" = none) (he : PE X e te) (na : starEach [e] X.env = (false, eval e X.env) :: starEach [] X.env := by rfl) :
    PI X (.Tuple elts kk tpos) (.Call (.Name "enumerate" p) [e] [] pos) (iEnT X.K te) := by
  constructor
  intro pins s σ H R I h
  refine Call_ (ld_blt I hg hm boot_enumerate (PyProof.Rows.callWith_type1 (one_arg he I h (fun v s1 x H1 I1 rx hx => ?_) na) na))
  obtain ⟨a, xs, ex, hq, q⟩ := hx
  subst ex
  have ev : v = .ref a := rx
  subst ev
  obtain ⟨items, rv, pl, hz⟩ := I1.tuple hq
  refine call_enumT pl fun h' hen hit hk => wpAny_pyIter_enum hen ?_
  have J : Inv X pins σ H1 { s1 with heap := h' } := I1.kept (t' := s1.toks) hk
  have ane : a ≠ s1.heap.objs.size := by
    obtain ⟨o, ho, _⟩ := pl
    exact Nat.ne_of_lt (Heap.lt_size ho)
  refine ⟨s1.heap.objs.size + 1, [s1.heap.objs.size + 1, s1.heap.objs.size], _, JEnT X.K a, H1, rfl, J, turn_enT a (s1.heap.objs.size + 1) s1.heap.objs.size, ⟨⟨.none, hen⟩, hit, Nat.succ_ne_self _, ane⟩, fun b hb => ?_, q⟩
  have le : s1.heap.objs.size ≤ b := by
    rcases List.mem_cons.mp hb with rfl | hb
    · exact Nat.le_succ _
    · rw [List.mem_singleton.mp hb]
      exact Nat.le_refl _
  exact I1.fpOk le (I1.hok.fresh le)
theorem walk_enT {K : PySem.W.Frag} {a : Addr} {xs : List V} : Walk (JEnT K a) xs.length (fun H => SqT K H a xs) (YPair (fun i => some (.int (i : Nat))) (fun i => xs[i]?)) where
  goes := fun i _ hi q => ⟨xs, xs[i], q, by simp [hi]⟩
  stops := fun _ q => ⟨xs, q, rfl⟩
  yields := fun i H v H' _ q y => by
    obtain ⟨T, x, h1, h2, h3, h4⟩ := y
    exact ⟨T, .int (i : Nat), x, h1, h2, h3, rfl, h4 xs q⟩
end Gn

/-! W3: least_in, product_of_moves, is_move_in, is_move. -/
namespace Gn
open PySem PySem.Spec PyProof.Rows L2 Gm
/-! ### ints as data -/
def dI (ns : List Int) : List PyData := ns.map PyData.int
theorem dp_ints {K : PySem.W.Frag} {H : Hp} : ∀ ns : List Int, DpAll K H (ns.map V.int) (dI ns)
  | [] => .nil
  | n :: ns => .cons (.int n) (dp_ints ns)
theorem lay_ints : ∀ ns : List Int, PyData.canLayAll0 (dI ns) = true
  | [] => rfl
  | n :: ns => by
    show (PyData.canLay0 (.int n) && PyData.canLayAll0 (dI ns)) = true
    rw [lay_ints ns]
    rfl
theorem deep_ints : ∀ ns : List Int, PyData.depthAll (dI ns) ≤ 1
  | [] => by decide
  | n :: ns => by
    have ih := deep_ints ns
    show max (PyData.depth (.int n)) (PyData.depthAll (dI ns)) ≤ 1
    have : PyData.depth (.int n) ≤ 1 := by first | decide | simp [PyData.depth]
    omega
theorem shL (ns : List Int) : SeqAt.shaped (.list (dI ns)) = true := by
  unfold SeqAt.shaped
  have h1 : PyData.canLay0 (.list (dI ns)) = true := lay_ints ns
  have h2 : PyData.depth (.list (dI ns)) ≤ 64 := by
    have := deep_ints ns
    show PyData.depthAll (dI ns) + 1 ≤ 64
    omega
  rw [h1, decide_eq_true h2]
  rfl
theorem shT (ns : List Int) : SeqAt.shaped (.tuple (dI ns)) = true := by
  unfold SeqAt.shaped
  have h1 : PyData.canLay0 (.tuple (dI ns)) = true := lay_ints ns
  have h2 : PyData.depth (.tuple (dI ns)) ≤ 64 := by
    have := deep_ints ns
    show PyData.depthAll (dI ns) + 1 ≤ 64
    omega
  rw [h1, decide_eq_true h2]
  rfl
theorem eqvL (ns : List Int) : PyData.eqv (.list (dI ns)) (.list (dI ns)) = true := SeqAt.eqv_refl _ (lay_ints ns)
theorem eqvT (ns : List Int) : PyData.eqv (.tuple (dI ns)) (.tuple (dI ns)) = true := SeqAt.eqv_refl _ (lay_ints ns)
/-- the places of a move -/
def nI (m : List Nat) : List Int := m.map fun n : Nat => (n : Int)
theorem mem_idl {d x : Nat} : x ∈ idl d ↔ x < d := List.mem_range
theorem Mv.perm {m : List Nat} (h : Mv m) : m.Perm (idl m.length) := by
  refine (List.perm_ext_iff_of_nodup h.nd (idl_mv _).nd).mpr fun x => ?_
  rw [mem_idl]
  constructor
  · exact h.lt x
  · intro hx
    obtain ⟨i, hi, e⟩ := h.pm.surj x hx
    rw [← e]
    exact ap_mem hi
theorem idl_sorted (d : Nat) : (nI (idl d)).Pairwise (· ≤ ·) := by
  unfold nI idl
  rw [List.pairwise_map]
  exact (List.pairwise_lt_range).imp fun h => by omega
theorem sorted_mv {m : List Nat} {ns : List Int} (h : Mv m) (hp : ns.Perm (nI m)) (hs : ns.Pairwise (· ≤ ·)) : ns = nI (idl m.length) :=
  List.Perm.eq_of_pairwise (fun x y _ _ a b => Int.le_antisymm a b) hs (idl_sorted _) (hp.trans (h.perm.map _))
section
variable {P : Program} {w : World} {K : PySem.W.Frag} {mg : Str → Option Value} {base : Heap}
/-! ### least_in -/
def spLeast (K : PySem.W.Frag) : Sp := fun vs H Q _ => ∃ (a : Addr) (m : List Nat), vs = [.ref a] ∧ SqT K H a (mv m) ∧ Mv m ∧ m.length ≤ 4096 ∧ ∀ H', Same H H' → Q (.int (lst m.length (ap m) : Nat)) H'
theorem okLeast {f fC : Addr} {fd fdC : FuncData} (F : Fun K "least_in" "least_in" sLeast f fd) (FC : Fun K "cycles_in" "cycles_in" sCycles fC fdC) (bC : Binds K fdC ["move"] []) (gC : mg "cycles_in" = some (.ref fC))
    (m1 : mg "len" = none) (m2 : mg "range" = none) (m3 : mg "tuple" = none) : FnOk P w K mg base CX0 2 f fd ["move"] (spLeast K) := by
  have GC : FnOk P w K mg base CX0 1 fC fdC ["move"] (spCycles K) := okCycles FC m1 m2 m3
  refine F.ok scLeast (fun vs H Q E h => ?_) (fun cdv A outer s H vs Q E hr h => ?_)
  · obtain ⟨a, m, rfl, _⟩ := h
    rfl
  · obtain ⟨a, m, rfl, hA, hm, hlen, q⟩ := h
    refine ⟨_, pss_one (ps_ret (pe_op op_sub (pe_callB call_len_seq (by rfl) m1 PySem.boot_len (pa_cons (pv 0) pa_nil))
      (pe_callB call_len_seq (by rfl) m1 PySem.boot_len (pa_cons (pe_call GC hr (by rfl) gC FC.kp bC .nil pass0 (pa_cons (pv 0) pa_nil)) pa_nil)))), ?_⟩
    refine ⟨.ref a, rfl, a, mv m, rfl, .inr hA, .ref a, rfl, a, m, rfl, hA, hm, hlen, fun H' p ps rs sm hp tu rg => ⟨p, _, rfl, .inl (SqL.of hp), _, _, rfl, rfl, ?_⟩⟩
    have e : ((mv m).length : Int) - ((ps.map V.ref).length : Nat) = ((lst m.length (ap m) : Nat) : Int) := by
      rw [mv_length, List.length_map, tu.1, rg.len]
      have := cyc_le m.length (ap m)
      unfold lst
      omega
    show Q (.int (((mv m).length : Int) - ((ps.map V.ref).length : Nat))) H'
    rw [e]
    exact q H' sm
/-! ### product_of_moves -/
theorem Row.take {d : Nat} {ms : List (List Nat)} (h : Row d ms) (i : Nat) : Row d (ms.take i) := fun m hm => h m (List.mem_of_mem_take hm)
theorem prd_take {d : Nat} {ms : List (List Nat)} {i : Nat} {m : List Nat} (h : ms[i]? = some m) : prd d (ms.take (i + 1)) = Gn.bhd (prd d (ms.take i)) m := by
  unfold prd
  rw [List.take_add_one, h, List.foldl_append]
  rfl
def spProd (K : PySem.W.Frag) : Sp := fun vs H Q _ => ∃ (d : Nat) (r : Addr) (ps : List Addr) (ms : List (List Nat)), vs = [.int (d : Int), .ref r] ∧ SqT K H r (ps.map V.ref) ∧ Tups K H ps ms ∧ Row d ms ∧ d ≤ 24 ∧
  ∀ H' p, Same H H' → SqT K H' p (mv (prd d ms)) → Q (.ref p) H'
theorem okProd {f fI fB : Addr} {fd fdI fdB : FuncData} (F : Fun K "product_of_moves" "product_of_moves" sProd f fd) (FI : Fun K "idle_in" "idle_in" sIdle fI fdI) (FB : Fun K "behind_in" "behind_in" sBehind fB fdB)
    (bI : Binds K fdI ["size"] []) (bB : Binds K fdB ["one", "other"] []) (gI : mg "idle_in" = some (.ref fI)) (gB : mg "behind_in" = some (.ref fB)) (m2 : mg "range" = none) (m3 : mg "tuple" = none) :
    FnOk P w K mg base CX0 2 f fd ["size", "some"] (spProd K) := by
  have GI : FnOk P w K mg base CX0 1 fI fdI ["size"] spIdle := okIdle FI m3 m2
  have GB : FnOk P w K mg base CX0 1 fB fdB ["one", "other"] (spBehind K) := okBehind FB m3
  refine F.ok scProd (fun vs H Q E h => ?_) (fun cdv A outer s H vs Q E hr h => ?_)
  · obtain ⟨d, r, ps, ms, rfl, _⟩ := h
    rfl
  · obtain ⟨d, r, ps, ms, rfl, hR, tu, row, hd, q⟩ := h
    have nd := scProd.nd
    refine ⟨_, pss_cons (ps_set (i := 2) nd rfl (.inl rfl) (pe_call GI hr (by rfl) gI FI.kp bI .nil pass0 (pa_cons (pv 0) pa_nil)))
      (pss_cons (ps_for PassesOwn.never rfl (pi_tup (pv 1)) (pg_name (i := 3) nd rfl (Or.inl rfl))
        (pss_one (ps_set (i := 2) nd rfl (.inl rfl) (pe_call GB hr (by rfl) gB FB.kp bB .nil pass0 (pa_cons (pv 2) (pa_cons (pv 3) pa_nil))))))
      (pss_one (ps_ret (pv 2)))), ?_⟩
    refine ⟨_, rfl, d, rfl, by omega, fun H1 p1 s1 e1 => ?_⟩
    refine ⟨_, rfl, r, rfl, ⟨_, Same.tup s1 hR⟩, for_tup (xs := ps.map V.ref) (fun i σ H2 => ∃ y3 p, σ = [some (.int (d : Int)), some (.ref r), some (.ref p), y3] ∧ Same H H2 ∧ SqT K H2 p (mv (prd d (ms.take i))))
      ⟨none, p1, rfl, s1, SqT.of e1⟩ (fun i σ H2 _ p => ?_) (fun i x σ H2 hx p => ?_) (fun σ H2 p => ?_)⟩
    · obtain ⟨y3, p, rfl, s2, _⟩ := p
      exact Same.tup s2 hR
    · obtain ⟨y3, p, rfl, s2, h2⟩ := p
      rw [List.getElem?_map] at hx
      cases hp : ps[i]? with
      | none => rw [hp] at hx; cases hx
      | some a =>
        rw [hp] at hx
        cases hx
        have hi : i < ms.length := by rw [← tu.1]; exact (List.getElem?_eq_some_iff.mp hp).1
        have hm : ms[i]? = some ms[i] := List.getElem?_eq_getElem hi
        have tm := tu.2 i a ms[i] hp hm
        obtain ⟨r1, r2⟩ := row ms[i] (List.getElem_mem hi)
        obtain ⟨k1, k2, _⟩ := prd_ok (row.take i)
        refine ⟨_, rfl, _, rfl, p, a, prd d (ms.take i), ms[i], rfl, h2, Same.tup s2 tm, fun x hx => ?_, by omega, fun H3 p3 s3 e3 => ?_⟩
        · have := k1.lt x hx
          omega
        · refine ⟨_, p3, rfl, s2.trans s3, ?_⟩
          rw [prd_take hm]
          exact SqT.of e3
    · obtain ⟨y3, p, rfl, s2, h2⟩ := p
      rw [List.length_map, tu.1, List.take_length] at h2
      exact ⟨_, rfl, q H2 p s2 h2⟩
/-! ### is_move_in, is_move -/
def spMoveIn (K : PySem.W.Frag) : Sp := fun vs H Q _ => ∃ (a : Addr) (m : List Nat), vs = [.int (m.length : Int), .ref a] ∧ SqT K H a (mv m) ∧ Mv m ∧ m.length ≤ 24 ∧ ∀ H', Same H H' → Q (.bl true) H'
theorem okMoveIn {f fI fW : Addr} {fd fdI fdW : FuncData} {t : Tok} (F : Fun K "is_move_in" "is_move_in" sMoveIn f fd) (FI : Fun K "is_integer" "is_integer" sInteger fI fdI) (FW : Fun K "is_whole" "is_whole" sWhole fW fdW)
    (bI : Binds K fdI ["value"] []) (bW : Binds K fdW ["value"] []) (gI : mg "is_integer" = some (.ref fI)) (gW : mg "is_whole" = some (.ref fW)) (gB : mg "BOUND" = some (.int big t))
    (m1 : mg "isinstance" = none) (m2 : mg "int" = none) (m3 : mg "bool" = none) (m4 : mg "tuple" = none) (m5 : mg "len" = none) (m6 : mg "all" = none) (m7 : mg "sorted" = none) (m8 : mg "list" = none) (m9 : mg "range" = none) :
    FnOk P w K mg base CX0 3 f fd ["size", "value"] (spMoveIn K) := by
  have GI : FnOk P w K mg base CX0 2 fI fdI ["value"] spInteger := okInteger FI FW bW gW gB m1 m2 m3
  refine F.ok scMoveIn (fun vs H Q E h => ?_) (fun cdv A outer s H vs Q E hr h => ?_)
  · obtain ⟨a, m, rfl, _⟩ := h
    rfl
  · obtain ⟨a, m, rfl, hA, hm, hlen, q⟩ := h
    have nd := scMoveIn.nd
    refine ⟨_, pss_cons (ps_if (PW.pt (pw_or (pt_not (pt_val (pe_callB call_isi (by rfl) m1 (by decide +kernel) (pa_cons (pv 1) (pa_cons (pe_bltn (v := .ty "tuple") (by rfl) m4 (by decide +kernel) rfl) pa_nil)))))
        (pw_or (pt_cmpR op_ne (pe_callB call_len_seq (by rfl) m5 PySem.boot_len (pa_cons (pv 1) pa_nil)) (pv 0) (nomark _))
        (pw_or1 (pt_not (pt_val (pe_callB (cr_all rfl) (by rfl) m6 (by decide +kernel) (pa_cons (pe_lc (own := [("one", 2)]) (g := gName 2) rfl nd (pi_tup (pv 1)) (blkOk_by (N := nMoveIn) (sc := defScope sMoveIn) (by decide +kernel))
          (fun _ _ _ _ _ => pg_name (i := 2) nd rfl (Or.inl rfl)) (fun _ _ _ _ _ => pts_nil) (fun _ _ _ _ _ => pe_call GI hr (by rfl) gI FI.kp bI .nil pass0 (pa_cons (pv 2) pa_nil))) pa_nil))))))))
        (pss_one (ps_ret pe_bl)) pss_nil)
      (pss_one (ps_ret (pe_cmpR (op_eqD hr.units) (pe_callB cr_sortTup (by rfl) m7 (by decide +kernel) (pa_cons (pv 1) pa_nil)) (pe_listRg rfl (by rfl) m8 (prg_1 (by rfl) m9 (pv 0))) (nomark _)))), ?_⟩
    refine ⟨.ref a, rfl, .ref a, .ty "tuple", .type "tuple", .type "tuple", true, rfl, .ty _, ty_tup hA, kit_ty (by decide +kernel), true, rfl, iteF ?_⟩
    refine ⟨.ref a, rfl, a, mv m, rfl, .inr hA, .int (m.length : Int), rfl, rfl, _, rfl, iteNS (by rw [mv_length]) ?_⟩
    refine ⟨.ref a, rfl, a, rfl, ⟨_, hA⟩, fun D nD => lc_tup (K := K) (a := a) (xs := mv m) (fun i H2 => Same H H2 ∧ H2 D = some (.lst ((List.replicate i true).map V.bl))) ⟨same_new nD, upd_same⟩
      (fun i H2 _ p => Same.tup p.1 hA) (fun i x H2 hx p => ?_) fun H2 p => ?_⟩
    · obtain ⟨e, eD⟩ := p
      have hi : i < m.length := by
        have := (List.getElem?_eq_some_iff.mp hx).1
        rw [mv_length] at this
        exact this
      have ex : x = .int (ap m i : Nat) := Option.some.inj (hx.symm.trans (mv_ap hi))
      subst ex
      have lt := hm.lt _ (ap_mem hi)
      have hb : (4096 : Int) < big := by decide +kernel
      refine ⟨rfl, .int (ap m i : Nat), rfl, _, rfl, by omega, by omega, _, eD, ?_, fun c o z => ?_, ?_⟩
      · rw [List.length_map, List.length_replicate]
        exact small (by omega)
      · rw [upd_ne (ne_of_none z nD)]
        exact e _ _ z
      · rw [upd_same, List.replicate_succ', List.map_append]
        rfl
    · obtain ⟨e, eD⟩ := p
      refine ⟨D, _, rfl, SqL.of eD, true, ?_, iteF ?_⟩
      · rw [mv_length]
        congr 1
        rw [List.all_eq_true]
        intro b hb
        exact List.eq_of_mem_replicate hb
      have hA2 : SqT K H2 a ((nI m).map V.int) := by
        have := Same.tup e hA
        rw [mv_ints] at this
        exact this
      refine ⟨.ref a, rfl, a, nI m, rfl, hA2, ?_, fun ns p hp hs np => ?_⟩
      · unfold nI
        rw [List.length_map]
        omega
      have en := sorted_mv hm hp hs
      subst en
      refine ⟨_, rfl, _, rfl, rgOk (by omega), fun u nu => ?_⟩
      have npu : p ≠ u := fun z => by rw [← z, upd_same] at nu; cases nu
      refine ⟨.list (dI (nI (idl m.length))), .list (dI (nI (idl m.length))), .lst (SqL.of ?_) (dp_ints _), .lst (SqL.of ?_) (dp_ints _), shL _, shL _, ?_⟩
      · rw [upd_ne npu, upd_same]
      · rw [upd_same, rgV_mv, mv_ints]
        rfl
      · rw [eqvL]
        exact q _ ((e.trans (same_new np)).trans (same_new nu))
/-! is_move -/
def spIsMove (K : PySem.W.Frag) : Sp := fun vs H Q _ => ∃ (a : Addr) (m : List Nat), vs = [.ref a] ∧ SqT K H a (mv m) ∧ Mv m ∧ 1 ≤ m.length ∧ m.length ≤ 24 ∧ ∀ H', Same H H' → Q (.bl true) H'
theorem okIsMove {f fM fI fW : Addr} {fd fdM fdI fdW : FuncData} {t t2 : Tok} (F : Fun K "is_move" "is_move" sIsMove f fd) (FM : Fun K "is_move_in" "is_move_in" sMoveIn fM fdM) (FI : Fun K "is_integer" "is_integer" sInteger fI fdI) (FW : Fun K "is_whole" "is_whole" sWhole fW fdW)
    (bM : Binds K fdM ["size", "value"] []) (bI : Binds K fdI ["value"] []) (bW : Binds K fdW ["value"] []) (gM : mg "is_move_in" = some (.ref fM)) (gI : mg "is_integer" = some (.ref fI)) (gW : mg "is_whole" = some (.ref fW)) (gB : mg "BOUND" = some (.int big t)) (gP : mg "MOST_PLACES" = some (.int 24 t2))
    (m1 : mg "isinstance" = none) (m2 : mg "int" = none) (m3 : mg "bool" = none) (m4 : mg "tuple" = none) (m5 : mg "len" = none) (m6 : mg "all" = none) (m7 : mg "sorted" = none) (m8 : mg "list" = none) (m9 : mg "range" = none) :
    FnOk P w K mg base CX0 4 f fd ["value"] (spIsMove K) := by
  have GM : FnOk P w K mg base CX0 3 fM fdM ["size", "value"] (spMoveIn K) := okMoveIn FM FI FW bI bW gI gW gB m1 m2 m3 m4 m5 m6 m7 m8 m9
  refine F.ok scIsMove (fun vs H Q E h => ?_) (fun cdv A outer s H vs Q E hr h => ?_)
  · obtain ⟨a, m, rfl, _⟩ := h
    rfl
  · obtain ⟨a, m, rfl, hA, hm, h1, hlen, q⟩ := h
    refine ⟨_, pss_one (ps_ret (pe_and (pe_callB call_isi (by rfl) m1 (by decide +kernel) (pa_cons (pv 0) (pa_cons (pe_bltn (v := .ty "tuple") (by rfl) m4 (by decide +kernel) rfl) pa_nil)))
      (pe_and (pe_chain op_le op_le pe_int (pe_callB call_len_seq (by rfl) m5 PySem.boot_len (pa_cons (pv 0) pa_nil)) (pe_glob (v := .int 24) (by rfl) gP ⟨_, rfl⟩))
      (pe_one (pe_call GM hr (by rfl) gM FM.kp bM .nil pass0 (pa_cons (pe_callB call_len_seq (by rfl) m5 PySem.boot_len (pa_cons (pv 0) pa_nil)) (pa_cons (pv 0) pa_nil))))))), ?_⟩
    refine ⟨.ref a, rfl, .ref a, .ty "tuple", .type "tuple", .type "tuple", true, rfl, .ty _, ty_tup hA, kit_ty (by decide +kernel), true, rfl, iteT ?_⟩
    refine ⟨.ref a, rfl, a, mv m, rfl, .inr hA, 1, _, rfl, rfl, true, ?_, iteT ⟨_, 24, rfl, rfl, true, ?_, iteT ?_⟩⟩
    · exact congrArg V.bl (decide_eq_true (by rw [mv_length]; omega))
    · exact congrArg V.bl (decide_eq_true (by rw [mv_length]; omega))
    · exact ⟨.ref a, rfl, a, mv m, rfl, .inr hA, .ref a, rfl, a, m, by rw [mv_length]; rfl, hA, hm, hlen, q⟩
end
end Gn

/-! W4: does_join_all. -/
namespace Gn
open PySem PySem.Spec PyProof.Rows L2 Gm
/-- the keys of a dict of places -/
structure Keys (kvs : List (Key × V)) (is : List Nat) : Prop where
  eq : kvs.map (·.1) = is.map fun n : Nat => (Sum.inl (n : Int) : Key)
theorem Keys.has {kvs : List (Key × V)} {is : List Nat} (h : Keys kvs is) (n : Nat) : (valV kvs (Sum.inl (n : Int))).isSome = true ↔ n ∈ is := by
  constructor
  · intro z
    obtain ⟨v, hv⟩ := Option.isSome_iff_exists.mp z
    have m := valV_in hv
    rw [h.eq, List.mem_map] at m
    obtain ⟨k, hk, e⟩ := m
    have : ((k : Int)) = (n : Int) := Sum.inl.inj e
    rw [← Int.ofNat.inj this]
    exact hk
  · intro z
    cases hv : valV kvs (Sum.inl (n : Int)) with
    | some v => rfl
    | none =>
      have m := valV_not hv
      rw [h.eq, List.mem_map] at m
      exact absurd ⟨n, z, rfl⟩ m
theorem Keys.put {kvs : List (Key × V)} {is : List Nat} (h : Keys kvs is) (n : Nat) (v : V) : ∃ js, Keys (putK kvs (Sum.inl (n : Int)) v) js ∧ ∀ k, k ∈ js ↔ k ∈ is ∨ k = n := by
  cases hv : valV kvs (Sum.inl (n : Int)) with
  | none =>
    refine ⟨is ++ [n], ⟨?_⟩, fun k => by rw [List.mem_append, List.mem_singleton]⟩
    rw [putK_new v hv, List.map_append, List.map_append, h.eq]
    rfl
  | some u =>
    have hin : n ∈ is := (h.has n).mp (by rw [hv]; rfl)
    refine ⟨is, ⟨?_⟩, fun k => ⟨.inl, fun z => z.elim id fun z => z ▸ hin⟩⟩
    have an : (kvs.any fun kv => decide (kv.1 = (Sum.inl (n : Int) : Key))) = true := by rw [valV_any, hv]; rfl
    unfold putK
    rw [if_pos an, List.map_map, ← h.eq]
    refine List.map_congr_left fun p _ => ?_
    show (if p.1 = Sum.inl (n : Int) then (p.1, v) else p).1 = p.1
    split <;> rfl
theorem bl_take (ns : List Nat) (i : Nat) (h : i < ns.length) (f : Nat → V) : (ns.take i).map f ++ [f (ap ns i)] = (ns.take (i + 1)).map f := by
  rw [List.take_add_one, ap_get h, List.map_append]
  rfl
section
variable {P : Program} {w : World} {K : PySem.W.Frag} {mg : Str → Option Value} {base : Heap}
def CJ (d : Nat) (ms : List (List Nat)) : (Nat → Nat) → Prop := fun f => ∀ m ∈ ms.map ap, Inv d m f
def spJoin (K : PySem.W.Frag) : Sp := fun vs H Q _ => ∃ (d : Nat) (r : Addr) (ps : List Addr) (ms : List (List Nat)), vs = [.int (d : Int), .ref r] ∧ SqT K H r (ps.map V.ref) ∧ Tups K H ps ms ∧ Row d ms ∧ 0 < d ∧ d ≤ 24 ∧
  ∀ H' b, Same H H' → (b = true ↔ Join d (ms.map ap)) → Q (.bl b) H'
theorem okJoin {f fC : Addr} {fd fdC : FuncData} (F : Fun K "does_join_all" "does_join_all" sJoin f fd) (FC : Fun K "cycles_in" "cycles_in" sCycles fC fdC) (bC : Binds K fdC ["move"] []) (gC : mg "cycles_in" = some (.ref fC))
    (m1 : mg "len" = none) (m2 : mg "range" = none) (m3 : mg "tuple" = none) (m4 : mg "list" = none) (m5 : mg "min" = none) (m6 : mg "all" = none) : FnOk P w K mg base CX0 2 f fd ["size", "some"] (spJoin K) := by
  have GC : FnOk P w K mg base CX0 1 fC fdC ["move"] (spCycles K) := okCycles FC m1 m2 m3
  refine F.ok scJoin (fun vs H Q E h => ?_) (fun cdv A outer s H vs Q E hr h => ?_)
  · obtain ⟨d, r, ps, ms, rfl, _⟩ := h
    rfl
  · obtain ⟨d, r, ps, ms, rfl, hR, tu, row, hd0, hd, q⟩ := h
    have nd := scJoin.nd
    have hu := hu_of hr
    refine ⟨_, pss_cons (ps_set (i := 2) nd rfl (.inr rfl) (pe_listRg rfl (by rfl) m4 (prg_1 (by rfl) m2 (pv 0))))
      (pss_cons (ps_for PassesOwn.never rfl (pi_tup (pv 1)) (pg_name (i := 3) nd rfl (Or.inl rfl))
        (pss_one (ps_for PassesOwn.never rfl (pi_list (pe_call GC hr (by rfl) gC FC.kp bC .nil pass0 (pa_cons (pv 3) pa_nil))) (pg_name (i := 4) nd rfl (Or.inl rfl))
          (pss_cons (ps_set (i := 5) nd rfl (.inr rfl) (pe_dc (own := [("place", 7)]) (g := gName 7) rfl nd (pi_tup (pv 4)) (blkOk_by (N := nJoin) (sc := defScope sJoin) (by decide +kernel))
            (fun _ _ _ _ _ => pg_name (i := 7) nd rfl (Or.inl rfl)) (fun _ _ _ _ _ => pts_nil) (fun _ _ _ _ _ => pe_ix (r := rIxL K) ix_list (pv 2) (pv 7) (fun _ _ => rfl)) (fun _ _ _ _ _ => pe_bl)))
          (pss_cons (ps_set (i := 6) nd rfl (.inr rfl) (pe_callB (cr_minK rfl) (by rfl) m5 (by decide +kernel) (pa_cons (pv 5) pa_nil)))
          (pss_one (ps_set (i := 2) nd rfl (.inr rfl) (pe_lc (own := [("name", 8)]) (g := gName 8) rfl nd (pi_list (pv 2)) (blkOk_by (N := nJoin) (sc := defScope sJoin) (by decide +kernel))
            (fun _ _ _ _ _ => pg_name (i := 8) nd rfl (Or.inl rfl)) (fun _ _ _ _ _ => pts_nil) (fun _ _ _ _ _ => pe_ifExp (pt_cmp (pc_din hu (pv 8) (pv 5))) (pv 6) (pv 8)))))))))) 
      (pss_one (ps_ret (pe_callB (cr_all rfl) (by rfl) m6 (by decide +kernel) (pa_cons (pe_lc (own := [("name", 8)]) (g := gName 8) rfl nd (pi_list (pv 2)) (blkOk_by (N := nJoin) (sc := defScope sJoin) (by decide +kernel))
            (fun _ _ _ _ _ => pg_name (i := 8) nd rfl (Or.inl rfl)) (fun _ _ _ _ _ => pts_nil) (fun _ _ _ _ _ => pe_cmpR op_eq (pv 8) pe_int (nomark _))) pa_nil))))), ?_⟩
    -- names = list(range(size))
    refine ⟨_, rfl, _, rfl, rgOk (by omega), fun N0 nN0 => ?_⟩
    rw [rgV_mv]
    have hC : ∀ m ∈ ms, ∀ f, CJ d ms f → Inv m.length (ap m) f := fun m hm f hf => by
      rw [(row m hm).2]
      exact hf _ (List.mem_map.mpr ⟨m, hm, rfl⟩)
    -- for move in some
    refine ⟨_, rfl, r, rfl, ⟨_, Same.tup (same_new nN0) hR⟩, for_tup (xs := ps.map V.ref) (fun i σ H1 => ∃ y3 y4 y5 y6, ∃ (N : Addr) (ns : List Nat), σ = [some (.int (d : Int)), some (.ref r), some (.ref N), y3, y4, y5, y6, none, none] ∧
      Same H H1 ∧ H1 N = some (.lst (mv ns)) ∧ ns.length = d ∧ Nm d (CJ d ms) (ap ns) ∧ ∀ m ∈ ms.take i, Inv d (ap m) (ap ns))
      ⟨none, none, none, none, N0, idl d, rfl, same_new nN0, upd_same, idl_len d, Nm.begin _ _ _ fun i hi => idl_ap hi, fun m hm => absurd hm (by simp)⟩ (fun i σ H1 _ p => ?_) (fun i x σ H1 hx p => ?_) (fun σ H1 p => ?_)⟩
    · obtain ⟨y3, y4, y5, y6, N, ns, rfl, s1, _⟩ := p
      exact Same.tup s1 hR
    · obtain ⟨y3, y4, y5, y6, N, ns, rfl, s1, eN, hl, nm, pr⟩ := p
      rw [List.getElem?_map] at hx
      cases hp : ps[i]? with
      | none => rw [hp] at hx; cases hx
      | some a =>
      rw [hp] at hx
      cases hx
      have hi : i < ms.length := by rw [← tu.1]; exact (List.getElem?_eq_some_iff.mp hp).1
      have hm : ms[i]? = some ms[i] := List.getElem?_eq_getElem hi
      have tm := Same.tup s1 (tu.2 i a ms[i] hp hm)
      obtain ⟨r1, r2⟩ := row ms[i] (List.getElem_mem hi)
      have hCm := hC ms[i] (List.getElem_mem hi)
      generalize ms[i] = m at hm tm r1 r2 hCm
      -- for ring in cycles_in(move)
      refine ⟨_, rfl, a, m, rfl, tm, r1, by omega, fun H2 L qs rs s2 eL tu2 rg => ⟨L, rfl, ⟨_, SqL.of eL⟩, for_list (xs := qs.map V.ref) (fun j σ H3 => ∃ y4 y5 y6, ∃ (N' : Addr) (ns' : List Nat),
        σ = [some (.int (d : Int)), some (.ref r), some (.ref N'), some (.ref a), y4, y5, y6, none, none] ∧ Same H2 H3 ∧ H3 N' = some (.lst (mv ns')) ∧ ns'.length = d ∧ Nm d (CJ d ms) (ap ns') ∧
        (∀ x y, x < d → y < d → ap ns x = ap ns y → ap ns' x = ap ns' y) ∧ ∀ u ∈ rs.take j, ∀ x ∈ u, ∀ y ∈ u, ap ns' x = ap ns' y)
        ⟨y4, y5, y6, N, ns, rfl, Same.refl _, s2 _ _ eN, hl, nm, fun _ _ _ _ e => e, fun u hu => absurd hu (by simp)⟩ (fun j σ H3 _ p => ?_) (fun j x σ H3 hx p => ?_) (fun σ H3 p => ?_)⟩⟩
      · obtain ⟨y4, y5, y6, N', ns', rfl, s3, _⟩ := p
        exact s3.seq (SqL.of eL)
      · obtain ⟨y4, y5, y6, N', ns', rfl, s3, eN', hl', nm', co, pr'⟩ := p
        rw [List.getElem?_map] at hx
        cases hq : qs[j]? with
        | none => rw [hq] at hx; cases hx
        | some tq =>
        rw [hq] at hx
        cases hx
        have hj : j < rs.length := by rw [← tu2.1]; exact (List.getElem?_eq_some_iff.mp hq).1
        have hu : rs[j]? = some rs[j] := List.getElem?_eq_getElem hj
        have tq3 := Same.tup s3 (tu2.2 j tq rs[j] hq hu)
        have rgu := rg.rg rs[j] (List.getElem_mem hj)
        generalize rs[j] = u at hu tq3 rgu
        have ult : ∀ x ∈ u, x < d := fun x hx => by have := rgu.lt x hx; omega
        have ulen : u.length ≤ 24 := by have := rgu.len; omega
        -- met = {..}
        refine ⟨_, rfl, tq, rfl, ⟨_, tq3⟩, fun D nD => dc_tup (K := K) (a := tq) (xs := mv u) (fun t H4 => Same H3 H4 ∧ ∃ (kvs : List (Key × V)) (is : List Nat), H4 D = some (.dK kvs) ∧ kvs.length ≤ t ∧ Keys kvs is ∧ ∀ n, n ∈ is ↔ ∃ x ∈ u.take t, ap ns' x = n)
          ⟨same_new nD, [], [], upd_same, Nat.le_refl _, ⟨rfl⟩, fun n => by simp⟩ (fun t H4 _ p => Same.tup p.1 tq3) (fun t x H4 hx p => ?_) (fun H4 p => ?_)⟩
        · obtain ⟨s4, kvs, is, eD, lk, ks, mem⟩ := p
          have ht : t < u.length := by
            have := (List.getElem?_eq_some_iff.mp hx).1
            rw [mv_length] at this
            exact this
          have ex : x = .int (ap u t : Nat) := Option.some.inj (hx.symm.trans (mv_ap ht))
          subst ex
          have xlt := ult _ (ap_mem ht)
          obtain ⟨js, kjs, mjs⟩ := ks.put (ap ns' (ap u t)) (.bl true)
          refine ⟨rfl, .ref N', rfl, .int (ap u t : Nat), rfl, N', mv ns', _, _, rfl, rfl, SqL.of (s4 _ _ eN'), atI_nat (mv_ap (by omega)), kvs, Sum.inl (ap ns' (ap u t) : Nat), rfl, eD, small (by omega), ?_⟩
          refine ⟨fun b o e => ?_, _, js, upd_same, Nat.le_trans (length_putK _ _ _) (by omega), kjs, fun n => ?_⟩
          · rw [upd_ne (ne_of_none e nD)]
            exact s4 b o e
          · rw [mjs, mem, List.take_add_one, ap_get ht]
            constructor
            · rintro (⟨x, hx, e⟩ | e)
              · exact ⟨x, List.mem_append_left _ hx, e⟩
              · exact ⟨ap u t, List.mem_append_right _ (List.mem_singleton.mpr rfl), e.symm⟩
            · rintro ⟨x, hx, e⟩
              rcases List.mem_append.mp hx with z | z
              · exact .inl ⟨x, z, e⟩
              · have : x = ap u t := List.mem_singleton.mp z
                exact .inr (by rw [← e, this])
        · obtain ⟨s4, kvs, is, eD, lk, ks, mem⟩ := p
          rw [mv_length, List.take_length] at mem
          -- least = min(met)
          refine ⟨.ref D, rfl, D, kvs, is.map fun n : Nat => (n : Int), rfl, eD, ?_, ?_, fun l hl hmin => ?_⟩
          · rw [ks.eq, List.map_map]
            rfl
          · intro z
            obtain ⟨x, hx⟩ := List.exists_mem_of_ne_nil u rgu.ne
            have := (mem (ap ns' x)).mpr ⟨x, hx, rfl⟩
            rw [List.map_eq_nil_iff] at z
            rw [z] at this
            exact absurd this (by simp)
          obtain ⟨ln, hln, el⟩ := List.mem_map.mp hl
          subst el
          have mg : Mg d (CJ d ms) (ap ns') u is ln := ⟨ult, fun f hf => rgu.one f (hCm f hf), mem, hln, fun n hn => by
            have := hmin (n : Int) (List.mem_map.mpr ⟨n, hn, rfl⟩)
            omega⟩
          -- names = [..]
          refine ⟨.ref N', rfl, N', rfl, ⟨_, SqL.of (s4 _ _ eN')⟩, fun D2 nD2 => lc_list (K := K) (a := N') (xs := mv ns') (fun t H5 => Same H4 H5 ∧ H5 D2 = some (.lst ((ns'.take t).map fun n : Nat => V.int ((if n ∈ is then ln else n : Nat) : Int))))
            ⟨same_new nD2, upd_same⟩ (fun t H5 _ p => p.1.seq (SqL.of (s4 _ _ eN'))) (fun t x H5 hx p => ?_) (fun H5 p => ?_)⟩
          · obtain ⟨s5, eD2⟩ := p
            have ht : t < ns'.length := by
              have := (List.getElem?_eq_some_iff.mp hx).1
              rw [mv_length] at this
              exact this
            have ex : x = .int (ap ns' t : Nat) := Option.some.inj (hx.symm.trans (mv_ap ht))
            subst ex
            have fin : Same H4 (upd H5 D2 (.lst ((ns'.take t).map (fun n : Nat => V.int ((if n ∈ is then ln else n : Nat) : Int)) ++ [.int ((if ap ns' t ∈ is then ln else ap ns' t : Nat) : Int)]))) ∧
                (upd H5 D2 (.lst ((ns'.take t).map (fun n : Nat => V.int ((if n ∈ is then ln else n : Nat) : Int)) ++ [.int ((if ap ns' t ∈ is then ln else ap ns' t : Nat) : Int)]))) D2 = some (.lst ((ns'.take (t + 1)).map fun n : Nat => V.int ((if n ∈ is then ln else n : Nat) : Int))) := by
              refine ⟨fun b o e => ?_, ?_⟩
              · rw [upd_ne (ne_of_none e nD2)]
                exact s5 b o e
              · rw [upd_same, bl_take ns' t ht fun n : Nat => V.int ((if n ∈ is then ln else n : Nat) : Int)]
            have lenok : ((ns'.take t).map fun n : Nat => V.int ((if n ∈ is then ln else n : Nat) : Int)).length < sizeLine := by
              rw [List.length_map, List.length_take]
              exact small (by omega)
            refine ⟨rfl, .int (ap ns' t : Nat), rfl, .ref D, rfl, D, _, rfl, DGet.k (k := Sum.inl ((ap ns' t : Nat) : Int)) (s5 _ _ eD), _, rfl, ?_⟩
            by_cases hin : ap ns' t ∈ is
            · rw [if_pos hin] at fin
              rw [(ks.has _).mpr hin]
              exact iteT ⟨_, rfl, _, eD2, lenok, fin⟩
            · rw [if_neg hin] at fin
              have e : (valV kvs (Sum.inl ((ap ns' t : Nat) : Int))).isSome = false := by
                cases z : (valV kvs (Sum.inl ((ap ns' t : Nat) : Int))).isSome with
                | false => rfl
                | true => exact absurd ((ks.has _).mp z) hin
              rw [e]
              exact iteF ⟨_, rfl, _, eD2, lenok, fin⟩
          · obtain ⟨s5, eD2⟩ := p
            rw [mv_length, List.take_length] at eD2
            have e2 : (ns'.map fun n : Nat => V.int ((if n ∈ is then ln else n : Nat) : Int)) = mv (ns'.map fun n => if n ∈ is then ln else n) := by
              unfold mv
              rw [List.map_map]
              rfl
            rw [e2] at eD2
            have ea : ∀ x, x < d → ap (ns'.map fun n => if n ∈ is then ln else n) x = mrg (ap ns') is ln x := fun x hx => get_ap (by
              rw [List.getElem?_map, ap_get (by omega)]
              rfl)
            have nm2 := nm'.merge mg
            refine ⟨_, _, _, D2, _, rfl, (s3.trans s4).trans s5, eD2, by rw [List.length_map]; exact hl', ⟨fun x hx => by rw [ea x hx]; exact nm2.le x hx, fun f hf x hx => by rw [ea x hx]; exact nm2.rel f hf x hx⟩, fun x y hx hy e => ?_, fun v hv x hx y hy => ?_⟩
            · rw [ea x hx, ea y hy]
              exact mrg_keep (co x y hx hy e)
            · rw [List.take_add_one, hu] at hv
              rcases List.mem_append.mp hv with z | z
              · have vr : v ∈ rs := List.mem_of_mem_take z
                have vlt := (rg.rg v vr).lt
                have h1 := vlt x hx
                have h2 := vlt y hy
                rw [ea x (by omega), ea y (by omega)]
                exact mrg_keep (pr' v z x hx y hy)
              · have ev : v = u := List.mem_singleton.mp z
                subst ev
                rw [ea x (ult x hx), ea y (ult y hy)]
                exact mg.same x hx y hy
      · obtain ⟨y4, y5, y6, N', ns', rfl, s3, eN', hl', nm', co, pr'⟩ := p
        rw [List.length_map, tu2.1, List.take_length] at pr'
        refine ⟨_, _, _, _, N', ns', rfl, (s1.trans s2).trans s3, eN', hl', nm', fun m' hm' => ?_⟩
        rw [List.take_add_one, hm] at hm'
        rcases List.mem_append.mp hm' with z | z
        · intro x hx
          have pmm := row.pm (ap m') (List.mem_map.mpr ⟨m', List.mem_of_mem_take z, rfl⟩)
          exact co _ _ (pmm.lt x hx) hx (pr m' z x hx)
        · have em : m' = m := List.mem_singleton.mp z
          subst em
          intro x hx
          obtain ⟨v, hv, hxv⟩ := rg.all x (by omega)
          exact pr' v hv _ ((rg.rg v hv).next x hxv) x hxv
    · obtain ⟨y3, y4, y5, y6, N, ns, rfl, s1, eN, hl, nm, pr⟩ := p
      rw [List.length_map, tu.1, List.take_length] at pr
      -- return all([..])
      refine ⟨.ref N, rfl, N, rfl, ⟨_, SqL.of eN⟩, fun D nD => lc_list (K := K) (a := N) (xs := mv ns) (fun t H2 => Same H1 H2 ∧ H2 D = some (.lst ((ns.take t).map fun n : Nat => V.bl (decide (V.int (n : Int) = V.int 0)))))
        ⟨same_new nD, upd_same⟩ (fun t H2 _ p => p.1.seq (SqL.of eN)) (fun t x H2 hx p => ?_) (fun H2 p => ?_)⟩
      · obtain ⟨s2, eD⟩ := p
        have ht : t < ns.length := by
          have := (List.getElem?_eq_some_iff.mp hx).1
          rw [mv_length] at this
          exact this
        have ex : x = .int (ap ns t : Nat) := Option.some.inj (hx.symm.trans (mv_ap ht))
        subst ex
        refine ⟨rfl, .int (ap ns t : Nat), rfl, rfl, _, eD, ?_, fun b o e => ?_, ?_⟩
        · rw [List.length_map, List.length_take]
          exact small (by omega)
        · rw [upd_ne (ne_of_none e nD)]
          exact s2 b o e
        · rw [upd_same, bl_take ns t ht fun n : Nat => V.bl (decide (V.int (n : Int) = V.int 0))]
      · obtain ⟨s2, eD⟩ := p
        rw [mv_length, List.take_length] at eD
        have e2 : (ns.map fun n : Nat => V.bl (decide (V.int (n : Int) = V.int 0))) = (ns.map fun n : Nat => decide (V.int (n : Int) = V.int 0)).map V.bl := by
          rw [List.map_map]
          rfl
        rw [e2] at eD
        refine ⟨D, _, rfl, SqL.of eD, q H2 _ (s1.trans s2) ?_⟩
        rw [List.all_eq_true, ← Nm.done hd0 nm (fun m hm => ?_)]
        · constructor
          · intro h i hi
            have := h _ (List.mem_map.mpr ⟨ap ns i, ap_mem (by omega), rfl⟩)
            have h2 : V.int ((ap ns i : Nat) : Int) = V.int 0 := of_decide_eq_true this
            injection h2 with h2
            omega
          · intro h b hb
            obtain ⟨n, hn, e⟩ := List.mem_map.mp hb
            obtain ⟨i, hi, e3⟩ := List.getElem_of_mem hn
            have := h i (by omega)
            rw [get_ap (List.getElem?_eq_getElem hi), e3] at this
            rw [← e, this]
            rfl
        · obtain ⟨m', hm', e⟩ := List.mem_map.mp hm
          rw [← e]
          exact pr m' hm'
end
end Gn

/-! W5: genus_in, genus_of_row. -/
namespace Gn
open PySem PySem.Spec PyProof.Rows L2 Gm
/-- the built-ins that the text names -/
structure Blt (mg : Str → Option Value) : Prop where
  isinstance : mg "isinstance" = none
  int : mg "int" = none
  bool : mg "bool" = none
  tuple : mg "tuple" = none
  range : mg "range" = none
  len : mg "len" = none
  list : mg "list" = none
  min : mg "min" = none
  max : mg "max" = none
  all : mg "all" = none
  any : mg "any" = none
  sorted : mg "sorted" = none
  sum : mg "sum" = none
  abs : mg "abs" = none
  enumerate : mg "enumerate" = none
abbrev rLenS (K : PySem.W.Frag) : List V → Hp → VK → Prop := fun xs H Q => ∃ p ys, xs = [.ref p] ∧ (SqL K H p ys ∨ SqT K H p ys) ∧ Q (.int ys.length) H
/-- the genus of a row as a number -/
def gnum (d : Nat) (ms : List (List Nat)) : Int := ((lstF d (ms.map ap) : Nat) : Int) - ((d : Int) - 2 + (cyc d (ap (prd d ms)) : Nat))
open Classical in
noncomputable def gen (d : Nat) (ms : List (List Nat)) : V := if Join d (ms.map ap) then .int (gnum d ms / 2) else .non
open Classical in
theorem gen_yes {d : Nat} {ms : List (List Nat)} (h : Join d (ms.map ap)) : gen d ms = .int (gnum d ms / 2) := if_pos h
open Classical in
theorem gen_no {d : Nat} {ms : List (List Nat)} (h : ¬ Join d (ms.map ap)) : gen d ms = .non := if_neg h
def lsts (d : Nat) (ms : List (List Nat)) : List Int := ms.map fun m => ((lst d (ap m) : Nat) : Int)
theorem lsts_sum (d : Nat) : ∀ ms : List (List Nat), (lsts d ms).sum = ((lstF d (ms.map ap) : Nat) : Int)
  | [] => rfl
  | m :: ms => by
    show ((lst d (ap m) : Nat) : Int) + (lsts d ms).sum = ((lst d (ap m) + lstF d (ms.map ap) : Nat) : Int)
    rw [lsts_sum d ms]
    omega
theorem refs_get {ps : List Addr} {i : Nat} {x : V} (h : (ps.map V.ref)[i]? = some x) : ∃ a, ps[i]? = some a ∧ x = .ref a := by
  rw [List.getElem?_map] at h
  cases hp : ps[i]? with
  | none => rw [hp] at h; cases h
  | some a =>
    rw [hp] at h
    cases h
    exact ⟨a, rfl, rfl⟩
/-- the i-th of a row in the heap -/
theorem Tups.nth {K : PySem.W.Frag} {H : Hp} {ps : List Addr} {ms : List (List Nat)} {i : Nat} {x : V} (tu : Tups K H ps ms) (h : (ps.map V.ref)[i]? = some x) : ∃ a m, x = .ref a ∧ ms[i]? = some m ∧ m ∈ ms ∧ SqT K H a (mv m) ∧ i < ms.length := by
  obtain ⟨a, hp, rfl⟩ := refs_get h
  have hi : i < ms.length := by rw [← tu.1]; exact (List.getElem?_eq_some_iff.mp hp).1
  exact ⟨a, ms[i], rfl, List.getElem?_eq_getElem hi, List.getElem_mem hi, tu.2 i a ms[i] hp (List.getElem?_eq_getElem hi), hi⟩
section
variable {P : Program} {w : World} {K : PySem.W.Frag} {mg : Str → Option Value} {base : Heap}
def spGenIn (K : PySem.W.Frag) : Sp := fun vs H Q _ => ∃ (d : Nat) (r : Addr) (ps : List Addr) (ms : List (List Nat)), vs = [.int (d : Int), .ref r] ∧ SqT K H r (ps.map V.ref) ∧ Tups K H ps ms ∧ Row d ms ∧ 0 < d ∧ d ≤ 24 ∧ ms.length ≤ 8 ∧
  ∀ H', Same H H' → Q (gen d ms) H'
theorem okGenIn {f fJ fC fP fL : Addr} {fd fdJ fdC fdP fdL : FuncData} (F : Fun K "genus_in" "genus_in" sGenIn f fd) (T : Blt mg)
    (GJ : FnOk P w K mg base CX0 2 fJ fdJ ["size", "some"] (spJoin K)) (gJ : mg "does_join_all" = some (.ref fJ)) (kJ : PySem.W.keepIn K (.ref fJ) = true) (bJ : Binds K fdJ ["size", "some"] [])
    (GC : FnOk P w K mg base CX0 1 fC fdC ["move"] (spCycles K)) (gC : mg "cycles_in" = some (.ref fC)) (kC : PySem.W.keepIn K (.ref fC) = true) (bC : Binds K fdC ["move"] [])
    (GP : FnOk P w K mg base CX0 2 fP fdP ["size", "some"] (spProd K)) (gP : mg "product_of_moves" = some (.ref fP)) (kP : PySem.W.keepIn K (.ref fP) = true) (bP : Binds K fdP ["size", "some"] [])
    (GL : FnOk P w K mg base CX0 2 fL fdL ["move"] (spLeast K)) (gL : mg "least_in" = some (.ref fL)) (kL : PySem.W.keepIn K (.ref fL) = true) (bL : Binds K fdL ["move"] []) :
    FnOk P w K mg base CX0 3 f fd ["size", "some"] (spGenIn K) := by
  refine F.ok scGenIn (fun vs H Q E h => ?_) (fun cdv A outer s H vs Q E hr h => ?_)
  · obtain ⟨d, r, ps, ms, rfl, _⟩ := h
    rfl
  · obtain ⟨d, r, ps, ms, rfl, hR, tu, row, hd0, hd, hml, q⟩ := h
    have nd := scGenIn.nd
    refine ⟨_, pss_cons (ps_if (pt_not (pt_val (pe_call GJ hr (by rfl) gJ kJ bJ .nil pass0 (pa_cons (pv 0) (pa_cons (pv 1) pa_nil))))) (pss_one (ps_ret pe_non)) pss_nil)
      (pss_cons (ps_set (i := 2) nd rfl (.inl rfl) (pe_callB call_len_seq (by rfl) T.len PySem.boot_len (pa_cons (pe_call GC (hr.mono (by decide)) (by rfl) gC kC bC .nil pass0
          (pa_cons (pe_call GP hr (by rfl) gP kP bP .nil pass0 (pa_cons (pv 0) (pa_cons (pv 1) pa_nil))) pa_nil)) pa_nil)))
      (pss_one (ps_ret (pe_op op_fdiv (pe_op op_sub (pe_callB (cr_sum rfl) (by rfl) T.sum (by decide +kernel) (pa_cons (pe_lc (own := [("move", 3)]) (g := gName 3) rfl nd (pi_tup (pv 1)) (blkOk_by (N := nGenIn) (sc := defScope sGenIn) (by decide +kernel))
            (fun _ _ _ _ _ => pg_name (i := 3) nd rfl (Or.inl rfl)) (fun _ _ _ _ _ => pts_nil) (fun _ _ _ _ _ => pe_call GL hr (by rfl) gL kL bL .nil pass0 (pa_cons (pv 3) pa_nil))) pa_nil))
          (pe_op op_add (pe_op op_sub (pv 0) pe_int) (pv 2))) pe_int)))), ?_⟩
    refine ⟨_, rfl, _, rfl, d, r, ps, ms, rfl, hR, tu, row, hd0, hd, fun H1 b s1 hb => ⟨b, rfl, ?_⟩⟩
    cases b with
    | false =>
      have nj : ¬ Join d (ms.map ap) := fun z => Bool.false_ne_true (hb.mpr z)
      refine iteT ?_
      have := q H1 s1
      rw [gen_no nj] at this
      exact this
    | true =>
      have jn : Join d (ms.map ap) := hb.mp rfl
      refine iteF ?_
      have hR1 := Same.tup s1 hR
      have tu1 := tu.same s1
      obtain ⟨pm1, pl, _⟩ := prd_ok row
      refine ⟨_, rfl, _, rfl, d, r, ps, ms, rfl, hR1, tu1, row, hd, fun H2 p s2 e2 => ⟨p, prd d ms, rfl, e2, pm1, by omega, fun H3 L qs rs s3 eL tu3 rg => ⟨L, _, rfl, .inl (SqL.of eL), ?_⟩⟩⟩
      have s13 := s1.trans (s2.trans s3)
      refine ⟨.ref r, rfl, r, rfl, ⟨_, Same.tup s13 hR⟩, fun D nD => lc_tup (K := K) (a := r) (xs := ps.map V.ref) (fun i H4 => Same H3 H4 ∧ H4 D = some (.lst ((lsts d (ms.take i)).map V.int))) ⟨same_new nD, upd_same⟩
        (fun i H4 _ p => Same.tup (s13.trans p.1) hR) (fun i x H4 hx p => ?_) (fun H4 p => ?_)⟩
      · obtain ⟨s4, eD⟩ := p
        obtain ⟨a, m, rfl, hm, hmm, tm, hi⟩ := (tu.same (s13.trans s4)).nth hx
        obtain ⟨r1, r2⟩ := row m hmm
        refine ⟨rfl, _, rfl, a, m, rfl, tm, r1, by omega, fun H5 s5 => ⟨_, s5 _ _ eD, ?_, fun b o e => ?_, ?_⟩⟩
        · unfold lsts
          rw [List.length_map, List.length_map, List.length_take]
          exact small (by omega)
        · rw [upd_ne (ne_of_none e nD)]
          exact s5 _ _ (s4 b o e)
        · rw [upd_same, List.take_add_one, hm, r2]
          unfold lsts
          rw [List.map_append, List.map_append]
          rfl
      · obtain ⟨s4, eD⟩ := p
        rw [List.length_map, tu.1, List.take_length] at eD
        refine ⟨D, lsts d ms, rfl, SqL.of eD, _, rfl, _, _, rfl, rfl, _, rfl, _, _, rfl, rfl, _, _, rfl, rfl, _, _, rfl, rfl, ⟨by decide, by decide⟩, ?_⟩
        have e : (lsts d ms).sum - ((d : Int) - 2 + ((qs.map V.ref).length : Nat)) = gnum d ms := by
          rw [lsts_sum, List.length_map, tu3.1, rg.len, pl]
          rfl
        have := q H4 (s13.trans s4)
        rw [gen_yes jn, ← e] at this
        exact this
/-! genus_of_row -/
def spGenus (K : PySem.W.Frag) : Sp := fun vs H Q _ => ∃ (d : Nat) (r : Addr) (ps : List Addr) (ms : List (List Nat)), vs = [.ref r] ∧ SqT K H r (ps.map V.ref) ∧ Tups K H ps ms ∧ Row d ms ∧ 0 < d ∧ d ≤ 24 ∧ 1 ≤ ms.length ∧ ms.length ≤ 8 ∧
  ∀ H', Same H H' → Q (gen d ms) H'
theorem okGenus {f fM fG : Addr} {fd fdM fdG : FuncData} {t : Tok} (F : Fun K "genus_of_row" "genus_of_row" sGenus f fd) (T : Blt mg) (gF : mg "MAX_FACTORS" = some (.int 8 t))
    (GM : FnOk P w K mg base CX0 4 fM fdM ["value"] (spIsMove K)) (gM : mg "is_move" = some (.ref fM)) (kM : PySem.W.keepIn K (.ref fM) = true) (bM : Binds K fdM ["value"] [])
    (GG : FnOk P w K mg base CX0 3 fG fdG ["size", "some"] (spGenIn K)) (gG : mg "genus_in" = some (.ref fG)) (kG : PySem.W.keepIn K (.ref fG) = true) (bG : Binds K fdG ["size", "some"] []) :
    FnOk P w K mg base CX0 5 f fd ["moves"] (spGenus K) := by
  refine F.ok scGenus (fun vs H Q E h => ?_) (fun cdv A outer s H vs Q E hr h => ?_)
  · obtain ⟨d, r, ps, ms, rfl, _⟩ := h
    rfl
  · obtain ⟨d, r, ps, ms, rfl, hR, tu, row, hd0, hd, h1, hml, q⟩ := h
    have nd := scGenus.nd
    refine ⟨_, pss_cons (ps_if (PW.pt (pw_or (pt_not (pt_val (pe_callB call_isi (by rfl) T.isinstance (by decide +kernel) (pa_cons (pv 0) (pa_cons (pe_bltn (v := .ty "tuple") (by rfl) T.tuple (by decide +kernel) rfl) pa_nil)))))
        (pw_or (pt_not (pt_chain op_le op_le pe_int (pe_callB call_len_seq (by rfl) T.len PySem.boot_len (pa_cons (pv 0) pa_nil)) (pe_glob (v := .int 8) (by rfl) gF ⟨_, rfl⟩)))
        (pw_or1 (pt_not (pt_val (pe_callB (cr_all rfl) (by rfl) T.all (by decide +kernel) (pa_cons (pe_lc (own := [("one", 1)]) (g := gName 1) rfl nd (pi_tup (pv 0)) (blkOk_by (N := nGenus) (sc := defScope sGenus) (by decide +kernel))
          (fun _ _ _ _ _ => pg_name (i := 1) nd rfl (Or.inl rfl)) (fun _ _ _ _ _ => pts_nil) (fun _ _ _ _ _ => pe_call GM hr (by rfl) gM kM bM .nil pass0 (pa_cons (pv 1) pa_nil))) pa_nil))))))))
        pss_never pss_nil)
      (pss_cons (ps_if (pt_val (pe_callB (cr_any rfl) (by rfl) T.any (by decide +kernel) (pa_cons (pe_lc (own := [("one", 1)]) (g := gName 1) rfl nd (pi_tup (pv 0)) (blkOk_by (N := nGenus) (sc := defScope sGenus) (by decide +kernel))
          (fun _ _ _ _ _ => pg_name (i := 1) nd rfl (Or.inl rfl)) (fun _ _ _ _ _ => pts_nil) (fun _ _ _ _ _ => pe_cmpR op_ne (pe_callB (r := rLenS K) call_len_seq (by rfl) T.len PySem.boot_len (pa_cons (pv 1) pa_nil))
            (pe_callB (r := rLenS K) call_len_seq (by rfl) T.len PySem.boot_len (pa_cons (pe_ix (r := rIxT K) ix_tup (pv 0) pe_int (fun _ _ => rfl)) pa_nil)) (nomark _))) pa_nil)))
        pss_never pss_nil)
      (pss_one (ps_ret (pe_call GG (hr.mono (by decide)) (by rfl) gG kG bG .nil pass0 (pa_cons (pe_callB call_len_seq (by rfl) T.len PySem.boot_len (pa_cons (pe_ix (r := rIxT K) ix_tup (pv 0) pe_int (fun _ _ => rfl)) pa_nil)) (pa_cons (pv 0) pa_nil)))))), ?_⟩
    refine ⟨.ref r, rfl, .ref r, .ty "tuple", .type "tuple", .type "tuple", true, rfl, .ty _, ty_tup hR, kit_ty (by decide +kernel), true, rfl, iteF ?_⟩
    have ln : (ps.map V.ref).length = ms.length := by rw [List.length_map, tu.1]
    refine ⟨.ref r, rfl, r, ps.map V.ref, rfl, .inr hR, 1, _, rfl, rfl, true, ?_, iteT ⟨_, 8, rfl, rfl, true, ?_, iteF ?_⟩⟩
    · exact congrArg V.bl (decide_eq_true (by rw [ln]; omega))
    · exact congrArg V.bl (decide_eq_true (by rw [ln]; omega))
    refine ⟨.ref r, rfl, r, rfl, ⟨_, hR⟩, fun D nD => lc_tup (K := K) (a := r) (xs := ps.map V.ref) (fun i H2 => Same H H2 ∧ H2 D = some (.lst ((List.replicate i true).map V.bl))) ⟨same_new nD, upd_same⟩
      (fun i H2 _ p => Same.tup p.1 hR) (fun i x H2 hx p => ?_) fun H2 p => ?_⟩
    · obtain ⟨s2, eD⟩ := p
      obtain ⟨a, m, rfl, hm, hmm, tm, hi⟩ := (tu.same s2).nth hx
      obtain ⟨r1, r2⟩ := row m hmm
      refine ⟨rfl, _, rfl, a, m, rfl, tm, r1, by omega, by omega, fun H3 s3 => ⟨_, s3 _ _ eD, ?_, fun b o e => ?_, ?_⟩⟩
      · rw [List.length_map, List.length_replicate]
        exact small (by omega)
      · rw [upd_ne (ne_of_none e nD)]
        exact s3 _ _ (s2 b o e)
      · rw [upd_same, List.replicate_succ', List.map_append]
        rfl
    obtain ⟨s2, eD⟩ := p
    refine ⟨D, _, rfl, SqL.of eD, true, ?_, iteF ?_⟩
    · congr 1
      rw [List.all_eq_true]
      intro b hb
      exact List.eq_of_mem_replicate hb
    -- the first move
    obtain ⟨m0, hm0⟩ : ∃ m, ms[0]? = some m := ⟨ms[0], List.getElem?_eq_getElem (by omega)⟩
    obtain ⟨a0, ha0⟩ : ∃ a, ps[0]? = some a := ⟨ps[0]'(by rw [tu.1]; omega), List.getElem?_eq_getElem _⟩
    have g0 : atI (ps.map V.ref) 0 = some (.ref a0) := atI_nat (j := 0) (by rw [List.getElem?_map, ha0]; rfl)
    obtain ⟨_, r02⟩ := row m0 (List.mem_of_getElem? hm0)
    have hR2 := Same.tup s2 hR
    refine ⟨.ref r, rfl, r, rfl, ⟨_, hR2⟩, fun D2 nD2 => lc_tup (K := K) (a := r) (xs := ps.map V.ref) (fun i H3 => Same H2 H3 ∧ H3 D2 = some (.lst ((List.replicate i false).map V.bl))) ⟨same_new nD2, upd_same⟩
      (fun i H3 _ p => Same.tup p.1 hR2) (fun i x H3 hx p => ?_) fun H3 p => ?_⟩
    · obtain ⟨s3, eD2⟩ := p
      have s23 := s2.trans s3
      obtain ⟨a, m, rfl, hm, hmm, tm, hi⟩ := (tu.same s23).nth hx
      obtain ⟨r1, r2⟩ := row m hmm
      refine ⟨rfl, _, rfl, a, mv m, rfl, .inr tm, .ref r, rfl, r, _, 0, .ref a0, rfl, rfl, Same.tup s23 hR, g0, a0, mv m0, rfl, .inr (Same.tup s23 (tu.2 0 a0 m0 ha0 hm0)), rfl, _, eD2, ?_, fun b o e => ?_, ?_⟩
      · rw [List.length_map, List.length_replicate]
        exact small (by omega)
      · rw [upd_ne (ne_of_none e nD2)]
        exact s3 _ _ e
      · rw [upd_same, List.replicate_succ', List.map_append, mv_length, mv_length, r2, r02]
        rw [decide_eq_true rfl]
        rfl
    obtain ⟨s3, eD2⟩ := p
    have s23 := s2.trans s3
    refine ⟨D2, _, rfl, SqL.of eD2, false, ?_, iteF ?_⟩
    · congr 1
      rw [List.any_eq_false]
      intro b hb
      rw [List.eq_of_mem_replicate hb]
      exact Bool.false_ne_true
    refine ⟨.ref r, rfl, r, _, 0, .ref a0, rfl, rfl, Same.tup s23 hR, g0, a0, mv m0, rfl, .inr (Same.tup s23 (tu.2 0 a0 m0 ha0 hm0)), .ref r, rfl, d, r, ps, ms, ?_, Same.tup s23 hR, tu.same s23, row, hd0, hd, hml, fun H' s4 => q H' (s23.trans s4)⟩
    rw [mv_length, r02]
    rfl
end
end Gn

/-! W6: the law's dice, rolls, shuffles, drawn moves, lots. -/
namespace Gn
open PySem PySem.Spec PyProof.Rows L2 Gm
/-- dice stand at D -/
def Dc (H : Hp) (D : Addr) : Prop := ∃ a b c : Int, H D = some (.lst [.int a, .int b, .int c])
theorem Dc.lst {H : Hp} {D : Addr} (h : Dc H D) : ∃ ys, H D = some (.lst ys) := by
  obtain ⟨a, b, c, e⟩ := h
  exact ⟨_, e⟩
theorem Dc.same {H H' : Hp} {D : Addr} (h : Dc H D) (e : Same H H') : Dc H' D := by
  obtain ⟨a, b, c, k⟩ := h
  exact ⟨a, b, c, e _ _ k⟩
section
variable {P : Program} {w : World} {K : PySem.W.Frag} {mg : Str → Option Value} {base : Heap}
/-! ### _law_dice -/
def spDice (K : PySem.W.Frag) : Sp := fun vs H Q _ => ∃ (S : Addr) (ns : List Int) (i : Nat), vs = [.ref S, .int (i : Int)] ∧ SqL K H S (ns.map V.int) ∧ ns.length ≤ 63 ∧ i ≤ 100 ∧
  ∀ H' p, Same H H' → H p = none → Dc H' p → Q (.ref p) H'
theorem okDice {f : Addr} {fd : FuncData} {k : Nat} (F : Fun K "_law_dice" "_law_dice" sDice f fd) (T : Blt mg) : FnOk P w K mg base CX0 (k + 1) f fd ["_law_script", "_law_spot"] (spDice K) := by
  refine F.ok scDice (fun vs H Q E h => ?_) (fun cdv A outer s H vs Q E hr h => ?_)
  · obtain ⟨S, ns, i, rfl, _⟩ := h
    rfl
  · obtain ⟨S, ns, i, rfl, hS, hlen, hi, q⟩ := h
    have nd := scDice.nd
    refine ⟨_, pss_cons (ps_set (i := 2) nd rfl (.inl rfl) (pe_ifExp (pt_cmpR op_lt (pv 1) (pe_callB call_len_seq (by rfl) T.len PySem.boot_len (pa_cons (pv 0) pa_nil)) (nomark _))
        (pe_callTy call_int1 (by rfl) T.int (by decide +kernel) (pa_cons (pe_ix ix_list (pv 0) (pv 1) (fun _ _ => rfl)) pa_nil)) (pe_op op_add (pe_op op_mul pe_int (pv 1)) pe_int)))
      (pss_cons (ps_set (i := 3) nd rfl (.inl rfl) (pe_op op_mod (pe_callB (call_max2 rfl) (by rfl) T.max (by decide +kernel) (pa_cons pe_int (pa_cons (pe_op op_sub (pe_callB call_abs (by rfl) T.abs (by decide +kernel) (pa_cons (pv 2) pa_nil)) (pe_op op_pow pe_int pe_int)) pa_nil)))
        (pe_op op_mulW (pe_op op_pow pe_int pe_int) (pe_op op_pow pe_int pe_int))))
      (pss_one (ps_ret (pe_lst (pa_cons (pv 3) (pa_cons (pe_op op_add (pe_op op_add (pe_op op_add (pe_op op_mul (pe_op op_mod (pe_callB call_abs (by rfl) T.abs (by decide +kernel) (pa_cons (pv 2) pa_nil)) pe_int) pe_int) (pe_op op_mul pe_int (pv 1)))
        (pe_op op_mul pe_int (pe_callTy call_int1 (by rfl) T.int (by decide +kernel) (pa_cons (pe_cmpR op_lt (pv 2) pe_int (nomark _)) pa_nil)))) pe_int) (pa_cons pe_int pa_nil))))))), ?_⟩
    have ln : (ns.map V.int).length = ns.length := List.length_map _
    refine ⟨.int (i : Int), rfl, .ref S, rfl, S, _, rfl, .inl hS, _, _, rfl, rfl, _, rfl, ite2 (fun hlt => ?_) (fun _ => ?_)⟩
    · have hi2 : i < ns.length := by
        have := of_decide_eq_true hlt
        rw [ln] at this
        omega
      refine ⟨.ref S, rfl, .int (i : Int), rfl, S, _, _, .int ns[i], rfl, rfl, hS, atI_nat (by rw [List.getElem?_map, List.getElem?_eq_getElem hi2]; rfl), .inl ⟨_, rfl, ?_⟩⟩
      generalize ns[i] = cell
      refine ⟨_, rfl, _, rfl, _, _, rfl, rfl, ⟨by decide, by decide, by decide⟩, _, _, rfl, rfl, _, _, rfl, ?_⟩
      refine ⟨_, _, rfl, rfl, ⟨by decide, by decide, by decide⟩, _, _, rfl, rfl, ⟨by decide, by decide, by decide⟩, _, _, rfl, rfl, ?_, _, _, rfl, rfl, ?_, ?_⟩
      · show ((10 : Int) ^ Int.toNat 57).natAbs.log2 + ((10 : Int) ^ Int.toNat 60).natAbs.log2 < 1000000
        decide +kernel
      · show (0 : Int) < 10 ^ Int.toNat 57 * 10 ^ Int.toNat 60
        decide +kernel
      · refine ⟨_, rfl, _, rfl, _, rfl, _, _, rfl, rfl, (by decide : (0 : Int) < 1152921504606846883), _, _, rfl, rfl, .inr ⟨by decide, by decide⟩, _, rfl, _, _, rfl, rfl, .inl ⟨by decide, by decide⟩, _, _, rfl, rfl, ?_⟩
        refine ⟨_, rfl, _, _, rfl, rfl, .inr ⟨_, rfl, _, _, rfl, rfl, .inl ⟨by decide, by decide⟩, _, _, rfl, rfl, _, _, rfl, rfl, ?_⟩⟩
        exact ⟨by show 3 ≤ sizeLine; decide, fun p np => q _ p (same_new np) np ⟨_, _, _, upd_same⟩⟩
    · refine ⟨_, rfl, _, _, rfl, rfl, .inl ⟨by decide, by decide⟩, _, _, rfl, rfl, ?_⟩
      refine ⟨_, rfl, _, rfl, _, _, rfl, rfl, ⟨by decide, by decide, by decide⟩, _, _, rfl, rfl, _, _, rfl, ?_⟩
      refine ⟨_, _, rfl, rfl, ⟨by decide, by decide, by decide⟩, _, _, rfl, rfl, ⟨by decide, by decide, by decide⟩, _, _, rfl, rfl, ?_, _, _, rfl, rfl, ?_, ?_⟩
      · show ((10 : Int) ^ Int.toNat 57).natAbs.log2 + ((10 : Int) ^ Int.toNat 60).natAbs.log2 < 1000000
        decide +kernel
      · show (0 : Int) < 10 ^ Int.toNat 57 * 10 ^ Int.toNat 60
        decide +kernel
      · refine ⟨_, rfl, _, rfl, _, rfl, _, _, rfl, rfl, (by decide : (0 : Int) < 1152921504606846883), _, _, rfl, rfl, .inr ⟨by decide, by decide⟩, _, rfl, _, _, rfl, rfl, .inl ⟨by decide, by decide⟩, _, _, rfl, rfl, ?_⟩
        refine ⟨_, rfl, _, _, rfl, rfl, .inr ⟨_, rfl, _, _, rfl, rfl, .inl ⟨by decide, by decide⟩, _, _, rfl, rfl, _, _, rfl, rfl, ?_⟩⟩
        exact ⟨by show 3 ≤ sizeLine; decide, fun p np => q _ p (same_new np) np ⟨_, _, _, upd_same⟩⟩
/-! ### _law_roll -/
def spRoll : Sp := fun vs H Q _ => ∃ (D : Addr) (t : Nat), vs = [.ref D, .int (t : Int)] ∧ Dc H D ∧ 0 < t ∧ t ≤ 1000 ∧ ∀ H' (n : Nat), But D H H' → Dc H' D → n < t → Q (.int (n : Int)) H'
theorem mod_nat (x : Int) {t : Nat} (h : 0 < t) : ∃ n : Nat, n < t ∧ x % (t : Int) = (n : Int) := by
  have h1 := Int.emod_nonneg x (show (t : Int) ≠ 0 by omega)
  have h2 := Int.emod_lt_of_pos x (show (0 : Int) < (t : Int) by omega)
  exact ⟨(x % (t : Int)).toNat, by omega, by omega⟩
theorem okRoll {f : Addr} {fd : FuncData} {k : Nat} (F : Fun K "_law_roll" "_law_roll" sRoll f fd) (T : Blt mg) : FnOk P w K mg base CX0 (k + 1) f fd ["_law_dice_here", "_law_total"] spRoll := by
  refine F.ok scRoll (fun vs H Q E h => ?_) (fun cdv A outer s H vs Q E hr h => ?_)
  · obtain ⟨D, t, rfl, _⟩ := h
    rfl
  · obtain ⟨D, t, rfl, ⟨a, b, c, hD⟩, ht0, ht, q⟩ := h
    have nd := scRoll.nd
    refine ⟨_, pss_cons (ps_if (pt_cmpR op_gt (pe_ix ix_list (pv 0) pe_int (fun _ _ => rfl)) pe_int (nomark _))
        (pss_cons (ps_set (i := 2) nd rfl (.inl rfl) (pe_op op_mod (pe_callTy call_int1 (by rfl) T.int (by decide +kernel) (pa_cons (pe_ix ix_list (pv 0) pe_int (fun _ _ => rfl)) pa_nil)) (pv 1)))
        (pss_cons (ps_asg (pe_op op_fdiv (pe_ix ix_list (pv 0) pe_int (fun _ _ => rfl)) (pv 1)) (pg_sub (pv 0) pe_int set_list))
        (pss_one (ps_ret (pv 2))))) pss_nil)
      (pss_cons (ps_asg (pe_op op_add (pe_ix ix_list (pv 0) pe_int (fun _ _ => rfl)) pe_int) (pg_sub (pv 0) pe_int set_list))
      (pss_cons (ps_set (i := 3) nd rfl (.inl rfl) (pe_op op_mod (pe_callTy call_int1 (by rfl) T.int (by decide +kernel) (pa_cons (pe_op op_add (pe_ix ix_list (pv 0) pe_int (fun _ _ => rfl)) (pe_op op_mul pe_int (pe_ix ix_list (pv 0) pe_int (fun _ _ => rfl)))) pa_nil)) pe_int))
      (pss_cons (ps_set (i := 4) nd rfl (.inl rfl) (pe_op op_add (pe_op op_mul (pe_op op_mod (pe_callTy call_int1 (by rfl) T.int (by decide +kernel) (pa_cons (pe_op op_add (pe_op op_mul (pv 3) (pv 3)) (pe_op op_mul pe_int (pe_ix ix_list (pv 0) pe_int (fun _ _ => rfl)))) pa_nil)) pe_int) pe_int) (pv 3)))
      (pss_one (ps_ret (pe_op op_mod (pe_callTy call_int1 (by rfl) T.int (by decide +kernel) (pa_cons (pe_op op_fdiv (pv 4) pe_int) pa_nil)) (pv 1))))))), ?_⟩
    have at0 : ∀ x y z : Int, atI [V.int x, V.int y, V.int z] 0 = some (.int x) := fun x y z => atI_nat (j := 0) rfl
    have at1 : ∀ x y z : Int, atI [V.int x, V.int y, V.int z] 1 = some (.int y) := fun x y z => atI_nat (j := 1) rfl
    have at2 : ∀ x y z : Int, atI [V.int x, V.int y, V.int z] 2 = some (.int z) := fun x y z => atI_nat (j := 2) rfl
    refine ⟨_, rfl, D, _, _, _, rfl, rfl, SqL.of hD, at0 a b c, _, _, rfl, rfl, _, rfl, ite2 (fun _ => ?_) (fun _ => ?_)⟩
    · refine ⟨_, rfl, D, _, _, _, rfl, rfl, SqL.of hD, at0 a b c, .inl ⟨_, rfl, _, rfl, _, _, rfl, rfl, (by show (0 : Int) < (t : Int); omega), ?_⟩⟩
      obtain ⟨n, hn, en⟩ := mod_nat a ht0
      refine ⟨_, rfl, D, _, _, _, rfl, rfl, SqL.of hD, at0 a b c, _, rfl, _, _, rfl, rfl, ⟨by omega, by omega⟩, ?_⟩
      refine ⟨_, rfl, D, _, _, 0, rfl, rfl, hD, rfl, ?_⟩
      refine ⟨_, rfl, ?_⟩
      show Q (.int (a % (t : Int))) _
      rw [en]
      exact q _ n (But.upd D) ⟨_, _, _, upd_same⟩ hn
    · refine ⟨_, rfl, D, _, _, _, rfl, rfl, SqL.of hD, at2 a b c, _, _, rfl, rfl, _, rfl, D, _, _, 2, rfl, rfl, hD, rfl, ?_⟩
      have h2 : (upd H D (.lst [.int a, .int b, .int (c + 1)])) D = some (.lst [.int a, .int b, .int (c + 1)]) := upd_same
      refine ⟨_, rfl, D, _, _, _, rfl, rfl, SqL.of h2, at1 a b (c + 1), _, rfl, D, _, _, _, rfl, rfl, SqL.of h2, at2 a b (c + 1), _, _, rfl, rfl, .inl ⟨by decide, by decide⟩, _, _, rfl, rfl, .inl ⟨_, rfl, _, _, rfl, rfl, (by decide : (0 : Int) < 2305843009213693403), ?_⟩⟩
      generalize he : (b + 99990001 * (c + 1)) % 2305843009213693403 = e
      have e0 : 0 ≤ e := by rw [← he]; exact Int.emod_nonneg _ (by decide)
      have e1 : e < 2305843009213693403 := by rw [← he]; exact Int.emod_lt_of_pos _ (by decide)
      refine ⟨_, rfl, _, rfl, _, _, rfl, rfl, .inl ⟨by omega, by omega⟩, _, rfl, D, _, _, _, rfl, rfl, SqL.of h2, at2 a b (c + 1), _, _, rfl, rfl, .inl ⟨by decide, by decide⟩, _, _, rfl, rfl, .inl ⟨_, rfl, _, _, rfl, rfl, (by decide : (0 : Int) < 2305843009213693373), _, _, rfl, rfl, .inr ⟨by decide, by decide⟩, _, rfl, _, _, rfl, rfl, ?_⟩⟩
      refine ⟨_, rfl, _, _, rfl, rfl, ⟨by decide, by decide⟩, .inl ⟨_, rfl, _, rfl, _, _, rfl, rfl, (by show (0 : Int) < (t : Int); omega), ?_⟩⟩
      have fin : ∀ z : Int, Q (.int (z % (t : Int))) (upd H D (.lst [.int a, .int b, .int (c + 1)])) := fun z => by
        obtain ⟨n, hn, en⟩ := mod_nat z ht0
        rw [en]
        exact q _ n (But.upd D) ⟨_, _, _, h2⟩ hn
      exact fin _
/-! ### _law_shuffled, _law_move_drawn -/
def spShuf (K : PySem.W.Frag) : Sp := fun vs H Q _ => ∃ (D I : Addr) (xs : List Nat), vs = [.ref D, .ref I] ∧ Dc H D ∧ SqL K H I (mv xs) ∧ xs.length ≤ 1000 ∧
  ∀ H' p out, But D H H' → Dc H' D → H' p = some (.lst (mv out)) → out.Perm xs → Q (.ref p) H'
theorem mv_erase (l : List Nat) (i : Nat) : (mv l).eraseIdx i = mv (l.eraseIdx i) := by
  unfold mv
  rw [List.eraseIdx_eq_take_drop_succ, List.eraseIdx_eq_take_drop_succ, List.map_append, List.map_take, List.map_drop]
theorem erase_perm {l : List Nat} {n : Nat} (h : n < l.length) : ([ap l n] ++ l.eraseIdx n).Perm l := by
  have e : l = l.take n ++ ap l n :: l.drop (n + 1) := by
    have := List.drop_eq_getElem_cons h
    rw [get_ap (List.getElem?_eq_getElem h), ← this, List.take_append_drop]
  rw [List.eraseIdx_eq_take_drop_succ]
  conv => rhs; rw [e]
  show (ap l n :: (l.take n ++ l.drop (n + 1))).Perm (l.take n ++ ap l n :: l.drop (n + 1))
  exact List.perm_middle.symm
theorem okShuf {f fR : Addr} {fd fdR : FuncData} (F : Fun K "_law_shuffled" "_law_shuffled" sShuf f fd) (T : Blt mg)
    (GR : FnOk P w K mg base CX0 1 fR fdR ["_law_dice_here", "_law_total"] spRoll) (gR : mg "_law_roll" = some (.ref fR)) (kR : PySem.W.keepIn K (.ref fR) = true) (bR : Binds K fdR ["_law_dice_here", "_law_total"] []) :
    FnOk P w K mg base CX0 2 f fd ["_law_dice_here", "_law_items"] (spShuf K) := by
  refine F.ok scShuf (fun vs H Q E h => ?_) (fun cdv A outer s H vs Q E hr h => ?_)
  · obtain ⟨D, I, xs, rfl, _⟩ := h
    rfl
  · obtain ⟨D, I, xs, rfl, hD, hI, hlen, q⟩ := h
    have nd := scShuf.nd
    refine ⟨_, pss_cons (ps_par (i := 2) (j := 3) rfl nd rfl rfl (by decide) rfl rfl (pa_cons (pe_callTy call_list_of (by rfl) T.list (by decide +kernel) (pa_cons (pv 1) pa_nil)) (pa_cons (pe_lst pa_nil) pa_nil)) (by rfl))
      (pss_cons (ps_for PassesOwn.never rfl (pi_range1 rfl T.range (pa_cons (pe_callB call_len_seq (by rfl) T.len PySem.boot_len (pa_cons (pv 1) pa_nil)) pa_nil)) (pg_name (i := 4) nd rfl (Or.inl rfl))
        (pss_one (ps_expr (pe_bm PySem.F.plainAttrs_list PySem.F.slot_list_append PySem.F.type_list_append mt_append (pv 3)
          (pa_cons (pe_bm PySem.F.plainAttrs_list PySem.F.slot_list_pop PySem.F.type_list_pop mt_popAt (pv 2)
            (pa_cons (pe_call GR hr (by rfl) gR kR bR .nil pass0 (pa_cons (pv 0) (pa_cons (pe_callB call_len_seq (by rfl) T.len PySem.boot_len (pa_cons (pv 2) pa_nil)) pa_nil))) pa_nil)) pa_nil)))))
      (pss_one (ps_ret (pv 3)))), ?_⟩
    refine ⟨_, rfl, I, _, rfl, .inl hI, fun L nL => ⟨Nat.zero_le _, fun G nG => ⟨_, _, rfl, ?_⟩⟩⟩
    have nLG : L ≠ G := fun e => by rw [← e, upd_same] at nG; cases nG
    have s0 : Same H (upd (upd H L (.lst (mv xs))) G (.lst [])) := (same_new nL).trans (same_new nG)
    have nGH : H G = none := (same_new nL).free nG
    have ln : (((mv xs).length : Nat) : Int).toNat = xs.length := by rw [mv_length]; omega
    refine ⟨_, rfl, I, _, rfl, .inl (s0.seq hI), _, rfl, ?_, ?_, ?_⟩
    · rw [mv_length]; omega
    · rw [mv_length]; omega
    rw [ln]
    have nDL : D ≠ L := fun e => by
      obtain ⟨ys, hy⟩ := hD.lst
      rw [e, nL] at hy
      cases hy
    have nDG : D ≠ G := fun e => by
      obtain ⟨ys, hy⟩ := hD.lst
      rw [e, nGH] at hy
      cases hy
    refine for_range (lo := 0) (n := xs.length) (fun i σ H1 => ∃ y4, ∃ lf fn : List Nat, σ = [some (.ref D), some (.ref I), some (.ref L), some (.ref G), y4] ∧ But D H H1 ∧ Dc H1 D ∧ H1 L = some (.lst (mv lf)) ∧ H1 G = some (.lst (mv fn)) ∧
      fn.length = i ∧ lf.length + i = xs.length ∧ (fn ++ lf).Perm xs) ?h0 ?hs ?hd
    case h0 =>
      refine ⟨none, xs, [], rfl, Same.but s0, hD.same s0, ?_, upd_same, rfl, rfl, List.Perm.refl _⟩
      rw [upd_ne nLG, upd_same]
    case hd =>
      rintro σ H1 ⟨y4, lf, fn, rfl, b1, d1, e1, e2, l1, l2, pm⟩
      have : lf = [] := List.length_eq_zero_iff.mp (by omega)
      subst this
      rw [List.append_nil] at pm
      exact ⟨_, rfl, q H1 G fn b1 d1 e2 pm⟩
    case hs =>
      rintro i σ H1 hi ⟨y4, lf, fn, rfl, b1, d1, e1, e2, l1, l2, pm⟩
      have hlf : 0 < lf.length := by omega
      refine ⟨_, rfl, .inl ⟨rfl, _, SqL.of e2⟩, _, rfl, .inl ⟨rfl, _, SqL.of e1⟩, _, rfl, _, rfl, L, _, rfl, .inl (SqL.of e1), D, lf.length, by rw [mv_length]; rfl, d1, hlf, by omega, fun H2 n b2 d2 hn => ?_⟩
      have k1 : H2 L = some (.lst (mv lf)) := b2 _ _ nDL.symm e1
      have k2 : H2 G = some (.lst (mv fn)) := b2 _ _ nDG.symm e2
      refine ⟨L, _, _, n, .int (ap lf n : Nat), rfl, rfl, k1, by omega, by omega, ?_, mv_ap hn, ?_⟩
      · rw [mv_length]
        exact seqIndex_of (by omega) (by omega)
      have k3 : (upd H2 L (.lst ((mv lf).eraseIdx n))) G = some (.lst (mv fn)) := by rw [upd_ne nLG.symm]; exact k2
      refine ⟨G, _, _, rfl, rfl, k3, ?_, ?_⟩
      · rw [mv_length]
        exact small (by omega)
      rw [mv_erase]
      have e3 : mv fn ++ [V.int (ap lf n : Nat)] = mv (fn ++ [ap lf n]) := by
        rw [mv_append]
        rfl
      rw [e3]
      obtain ⟨da, db, dc, hd2⟩ := d2
      refine ⟨_, lf.eraseIdx n, fn ++ [ap lf n], rfl, fun b o nb e => ?_, ⟨da, db, dc, ?_⟩, ?_, upd_same, by rw [List.length_append, l1]; rfl, ?_, ?_⟩
      · rw [upd_ne (ne_of_none e nGH), upd_ne (ne_of_none e nL)]
        exact b2 b o nb (b1 b o nb e)
      · rw [upd_ne nDG, upd_ne nDL]
        exact hd2
      · rw [upd_ne nLG, upd_same]
      · rw [List.length_eraseIdx, if_pos hn]
        omega
      · refine List.Perm.trans ?_ pm
        rw [List.append_assoc]
        refine List.Perm.append_left fn ?_
        exact erase_perm hn
def spDrawn (K : PySem.W.Frag) : Sp := fun vs H Q _ => ∃ (D : Addr) (d : Nat), vs = [.ref D, .int (d : Int)] ∧ Dc H D ∧ d ≤ 24 ∧
  ∀ H' p m, But D H H' → Dc H' D → TupF H' p (mv m) → Mv m → m.length = d → Q (.ref p) H'
theorem okDrawn {f fS : Addr} {fd fdS : FuncData} (F : Fun K "_law_move_drawn" "_law_move_drawn" sDrawn f fd) (T : Blt mg)
    (GS : FnOk P w K mg base CX0 2 fS fdS ["_law_dice_here", "_law_items"] (spShuf K)) (gS : mg "_law_shuffled" = some (.ref fS)) (kS : PySem.W.keepIn K (.ref fS) = true) (bS : Binds K fdS ["_law_dice_here", "_law_items"] []) :
    FnOk P w K mg base CX0 3 f fd ["_law_dice_here", "_law_size"] (spDrawn K) := by
  refine F.ok scDrawn (fun vs H Q E h => ?_) (fun cdv A outer s H vs Q E hr h => ?_)
  · obtain ⟨D, d, rfl, _⟩ := h
    rfl
  · obtain ⟨D, d, rfl, hD, hd, q⟩ := h
    refine ⟨_, pss_one (ps_ret (pe_tupF (by rfl) T.tuple (pe_call GS hr (by rfl) gS kS bS .nil pass0 (pa_cons (pv 0) (pa_cons (pe_listRg rfl (by rfl) T.list (prg_1 (by rfl) T.range (pv 1))) pa_nil))))), ?_⟩
    refine ⟨_, rfl, _, rfl, _, rfl, rgOk (by omega), fun L nL => ⟨D, L, idl d, rfl, hD.same (same_new nL), SqL.of (by rw [upd_same, rgV_mv]), by rw [idl_len]; omega, fun H1 p out b1 d1 e1 pm => ⟨p, _, rfl, SqL.of e1, fun u o nu c1 c2 => ?_⟩⟩⟩
    have hm : Mv out := ⟨fun x hx => by
      have := pm.mem_iff.mp hx
      rw [pm.length_eq, idl_len]
      exact mem_idl.mp this, pm.nodup_iff.mpr (idl_mv d).nd⟩
    exact q _ u out ((Same.but (same_new nL)).trans (b1.trans (Same.but (same_new nu)))) (d1.same (same_new nu)) ⟨o, upd_same, c1, c2⟩ hm (by rw [pm.length_eq, idl_len])
/-! ### _law_lot_of -/
def spLotOf (K : PySem.W.Frag) : Sp := fun vs H Q _ => ∃ (L : Addr) (ns : List Int), vs = [.ref L] ∧ SqL K H L (ns.map V.int) ∧ ns.length < 64 ∧ ∀ H' p xs, Same H H' → SqT K H' p xs → xs.length = ns.length → Q (.ref p) H'
theorem okLotOf {f : Addr} {fd : FuncData} {k : Nat} (F : Fun K "_law_lot_of" "_law_lot_of" sLotOf f fd) (T : Blt mg) : FnOk P w K mg base CX0 (k + 1) f fd ["_law_members"] (spLotOf K) := by
  refine F.ok scLotOf (fun vs H Q E h => ?_) (fun cdv A outer s H vs Q E hr h => ?_)
  · obtain ⟨L, ns, rfl, _⟩ := h
    rfl
  · obtain ⟨L, ns, rfl, hL, hlen, q⟩ := h
    refine ⟨_, pss_one (ps_ret (pe_tupleOf (by rfl) T.tuple (pe_revL (pe_callB cr_sorted (by rfl) T.sorted (by decide +kernel) (pa_cons (pv 0) pa_nil))))), ?_⟩
    refine ⟨_, rfl, L, ns, rfl, hL, hlen, fun ns' p hp _ np => ⟨p, _, rfl, SqL.of upd_same, fun u nu => .inl ⟨u, _, rfl, SqL.of upd_same, fun v nv => ?_⟩⟩⟩
    refine q _ v _ (((same_new np).trans (same_new nu)).trans (same_new nv)) (SqT.of upd_same) ?_
    rw [List.length_reverse, List.length_map, hp.length_eq]
end
end Gn

/-! W7: the law's moves: behind, undone, kind, least, product, carried. -/
namespace Gn
open PySem PySem.Spec PyProof.Rows L2 Gm
/-! ### plain -/
theorem idx_nI : ∀ (m : List Nat) (i : Nat), (nI m).idxOf (i : Int) = m.idxOf i
  | [], _ => rfl
  | x :: m, i => by
    show ((x : Int) :: nI m).idxOf (i : Int) = (x :: m).idxOf i
    rw [List.idxOf_cons, List.idxOf_cons, idx_nI m i]
    by_cases e : x = i
    · subst e
      simp
    · have e2 : ¬ ((x : Int) = (i : Int)) := fun z => e (Int.ofNat.inj z)
      have h1 : (((x : Int)) == (i : Int)) = false := beq_eq_false_iff_ne.mpr e2
      have h2 : (x == i) = false := beq_eq_false_iff_ne.mpr e
      rw [h1, h2]
/-- the move that undoes a move -/
def und (m : List Nat) : List Nat := (idl m.length).map fun i => m.idxOf i
theorem und_len (m : List Nat) : (und m).length = m.length := by
  unfold und
  rw [List.length_map, idl_len]
theorem und_ap {m : List Nat} {i : Nat} (h : i < m.length) : ap (und m) i = m.idxOf i := get_ap (by
  unfold und
  rw [List.getElem?_map, ap_get (by rw [idl_len]; exact h), idl_ap h]
  rfl)
theorem Mv.mem {m : List Nat} (h : Mv m) {x : Nat} (hx : x < m.length) : x ∈ m := h.perm.mem_iff.mpr (mem_idl.mpr hx)
theorem Mv.back {m : List Nat} (h : Mv m) {x : Nat} (hx : x < m.length) : ap m (ap (und m) x) = x := by
  have lt := List.idxOf_lt_length_iff.mpr (h.mem hx)
  rw [und_ap hx, get_ap (List.getElem?_eq_getElem lt), List.getElem_idxOf]
theorem Mv.und_lt {m : List Nat} (h : Mv m) {x : Nat} (hx : x < m.length) : ap (und m) x < m.length := by
  rw [und_ap hx]
  exact List.idxOf_lt_length_iff.mpr (h.mem hx)
theorem Mv.forth {m : List Nat} (h : Mv m) {x : Nat} (hx : x < m.length) : ap (und m) (ap m x) = x := h.pm.inj _ _ (h.und_lt (h.pm.lt x hx)) hx (h.back (h.pm.lt x hx))
theorem Mv.und {m : List Nat} (h : Mv m) : Mv (und m) := Mv.of_pm (by
  rw [und_len]
  exact ⟨fun i hi => h.und_lt hi, fun i j hi hj e => by rw [← h.back hi, ← h.back hj, e]⟩)
section
variable {P : Program} {w : World} {K : PySem.W.Frag} {mg : Str → Option Value} {base : Heap}
/-! ### _law_behind -/
def spLBehind (K : PySem.W.Frag) : Sp := fun vs H Q _ => ∃ (a b : Addr) (m g : List Nat), vs = [.ref a, .ref b] ∧ SqT K H a (mv m) ∧ SqT K H b (mv g) ∧ (∀ x ∈ m, x < g.length) ∧ m.length ≤ 4096 ∧
  ∀ H' p, Same H H' → TupF H' p (mv (bhd m g)) → Q (.ref p) H'
theorem okLBehind {f : Addr} {fd : FuncData} {k : Nat} (F : Fun K "_law_behind" "_law_behind" sLBehind f fd) (T : Blt mg) : FnOk P w K mg base CX0 (k + 1) f fd ["_law_one", "_law_other"] (spLBehind K) := by
  refine F.ok scLBehind (fun vs H Q E h => ?_) (fun cdv A outer s H vs Q E hr h => ?_)
  · obtain ⟨a, b, m, g, rfl, _⟩ := h
    rfl
  · obtain ⟨a, b, m, g, rfl, hA, hB, hlt, hlen, q⟩ := h
    refine ⟨_, pss_one (ps_ret (pe_tupF (by rfl) T.tuple (pe_lc (own := [("_law_place", 2)]) (g := gName 2) rfl scLBehind.nd (pi_tup (pv 0)) (blkOk_by (N := nLBehind) (sc := defScope sLBehind) (by decide +kernel))
      (fun _ _ _ _ _ => pg_name (i := 2) scLBehind.nd rfl (Or.inl rfl)) (fun _ _ _ _ _ => pts_nil) (fun _ _ _ _ _ => pe_ix (r := rIxT K) ix_tup (pv 1) (pv 2) (fun _ _ => rfl))))), ?_⟩
    refine ⟨.ref a, rfl, a, rfl, ⟨_, hA⟩, fun D nD => lc_tup (K := K) (a := a) (xs := mv m) (fun i H2 => Same H H2 ∧ H2 D = some (.lst (mv ((bhd m g).take i)))) ⟨same_new nD, upd_same⟩
      (fun i H2 _ p => Same.tup p.1 hA) (fun i x H2 hx p => ?_) fun H2 p => ?_⟩
    · obtain ⟨e, eD⟩ := p
      have hi : i < m.length := by
        have := (List.getElem?_eq_some_iff.mp hx).1
        rw [mv_length] at this
        exact this
      have ex : x = .int (ap m i : Nat) := Option.some.inj (hx.symm.trans (mv_ap hi))
      subst ex
      have hg : (mv g)[ap m i]? = some (.int (ap g (ap m i) : Nat)) := mv_ap (hlt _ (ap_mem hi))
      refine ⟨rfl, .ref b, rfl, .int (ap m i : Nat), rfl, b, mv g, _, _, rfl, rfl, Same.tup e hB, atI_nat hg, _, eD, ?_, fun c o z => ?_, ?_⟩
      · rw [mv_length, List.length_take]
        exact Nat.lt_of_le_of_lt (Nat.min_le_left _ _) (small (by omega))
      · rw [upd_ne (ne_of_none z nD)]
        exact e _ _ z
      · rw [upd_same, List.take_add_one, ap_get (by rw [bhd_len]; exact hi), bhd_ap hi, mv_append]
        rfl
    · obtain ⟨e, eD⟩ := p
      refine ⟨D, _, rfl, SqL.of eD, fun l o nl c1 c2 => ?_⟩
      rw [mv_length, List.take_of_length_le (by rw [bhd_len]; exact Nat.le_refl _)]
      exact q _ l (e.trans (same_new nl)) ⟨o, upd_same, c1, c2⟩
/-! ### _law_undone -/
def spUndone (K : PySem.W.Frag) : Sp := fun vs H Q _ => ∃ (a : Addr) (m : List Nat), vs = [.ref a] ∧ TupF H a (mv m) ∧ Mv m ∧ m.length ≤ 24 ∧ ∀ H' p, Same H H' → SqT K H' p (mv (und m)) → Q (.ref p) H'
theorem okUndone {f : Addr} {fd : FuncData} {k : Nat} (F : Fun K "_law_undone" "_law_undone" sUndone f fd) (T : Blt mg) : FnOk P w K mg base CX0 (k + 1) f fd ["_law_move"] (spUndone K) := by
  refine F.ok scUndone (fun vs H Q E h => ?_) (fun cdv A outer s H vs Q E hr h => ?_)
  · obtain ⟨a, m, rfl, _⟩ := h
    rfl
  · obtain ⟨a, m, rfl, hA, hm, hlen, q⟩ := h
    have nd := scUndone.nd
    refine ⟨_, pss_one (ps_ret (pe_tupleOf (by rfl) T.tuple (pe_lc (own := [("_law_place", 1)]) (g := gName 1) (te := tIxF K (tVar 0) (tVar 1)) rfl nd (pi_range1 rfl T.range (pa_cons (pe_callB call_len_seq (by rfl) T.len PySem.boot_len (pa_cons (pv 0) pa_nil)) pa_nil))
      (blkOk_by (N := nUndone) (sc := defScope sUndone) (by decide +kernel)) (fun _ _ _ _ _ => pg_name (i := 1) nd rfl (Or.inl rfl)) (fun _ _ _ _ _ => pts_nil) (fun _ _ _ _ _ => pe_ixF (pv 0) (pv 1))))), ?_⟩
    have ln : (((mv m).length : Nat) : Int).toNat = m.length := by rw [mv_length]; omega
    refine ⟨.ref a, rfl, a, _, rfl, .inr hA.sq, _, rfl, ?_, ?_, ?_⟩
    · rw [mv_length]; omega
    · rw [mv_length]; omega
    rw [ln]
    intro D nD
    refine lc_range (lo := 0) (n := m.length) (fun i H2 => Same H H2 ∧ H2 D = some (.lst (mv ((und m).take i)))) ⟨same_new nD, upd_same⟩ (fun i H2 hi p => ?_) fun H2 p => ?_
    · obtain ⟨e, eD⟩ := p
      have ei : ((0 : Int) + (i : Int)) = (i : Int) := Int.zero_add _
      rw [ei]
      have hA2 := hA.same e
      rw [mv_ints] at hA2
      refine ⟨rfl, .ref a, rfl, a, nI m, rfl, hA2, .int (i : Int), rfl, (i : Int), rfl, List.mem_map.mpr ⟨i, hm.mem hi, rfl⟩, hA2.sq, _, eD, ?_, fun c o z => ?_, ?_⟩
      · rw [mv_length, List.length_take]
        exact small (by rw [und_len]; omega)
      · rw [upd_ne (ne_of_none z nD)]
        exact e _ _ z
      · rw [upd_same, List.take_add_one, ap_get (by rw [und_len]; exact hi), und_ap hi, mv_append, idx_nI]
        rfl
    · obtain ⟨e, eD⟩ := p
      refine .inl ⟨D, _, rfl, SqL.of eD, fun l nl => ?_⟩
      rw [List.take_of_length_le (by rw [und_len]; exact Nat.le_refl _)]
      exact q _ l (e.trans (same_new nl)) (SqT.of upd_same)
end
end Gn

/-! W8: the law's kind, product, least, carried. -/
namespace Gn
open PySem PySem.Spec PyProof.Rows L2 Gm
theorem flat_mv (l : List Nat) : (mv l).all flatV = true := by
  rw [List.all_eq_true]
  intro v hv
  obtain ⟨n, _, e⟩ := List.mem_map.mp hv
  rw [← e]
  rfl
theorem inV_mv (x : Nat) (l : List Nat) : inV (.int (x : Int)) (mv l) = decide (x ∈ l) := by
  rw [Bool.eq_iff_iff, decide_eq_true_iff]
  unfold inV
  rw [List.any_eq_true]
  constructor
  · rintro ⟨v, hv, e⟩
    obtain ⟨n, hn, ev⟩ := List.mem_map.mp hv
    rw [← ev] at e
    have e2 : ((n : Int) == (x : Int)) = true := e
    have : n = x := Int.ofNat.inj (beq_iff_eq.mp e2)
    rw [← this]
    exact hn
  · intro h
    refine ⟨.int (x : Int), List.mem_map.mpr ⟨x, h, rfl⟩, ?_⟩
    show ((x : Int) == (x : Int)) = true
    exact beq_self_eq_true _
theorem mv_set (l : List Nat) (i v : Nat) : (mv l).set i (.int (v : Int)) = mv (l.set i v) := (List.map_set).symm
section
variable {P : Program} {w : World} {K : PySem.W.Frag} {mg : Str → Option Value} {base : Heap}
/-! ### _law_kind -/
def spKind (K : PySem.W.Frag) : Sp := fun vs H Q _ => ∃ (a : Addr) (m : List Nat), vs = [.ref a] ∧ SqT K H a (mv m) ∧ Mv m ∧ m.length ≤ 24 ∧ ∀ H' p xs, Same H H' → SqT K H' p xs → xs.length = cyc m.length (ap m) → Q (.ref p) H'
theorem okKind {f fL : Addr} {fd fdL : FuncData} (F : Fun K "_law_kind" "_law_kind" sKind f fd) (T : Blt mg)
    (GL : FnOk P w K mg base CX0 1 fL fdL ["_law_members"] (spLotOf K)) (gL : mg "_law_lot_of" = some (.ref fL)) (kL : PySem.W.keepIn K (.ref fL) = true) (bL : Binds K fdL ["_law_members"] []) :
    FnOk P w K mg base CX0 2 f fd ["_law_move"] (spKind K) := by
  refine F.ok scKind (fun vs H Q E h => ?_) (fun cdv A outer s H vs Q E hr h => ?_)
  · obtain ⟨a, m, rfl, _⟩ := h
    rfl
  · obtain ⟨a, m, rfl, hA, hm, hlen, q⟩ := h
    have nd := scKind.nd
    refine ⟨_, pss_cons (ps_par (i := 1) (j := 2) rfl nd rfl rfl (by decide) rfl rfl (pa_cons (pe_lst pa_nil) (pa_cons (pe_lst pa_nil) pa_nil)) (by rfl))
      (pss_cons (ps_for PassesOwn.never rfl (pi_range1 rfl T.range (pa_cons (pe_callB call_len_seq (by rfl) T.len PySem.boot_len (pa_cons (pv 0) pa_nil)) pa_nil)) (pg_name (i := 3) nd rfl (Or.inl rfl))
        (pss_cons (ps_par (i := 4) (j := 5) rfl nd rfl rfl (by decide) rfl rfl (pa_cons pe_int (pa_cons (pv 3) pa_nil)) (by rfl))
        (pss_cons (ps_while PassesOwn.never (pt_cmpR op_notIn_seq (pv 5) (pv 2) (by rfl))
          (pss_cons (ps_expr (pe_bm PySem.F.plainAttrs_list PySem.F.slot_list_append PySem.F.type_list_append mt_append (pv 2) (pa_cons (pv 5) pa_nil)))
          (pss_one (ps_par (i := 4) (j := 5) rfl nd rfl rfl (by decide) rfl rfl (pa_cons (pe_op op_add (pv 4) pe_int) (pa_cons (pe_ix (r := rIxT K) ix_tup (pv 0) (pv 5) (fun _ _ => rfl)) pa_nil)) (by rfl)))))
        (pss_one (ps_if (pt_cmpR op_gt (pv 4) pe_int (nomark _)) (pss_one (ps_expr (pe_bm PySem.F.plainAttrs_list PySem.F.slot_list_append PySem.F.type_list_append mt_append (pv 1) (pa_cons (pv 4) pa_nil)))) pss_nil)))))
      (pss_one (ps_ret (pe_call GL hr (by rfl) gL kL bL .nil pass0 (pa_cons (pv 1) pa_nil))))), ?_⟩
    refine ⟨Nat.zero_le _, fun B nB => ⟨Nat.zero_le _, fun D nD => ⟨_, _, rfl, ?_⟩⟩⟩
    have nBD : B ≠ D := fun e => by rw [← e, upd_same] at nD; cases nD
    have nDH : H D = none := (same_new nB).free nD
    have s0 : Same H (upd (upd H B (.lst [])) D (.lst [])) := (same_new nB).trans (same_new nD)
    have eB : (upd (upd H B (.lst [])) D (.lst [])) B = some (.lst []) := by rw [upd_ne nBD, upd_same]
    have eD : (upd (upd H B (.lst [])) D (.lst [])) D = some (.lst []) := upd_same
    generalize upd (upd H B (.lst [])) D (.lst []) = H0 at s0 eB eD ⊢
    have pm := hm.pm
    have ln : (((mv m).length : Nat) : Int).toNat = m.length := by rw [mv_length]; omega
    refine ⟨.ref a, rfl, a, mv m, rfl, .inr (Same.tup s0 hA), _, rfl, ?_, ?_, ?_⟩
    · rw [mv_length]; omega
    · rw [mv_length]; omega
    rw [ln]
    refine for_range (lo := 0) (n := m.length) (fun i σ H1 => ∃ y3 y4 y5, ∃ (fs mt : List Nat), σ = [some (.ref a), some (.ref B), some (.ref D), y3, y4, y5] ∧ Same H H1 ∧ H1 B = some (.lst (mv fs)) ∧ H1 D = some (.lst (mv mt)) ∧
      mt.Nodup ∧ (∀ x ∈ mt, x < m.length) ∧ Scan m.length (ap m) i (· ∈ mt) fs.length ∧ fs.length ≤ i) ?h0 ?hs ?hd
    case h0 => exact ⟨none, none, none, [], [], rfl, s0, eB, eD, List.Pairwise.nil, fun x hx => absurd hx (by simp), Scan.begin (fun x _ h => absurd h (by simp)) pm, Nat.le_refl _⟩
    case hd =>
      rintro σ H1 ⟨y3, y4, y5, fs, mt, rfl, s1, e1, e2, ndm, ltm, sc, hc⟩
      refine ⟨_, rfl, B, nI fs, rfl, SqL.of (by rw [e1, mv_ints]; rfl), ?_, fun H2 p xs s2 h2 hx => q H2 p xs (s1.trans s2) h2 ?_⟩
      · unfold nI
        rw [List.length_map]
        omega
      · rw [hx, ← sc.done pm]
        unfold nI
        rw [List.length_map]
    case hs =>
      rintro i σ H1 hi ⟨y3, y4, y5, fs, mt, rfl, s1, e1, e2, ndm, ltm, sc, hc⟩
      have ei : ((0 : Int) + (i : Int)) = (i : Int) := Int.zero_add _
      rw [ei]
      refine ⟨_, rfl, _, _, rfl, ?_⟩
      -- while place not in met
      refine while_by (fun σ H2 => ∃ r : Nat, σ = [some (.ref a), some (.ref B), some (.ref D), some (.int (i : Int)), some (.int (r : Int)), some (.int (it (ap m) r i : Nat))] ∧ Way (ap m) i r ∧ (i ∈ mt → r = 0) ∧ Same H H2 ∧ H2 B = some (.lst (mv fs)) ∧
          H2 D = some (.lst (mv (mt ++ ring (ap m) i r))) ∧ (mt ++ ring (ap m) i r).Nodup)
        (fun _ H2 => match H2 D with | some (.lst xs) => m.length + 1 - xs.length | _ => 0) ?w0 ?ws ?wm
      case w0 =>
        have e : mt ++ ring (ap m) i 0 = mt := by simp [ring]
        refine ⟨0, rfl, Way.zero _ _, fun _ => rfl, s1, e1, by rw [e]; exact e2, by rw [e]; exact ndm⟩
      case wm =>
        intro σ H2 Q1 Q2 hQ h
        obtain ⟨v, h1, u, h2, p, xs, h3, h4, h5, h6, c, h7, h8⟩ := h
        exact ⟨v, h1, u, h2, p, xs, h3, h4, h5, h6, c, h7, hQ _ _ h8⟩
      case ws =>
        rintro σ H2 ⟨r, rfl, hw, hz, s2, g1, g2, nd2⟩
        have hlt := it_lt pm hi r
        have ltall : ∀ x ∈ mt ++ ring (ap m) i r, x < m.length := fun x hx => by
          rcases List.mem_append.mp hx with z | z
          · exact ltm x z
          · obtain ⟨t, _, e⟩ := mem_ring.mp z
            rw [← e]
            exact it_lt pm hi t
        refine ⟨_, rfl, _, rfl, D, _, rfl, .inl (SqL.of g2), rfl, flat_mv _, _, rfl, ?_⟩
        rw [if_pos rfl, inV_mv]
        by_cases hin : it (ap m) r i ∈ mt ++ ring (ap m) i r
        · rw [decide_eq_true hin]
          refine iteF ?_
          -- the way is at its end
          by_cases him : i ∈ mt
          · have r0 := hz him
            subst r0
            refine ⟨_, rfl, _, _, rfl, rfl, _, rfl, iteF ?_⟩
            have e : mt ++ ring (ap m) i 0 = mt := by simp [ring]
            rw [e] at g2
            exact ⟨_, _, _, fs, mt, rfl, s2, g1, g2, ndm, ltm, sc.met hi him, by omega⟩
          · have inr : it (ap m) r i ∈ ring (ap m) i r := by
              rcases List.mem_append.mp hin with z | z
              · exact absurd z (sc.fresh pm hi him r)
              · exact z
            obtain ⟨_, rpos⟩ := hw.closes pm hi inr
            refine ⟨_, rfl, _, _, rfl, rfl, true, congrArg V.bl (decide_eq_true (by omega)), iteT ?_⟩
            refine ⟨_, rfl, .inl ⟨rfl, _, SqL.of g1⟩, _, rfl, B, _, _, rfl, rfl, g1, ?_, ?_⟩
            · rw [mv_length]
              exact small (by omega)
            have e3 : mv fs ++ [V.int (r : Int)] = mv (fs ++ [r]) := by
              rw [mv_append]
              rfl
            rw [e3]
            refine ⟨_, _, _, fs ++ [r], mt ++ ring (ap m) i r, rfl, fun b o e => ?_, upd_same, ?_, nd2, ltall, ?_, ?_⟩
            · rw [upd_ne (ne_of_none e nB)]
              exact s2 b o e
            · rw [upd_ne nBD.symm]
              exact g2
            · rw [List.length_append]
              exact sc.next pm hi him hw inr fun x _ => List.mem_append
            · rw [List.length_append, List.length_singleton]
              omega
        · rw [decide_eq_false hin]
          refine iteT ?_
          have nin : it (ap m) r i ∉ ring (ap m) i r := fun z => hin (List.mem_append_right _ z)
          have nim : it (ap m) r i ∉ mt := fun z => hin (List.mem_append_left _ z)
          have hw2 := hw.succ nin
          have nd3 : (mt ++ ring (ap m) i (r + 1)).Nodup := by
            rw [ring_succ, ← List.append_assoc]
            refine List.nodup_append.mpr ⟨nd2, by simp, fun x hx y hy e => ?_⟩
            rw [List.mem_singleton.mp hy] at e
            exact hin (e ▸ hx)
          have lt3 : ∀ x ∈ mt ++ ring (ap m) i (r + 1), x < m.length := fun x hx => by
            rw [ring_succ, ← List.append_assoc] at hx
            rcases List.mem_append.mp hx with z | z
            · exact ltall x z
            · rw [List.mem_singleton.mp z]
              exact hlt
          have le3 := nodup_le _ _ nd3 lt3
          have le2 : (mt ++ ring (ap m) i r).length + 1 = (mt ++ ring (ap m) i (r + 1)).length := by
            rw [List.length_append, List.length_append, ring_len, ring_len]
            omega
          refine ⟨_, rfl, .inl ⟨rfl, _, SqL.of g2⟩, _, rfl, D, _, _, rfl, rfl, g2, ?_, ?_⟩
          · rw [mv_length]
            exact small (by omega)
          have e3 : mv (mt ++ ring (ap m) i r) ++ [V.int (it (ap m) r i : Nat)] = mv (mt ++ ring (ap m) i (r + 1)) := by
            rw [ring_succ, ← List.append_assoc, mv_append _ [_]]
            rfl
          rw [e3]
          have s3 : Same H (upd H2 D (.lst (mv (mt ++ ring (ap m) i (r + 1))))) := fun b o e => by
            rw [upd_ne (ne_of_none e nDH)]
            exact s2 b o e
          refine ⟨_, rfl, _, _, rfl, rfl, _, rfl, _, rfl, a, _, _, _, rfl, rfl, Same.tup s3 hA, atI_nat (mv_ap hlt), _, _, rfl, ?_⟩
          refine ⟨⟨r + 1, rfl, hw2, fun z => ?_, s3, ?_, upd_same, nd3⟩, ?_⟩
          · have := hz z
            subst this
            exact absurd z nim
          · rw [upd_ne nBD]
            exact g1
          · show (match (upd H2 D (.lst (mv (mt ++ ring (ap m) i (r + 1))))) D with | some (.lst xs) => m.length + 1 - xs.length | _ => 0) < (match H2 D with | some (.lst xs) => m.length + 1 - xs.length | _ => 0)
            rw [upd_same, g2]
            show m.length + 1 - (mv (mt ++ ring (ap m) i (r + 1))).length < m.length + 1 - (mv (mt ++ ring (ap m) i r)).length
            rw [mv_length, mv_length]
            omega
/-! ### _law_le_least -/
def spLLeast (K : PySem.W.Frag) : Sp := fun vs H Q _ => ∃ (a : Addr) (m : List Nat), vs = [.ref a] ∧ SqT K H a (mv m) ∧ Mv m ∧ m.length ≤ 24 ∧ ∀ H', Same H H' → Q (.int (lst m.length (ap m) : Nat)) H'
theorem okLLeast {f fC : Addr} {fd fdC : FuncData} (F : Fun K "_law_le_least" "_law_le_least" sLLeast f fd) (T : Blt mg)
    (GC : FnOk P w K mg base CX0 2 fC fdC ["_law_move"] (spKind K)) (gC : mg "_law_kind" = some (.ref fC)) (kC : PySem.W.keepIn K (.ref fC) = true) (bC : Binds K fdC ["_law_move"] []) : FnOk P w K mg base CX0 3 f fd ["_law_move"] (spLLeast K) := by
  refine F.ok scLLeast (fun vs H Q E h => ?_) (fun cdv A outer s H vs Q E hr h => ?_)
  · obtain ⟨a, m, rfl, _⟩ := h
    rfl
  · obtain ⟨a, m, rfl, hA, hm, hlen, q⟩ := h
    refine ⟨_, pss_one (ps_ret (pe_op op_sub (pe_callB call_len_seq (by rfl) T.len PySem.boot_len (pa_cons (pv 0) pa_nil))
      (pe_callB call_len_seq (by rfl) T.len PySem.boot_len (pa_cons (pe_call GC hr (by rfl) gC kC bC .nil pass0 (pa_cons (pv 0) pa_nil)) pa_nil)))), ?_⟩
    refine ⟨.ref a, rfl, a, mv m, rfl, .inr hA, .ref a, rfl, a, m, rfl, hA, hm, hlen, fun H' p xs sm hp hx => ⟨p, _, rfl, .inr hp, _, _, rfl, rfl, ?_⟩⟩
    have e : ((mv m).length : Int) - ((xs.length : Nat) : Int) = ((lst m.length (ap m) : Nat) : Int) := by
      rw [mv_length, hx]
      have := cyc_le m.length (ap m)
      unfold lst
      omega
    show Q (.int (((mv m).length : Int) - ((xs.length : Nat) : Int))) H'
    rw [e]
    exact q H' sm
/-! ### _law_le_product -/
def spLProd (K : PySem.W.Frag) : Sp := fun vs H Q _ => ∃ (d : Nat) (r : Addr) (ps : List Addr) (ms : List (List Nat)), vs = [.int (d : Int), .ref r] ∧ SqT K H r (ps.map V.ref) ∧ Tups K H ps ms ∧ Row d ms ∧ d ≤ 24 ∧ 0 < ms.length ∧
  ∀ H' p, Same H H' → TupF H' p (mv (prd d ms)) → Q (.ref p) H'
theorem okLProd {f fB : Addr} {fd fdB : FuncData} (F : Fun K "_law_le_product" "_law_le_product" sLProd f fd) (T : Blt mg)
    (GB : FnOk P w K mg base CX0 1 fB fdB ["_law_one", "_law_other"] (spLBehind K)) (gB : mg "_law_behind" = some (.ref fB)) (kB : PySem.W.keepIn K (.ref fB) = true) (bB : Binds K fdB ["_law_one", "_law_other"] []) :
    FnOk P w K mg base CX0 2 f fd ["_law_size", "_law_row"] (spLProd K) := by
  refine F.ok scLProd (fun vs H Q E h => ?_) (fun cdv A outer s H vs Q E hr h => ?_)
  · obtain ⟨d, r, ps, ms, rfl, _⟩ := h
    rfl
  · obtain ⟨d, r, ps, ms, rfl, hR, tu, row, hd, hne, q⟩ := h
    have nd := scLProd.nd
    refine ⟨_, pss_cons (ps_set (i := 2) nd rfl (.inl rfl) (pe_tupRg rfl (by rfl) T.tuple (prg_1 (by rfl) T.range (pv 0))))
      (pss_cons (ps_for PassesOwn.never rfl (pi_tup (pv 1)) (pg_name (i := 3) nd rfl (Or.inl rfl))
        (pss_one (ps_set (i := 2) nd rfl (.inl rfl) (pe_call GB hr (by rfl) gB kB bB .nil pass0 (pa_cons (pv 2) (pa_cons (pv 3) pa_nil))))))
      (pss_one (ps_ret (pv 2)))), ?_⟩
    refine ⟨_, rfl, _, rfl, rgOk (by omega), fun p1 n1 => ?_⟩
    rw [rgV_mv]
    refine ⟨_, rfl, r, rfl, ⟨_, Same.tup (same_new n1) hR⟩, for_tup (xs := ps.map V.ref) (fun i σ H2 => ∃ y3 p, σ = [some (.int (d : Int)), some (.ref r), some (.ref p), y3] ∧ Same H H2 ∧ SqT K H2 p (mv (prd d (ms.take i))) ∧ (0 < i → TupF H2 p (mv (prd d (ms.take i)))))
      ⟨none, p1, rfl, same_new n1, SqT.of upd_same, fun z => absurd z (by omega)⟩ (fun i σ H2 _ p => ?_) (fun i x σ H2 hx p => ?_) (fun σ H2 p => ?_)⟩
    · obtain ⟨y3, p, rfl, s2, _⟩ := p
      exact Same.tup s2 hR
    · obtain ⟨y3, p, rfl, s2, h2, _⟩ := p
      obtain ⟨a, m, rfl, hm, hmm, tm, hi⟩ := (tu.same s2).nth hx
      obtain ⟨r1, r2⟩ := row m hmm
      obtain ⟨k1, k2, _⟩ := prd_ok (row.take i)
      refine ⟨_, rfl, _, rfl, p, a, prd d (ms.take i), m, rfl, h2, tm, fun x hx => ?_, by omega, fun H3 p3 s3 e3 => ?_⟩
      · have := k1.lt x hx
        omega
      · refine ⟨_, p3, rfl, s2.trans s3, ?_, fun _ => ?_⟩
        · rw [prd_take hm]
          exact e3.sq
        · rw [prd_take hm]
          exact e3
    · obtain ⟨y3, p, rfl, s2, h2, h3⟩ := p
      have h4 := h3 (by rw [List.length_map, tu.1]; exact hne)
      rw [List.length_map, tu.1, List.take_length] at h4
      exact ⟨_, rfl, q H2 p s2 h4⟩
/-! ### _law_le_carried -/
def spCarried (K : PySem.W.Frag) : Sp := fun vs H Q _ => ∃ (a b : Addr) (m g : List Nat), vs = [.ref a, .ref b] ∧ SqT K H a (mv m) ∧ SqT K H b (mv g) ∧ Mv m ∧ Mv g ∧ g.length = m.length ∧ m.length ≤ 24 ∧
  ∀ H' p c, Same H H' → SqT K H' p (mv c) → c.length = m.length → (∀ i, i < m.length → ap c (ap g i) = ap g (ap m i)) → Q (.ref p) H'
theorem okCarried {f : Addr} {fd : FuncData} {k : Nat} (F : Fun K "_law_le_carried" "_law_le_carried" sCarried f fd) (T : Blt mg) : FnOk P w K mg base CX0 (k + 1) f fd ["_law_move", "_law_by"] (spCarried K) := by
  refine F.ok scCarried (fun vs H Q E h => ?_) (fun cdv A outer s H vs Q E hr h => ?_)
  · obtain ⟨a, b, m, g, rfl, _⟩ := h
    rfl
  · obtain ⟨a, b, m, g, rfl, hA, hB, hm, hg, hgl, hlen, q⟩ := h
    have nd := scCarried.nd
    refine ⟨_, pss_cons (ps_set (i := 2) nd rfl (.inl rfl) (pe_op op_rep (pe_lst (pa_cons pe_int pa_nil)) (pe_callB call_len_seq (by rfl) T.len PySem.boot_len (pa_cons (pv 0) pa_nil))))
      (pss_cons (ps_for PassesOwn.never rfl (pi_enT (by rfl) T.enumerate (pv 0)) (pg_tup rfl (pgs_cons (pg_name (i := 3) nd rfl (.inl rfl)) (pgs_cons (pg_name (i := 4) nd rfl (.inl rfl)) pgs_nil)))
        (pss_one (ps_asg (pe_ix (r := rIxT K) ix_tup (pv 1) (pv 4) (fun _ _ => rfl)) (pg_sub (pv 2) (pe_ix (r := rIxT K) ix_tup (pv 1) (pv 3) (fun _ _ => rfl)) set_list))))
      (pss_one (ps_ret (pe_tupleOf (by rfl) T.tuple (pv 2))))), ?_⟩
    refine ⟨by decide, fun T0 n0 => ⟨.ref a, rfl, a, mv m, rfl, .inr (Same.tup (same_new n0) hA), T0, _, _, rfl, rfl, upd_same, ?_, ?_, ?_, fun L nL => ?_⟩⟩
    · rw [mv_length]; omega
    · rw [mv_length]; omega
    · rw [mv_length]
      show 1 * ((m.length : Int)).toNat ≤ sizeLine
      rw [Int.toNat_natCast, Nat.one_mul]
      exact Nat.le_of_lt (small (by omega))
    have fl : (List.replicate ((mv m).length : Int).toNat [V.int 0]).flatten = mv (List.replicate m.length 0) := by
      unfold mv
      rw [List.length_map, Int.toNat_natCast, List.map_replicate]
      induction m.length with
      | zero => rfl
      | succ n ih =>
        rw [List.replicate_succ, List.replicate_succ, List.flatten_cons, ih]
        rfl
    rw [fl]
    have nLH : H L = none := (same_new n0).free nL
    have s0 : Same H (upd (upd H T0 (.lst [.int 0])) L (.lst (mv (List.replicate m.length 0)))) := (same_new n0).trans (same_new nL)
    have eL : (upd (upd H T0 (.lst [.int 0])) L (.lst (mv (List.replicate m.length 0)))) L = some (.lst (mv (List.replicate m.length 0))) := upd_same
    generalize upd (upd H T0 (.lst [.int 0])) L (.lst (mv (List.replicate m.length 0))) = H0 at s0 eL ⊢
    refine ⟨_, rfl, a, mv m, rfl, Same.tup s0 hA, for_it (walk_enT (K := K) (xs := mv m)) (fun i σ H1 => ∃ y3 y4, ∃ c : List Nat, σ = [some (.ref a), some (.ref b), some (.ref L), y3, y4] ∧ Same H H1 ∧ H1 L = some (.lst (mv c)) ∧ c.length = m.length ∧
      ∀ j, j < i → j < m.length → ap c (ap g j) = ap g (ap m j)) ⟨none, none, _, rfl, s0, eL, List.length_replicate, fun j hj => absurd hj (by omega)⟩ (fun i σ H1 _ p => ?_) (fun i x σ H1 H2 hi p y => ?_) (fun σ H1 p => ?_)⟩
    · obtain ⟨y3, y4, c, rfl, s1, _⟩ := p
      exact Same.tup s1 hA
    · obtain ⟨y3, y4, c, rfl, s1, e1, hc, hj⟩ := p
      obtain ⟨U, u1, u2, rfl, nU, rfl, z1, z2⟩ := y
      rw [mv_length] at hi
      have k1 : u1 = .int (i : Nat) := (Option.some.inj z1).symm
      have k2 : u2 = .int (ap m i : Nat) := Option.some.inj (z2.symm.trans (mv_ap hi))
      subst k1 k2
      have nUL : U ≠ L := fun e => by rw [e, e1] at nU; cases nU
      have hgi : ap g i < c.length := by rw [hc, ← hgl]; exact hg.pm.lt i (by omega)
      have hmi : ap m i < g.length := by rw [hgl]; exact hm.pm.lt i hi
      have s2 := s1.trans (same_new (o := .tup [.int (i : Nat), .int (ap m i : Nat)]) nU)
      have e2 : (upd H1 U (.tup [.int (i : Nat), .int (ap m i : Nat)])) L = some (.lst (mv c)) := by rw [upd_ne nUL.symm]; exact e1
      refine ⟨U, _, rfl, SqT.of upd_same, rfl, _, _, rfl, _, _, rfl, rfl, ?_⟩
      refine ⟨_, rfl, _, rfl, b, _, _, _, rfl, rfl, Same.tup s2 hB, atI_nat (mv_ap hmi), ?_⟩
      refine ⟨_, rfl, _, rfl, _, rfl, b, _, _, _, rfl, rfl, Same.tup s2 hB, atI_nat (mv_ap (by omega)), L, _, _, ap g i, rfl, rfl, e2, ?_, ?_⟩
      · unfold ixN
        rw [if_pos (by omega), if_pos (by rw [mv_length]; omega)]
        rfl
      rw [mv_set]
      refine ⟨_, _, _, rfl, fun o x e => ?_, upd_same, by rw [List.length_set]; exact hc, fun j h1 h2 => ?_⟩
      · rw [upd_ne (ne_of_none e nLH)]
        exact s2 o x e
      · by_cases z : j = i
        · rw [z]
          exact get_ap (by rw [List.getElem?_set_self hgi])
        · have ne : ap g j ≠ ap g i := fun w => z (hg.pm.inj j i (by omega) (by omega) w)
          have old := hj j (by omega) h2
          have hgj : ap g j < c.length := by rw [hc, ← hgl]; exact hg.pm.lt j (by omega)
          rw [← old]
          exact get_ap (by rw [List.getElem?_set_ne (fun w => ne w.symm), ap_get hgj])
    · obtain ⟨y3, y4, c, rfl, s1, e1, hc, hj⟩ := p
      rw [mv_length] at hj
      refine ⟨_, rfl, .inl ⟨L, _, rfl, SqL.of e1, fun v nv => ?_⟩⟩
      exact q _ v c (s1.trans (same_new nv)) (SqT.of upd_same) hc fun i hi => hj i hi hi
end
end Gn

/-! W9: the law's joined names, genus, parity. -/
namespace Gn
open PySem PySem.Spec PyProof.Rows L2 Gm
/-! ### plain -/
theorem cyc_prd {d : Nat} {ms : List (List Nat)} (row : Row d ms) : cyc d (ap (prd d ms)) = cyc d (prodF (ms.map ap) fun j => j) := cyc_congr _ _ _ (prd_ok row).2.2
theorem gnum_right {d : Nat} {ms : List (List Nat)} (hd : 0 < d) (row : Row d ms) (j : Join d (ms.map ap)) : 0 ≤ gnum d ms ∧ gnum d ms % 2 = 0 := by
  obtain ⟨h1, h2⟩ := genus_right hd row.pm j
  unfold gnum
  rw [cyc_prd row]
  omega
section
variable {P : Program} {w : World} {K : PySem.W.Frag} {mg : Str → Option Value} {base : Heap}
/-! ### _law_joined -/
def spLJoin (K : PySem.W.Frag) : Sp := fun vs H Q _ => ∃ (d : Nat) (r : Addr) (ps : List Addr) (ms : List (List Nat)), vs = [.int (d : Int), .ref r] ∧ SqT K H r (ps.map V.ref) ∧ Tups K H ps ms ∧ Row d ms ∧ 0 < d ∧ d ≤ 24 ∧
  ∀ H' p ns, Same H H' → H' p = some (.lst (mv ns)) → ns.length = d → ((∀ i, i < d → ap ns i = 0) ↔ Join d (ms.map ap)) → Q (.ref p) H'
theorem okLJoin {f : Addr} {fd : FuncData} {k : Nat} (F : Fun K "_law_joined" "_law_joined" sLJoin f fd) (T : Blt mg) : FnOk P w K mg base CX0 (k + 1) f fd ["_law_size", "_law_moves"] (spLJoin K) := by
  refine F.ok scLJoin (fun vs H Q E h => ?_) (fun cdv A outer s H vs Q E hr h => ?_)
  · obtain ⟨d, r, ps, ms, rfl, _⟩ := h
    rfl
  · obtain ⟨d, r, ps, ms, rfl, hR, tu, row, hd0, hd, q⟩ := h
    have nd := scLJoin.nd
    refine ⟨_, pss_cons (ps_set (i := 2) nd rfl (.inl rfl) (pe_listRg rfl (by rfl) T.list (prg_1 (by rfl) T.range (pv 0))))
      (pss_cons (ps_for PassesOwn.never rfl (pi_tup (pv 1)) (pg_name (i := 3) nd rfl (Or.inl rfl))
        (pss_one (ps_for PassesOwn.never rfl (pi_enT (by rfl) T.enumerate (pv 3)) (pg_tup rfl (pgs_cons (pg_name (i := 4) nd rfl (.inl rfl)) (pgs_cons (pg_name (i := 5) nd rfl (.inl rfl)) pgs_nil)))
          (pss_cons (ps_asg (pe_tup (pa_cons (pe_ix (r := rIxL K) ix_list (pv 2) (pv 4) (fun _ _ => rfl)) (pa_cons (pe_ix (r := rIxL K) ix_list (pv 2) (pv 5) (fun _ _ => rfl)) pa_nil)))
            (pg_tup rfl (pgs_cons (pg_name (i := 6) nd rfl (.inr rfl)) (pgs_cons (pg_name (i := 7) nd rfl (.inr rfl)) pgs_nil))))
          (pss_one (ps_setLc (i := 2) (own := [("_law_name", 8)]) (g := gName 8) rfl nd rfl rfl (sw_true rfl rfl rfl (by decide +kernel)) (pi_list (pv 2)) (blkOk_by (N := nLJoin) (sc := defScope sLJoin) (by decide +kernel))
            (fun _ _ _ _ _ => pg_name (i := 8) nd rfl (Or.inl rfl)) (fun _ _ _ _ _ => pts_nil) (fun _ _ _ _ _ => pe_ifExp (pt_cmpR (r := rIn K false) op_in_seq (pv 8) (pe_tup (pa_cons (pv 6) (pa_cons (pv 7) pa_nil))) (by rfl))
              (pe_callB (call_min2 rfl) (by rfl) T.min (by decide +kernel) (pa_cons (pv 6) (pa_cons (pv 7) pa_nil))) (pv 8))))))))
      (pss_one (ps_ret (pv 2)))), ?_⟩
    refine ⟨_, rfl, _, rfl, rgOk (by omega), fun N0 nN0 => ?_⟩
    rw [rgV_mv]
    have hC : ∀ m ∈ ms, ∀ f, CJ d ms f → Inv d (ap m) f := fun m hm f hf => hf _ (List.mem_map.mpr ⟨m, hm, rfl⟩)
    refine ⟨_, rfl, r, rfl, ⟨_, Same.tup (same_new nN0) hR⟩, for_tup (xs := ps.map V.ref) (fun i σ H1 => ∃ y3 y4 y5 y6 y7, ∃ (N : Addr) (ns : List Nat), σ = [some (.int (d : Int)), some (.ref r), some (.ref N), y3, y4, y5, y6, y7, none] ∧
      Same H H1 ∧ H1 N = some (.lst (mv ns)) ∧ ns.length = d ∧ Nm d (CJ d ms) (ap ns) ∧ ∀ m ∈ ms.take i, Inv d (ap m) (ap ns))
      ⟨none, none, none, none, none, N0, idl d, rfl, same_new nN0, upd_same, idl_len d, Nm.begin _ _ _ fun i hi => idl_ap hi, fun m hm => absurd hm (by simp)⟩ (fun i σ H1 _ p => ?_) (fun i x σ H1 hx p => ?_) (fun σ H1 p => ?_)⟩
    · obtain ⟨y3, y4, y5, y6, y7, N, ns, rfl, s1, _⟩ := p
      exact Same.tup s1 hR
    · obtain ⟨y3, y4, y5, y6, y7, N, ns, rfl, s1, eN, hl, nm, pr⟩ := p
      obtain ⟨a, m, rfl, hm, hmm, tm, hi⟩ := (tu.same s1).nth hx
      obtain ⟨r1, r2⟩ := row m hmm
      have hCm := hC m hmm
      have pm := r1.pm
      rw [r2] at pm
      -- for place, goal in enumerate(move)
      refine ⟨_, rfl, a, mv m, rfl, tm, for_it (walk_enT (K := K) (xs := mv m)) (fun j σ H3 => ∃ y4 y5 y6 y7, ∃ (N' : Addr) (ns' : List Nat),
        σ = [some (.int (d : Int)), some (.ref r), some (.ref N'), some (.ref a), y4, y5, y6, y7, none] ∧ Same H1 H3 ∧ H3 N' = some (.lst (mv ns')) ∧ ns'.length = d ∧ Nm d (CJ d ms) (ap ns') ∧
        (∀ x y, x < d → y < d → ap ns x = ap ns y → ap ns' x = ap ns' y) ∧ ∀ t, t < j → t < d → ap ns' (ap m t) = ap ns' t)
        ⟨y4, y5, y6, y7, N, ns, rfl, Same.refl _, eN, hl, nm, fun _ _ _ _ e => e, fun t ht => absurd ht (by omega)⟩ (fun j σ H3 _ p => ?_) (fun j x σ H3 H4 hj p y => ?_) (fun σ H3 p => ?_)⟩
      · obtain ⟨y4, y5, y6, y7, N', ns', rfl, s3, _⟩ := p
        exact Same.tup s3 tm
      · obtain ⟨y4, y5, y6, y7, N', ns', rfl, s3, eN', hl', nm', co, pr'⟩ := p
        obtain ⟨U, u1, u2, rfl, nU, rfl, z1, z2⟩ := y
        rw [mv_length, r2] at hj
        have k1 : u1 = .int (j : Nat) := (Option.some.inj z1).symm
        have k2 : u2 = .int (ap m j : Nat) := Option.some.inj (z2.symm.trans (mv_ap (by omega)))
        subst k1 k2
        have hg : ap m j < d := pm.lt j hj
        have s4 := same_new (o := .tup [.int (j : Nat), .int (ap m j : Nat)]) nU
        have eU : (upd H3 U (.tup [.int (j : Nat), .int (ap m j : Nat)])) U = some (.tup [.int (j : Nat), .int (ap m j : Nat)]) := upd_same
        generalize upd H3 U (.tup [.int (j : Nat), .int (ap m j : Nat)]) = H4 at s4 eU ⊢
        have eN4 := s4 _ _ eN'
        refine ⟨U, _, rfl, SqT.of eU, rfl, _, _, rfl, _, _, rfl, rfl, ?_⟩
        -- one, other = ..
        refine ⟨_, rfl, _, rfl, N', _, _, _, rfl, rfl, SqL.of eN4, atI_nat (mv_ap (by omega)), _, rfl, _, rfl, N', _, _, _, rfl, rfl, SqL.of eN4, atI_nat (mv_ap (by omega)), by show 2 ≤ sizeLine; decide, fun W nW => ?_⟩
        refine ⟨W, _, rfl, SqT.of upd_same, rfl, _, _, rfl, _, _, rfl, rfl, ?_⟩
        have s5 := s4.trans (same_new (o := .tup [.int (ap ns' j : Nat), .int (ap ns' (ap m j) : Nat)]) nW)
        generalize upd H4 W (.tup [.int (ap ns' j : Nat), .int (ap ns' (ap m j) : Nat)]) = H5 at s5 ⊢
        have eN5 := s5 _ _ eN'
        have mg : Mg d (CJ d ms) (ap ns') [j, ap m j] [ap ns' j, ap ns' (ap m j)] (min (ap ns' j) (ap ns' (ap m j))) := by
          refine ⟨fun x hx => ?_, fun f hf x hx y hy => ?_, fun n => ?_, ?_, fun n hn => ?_⟩
          · rcases List.mem_cons.mp hx with e | hx
            · omega
            · have := List.mem_singleton.mp hx
              omega
          · have e := hCm f hf j hj
            rcases List.mem_cons.mp hx with z | hx <;> rcases List.mem_cons.mp hy with z' | hy
            · rw [z, z']
            · rw [z, List.mem_singleton.mp hy, e]
            · rw [List.mem_singleton.mp hx, z', e]
            · rw [List.mem_singleton.mp hx, List.mem_singleton.mp hy]
          · constructor
            · intro h
              rcases List.mem_cons.mp h with z | h
              · exact ⟨j, by simp, z.symm⟩
              · exact ⟨ap m j, by simp, (List.mem_singleton.mp h).symm⟩
            · rintro ⟨x, hx, e⟩
              rw [← e]
              rcases List.mem_cons.mp hx with z | hx
              · rw [z]; simp
              · rw [List.mem_singleton.mp hx]; simp
          · rcases Nat.le_total (ap ns' j) (ap ns' (ap m j)) with z | z
            · rw [Nat.min_eq_left z]; simp
            · rw [Nat.min_eq_right z]; simp
          · rcases List.mem_cons.mp hn with z | h
            · rw [z]; exact Nat.min_le_left _ _
            · rw [List.mem_singleton.mp h]; exact Nat.min_le_right _ _
        have emin : V.int (if ((ap ns' (ap m j) : Nat) : Int) < ((ap ns' j : Nat) : Int) then ((ap ns' (ap m j) : Nat) : Int) else ((ap ns' j : Nat) : Int)) = V.int ((min (ap ns' j) (ap ns' (ap m j)) : Nat) : Int) := by
          congr 1
          split <;> omega
        generalize hS : [ap ns' j, ap ns' (ap m j)] = S at mg
        have eS : [V.int (ap ns' j : Nat), V.int (ap ns' (ap m j) : Nat)] = mv S := by rw [← hS]; rfl
        generalize min (ap ns' j) (ap ns' (ap m j)) = l at mg emin
        -- names = [..]
        refine ⟨.ref N', rfl, N', rfl, ⟨_, SqL.of eN5⟩, fun D2 nD2 => lc_list (K := K) (a := N') (xs := mv ns') (fun t H6 => Same H5 H6 ∧ H6 D2 = some (.lst ((ns'.take t).map fun n : Nat => V.int ((if n ∈ S then l else n : Nat) : Int))))
          ⟨same_new nD2, upd_same⟩ (fun t H6 _ p => p.1.seq (SqL.of eN5)) (fun t x H6 hx p => ?_) (fun H6 p => ?_)⟩
        · obtain ⟨s6, eD2⟩ := p
          have ht : t < ns'.length := by
            have := (List.getElem?_eq_some_iff.mp hx).1
            rw [mv_length] at this
            exact this
          have ex : x = .int (ap ns' t : Nat) := Option.some.inj (hx.symm.trans (mv_ap ht))
          subst ex
          refine ⟨rfl, .int (ap ns' t : Nat), rfl, _, rfl, _, rfl, by show 2 ≤ sizeLine; decide, fun Y nY => ?_⟩
          rw [eS]
          have s7 : Same H5 (upd H6 Y (.tup (mv S))) := s6.trans (same_new nY)
          have eD7 : (upd H6 Y (.tup (mv S))) D2 = some (.lst ((ns'.take t).map fun n : Nat => V.int ((if n ∈ S then l else n : Nat) : Int))) := same_new nY _ _ eD2
          have eY : (upd H6 Y (.tup (mv S))) Y = some (.tup (mv S)) := upd_same
          generalize upd H6 Y (.tup (mv S)) = H7 at s7 eD7 eY ⊢
          have fin : Same H5 (upd H7 D2 (.lst ((ns'.take t).map (fun n : Nat => V.int ((if n ∈ S then l else n : Nat) : Int)) ++ [.int ((if ap ns' t ∈ S then l else ap ns' t : Nat) : Int)]))) ∧
              (upd H7 D2 (.lst ((ns'.take t).map (fun n : Nat => V.int ((if n ∈ S then l else n : Nat) : Int)) ++ [.int ((if ap ns' t ∈ S then l else ap ns' t : Nat) : Int)]))) D2 = some (.lst ((ns'.take (t + 1)).map fun n : Nat => V.int ((if n ∈ S then l else n : Nat) : Int))) := by
            refine ⟨fun b o e => ?_, ?_⟩
            · rw [upd_ne (ne_of_none e nD2)]
              exact s7 b o e
            · rw [upd_same, bl_take ns' t ht fun n : Nat => V.int ((if n ∈ S then l else n : Nat) : Int)]
          have lenok : ((ns'.take t).map fun n : Nat => V.int ((if n ∈ S then l else n : Nat) : Int)).length < sizeLine := by
            rw [List.length_map, List.length_take]
            exact small (by omega)
          refine ⟨Y, _, rfl, .inr (SqT.of eY), rfl, flat_mv S, _, rfl, ?_⟩
          rw [if_neg (show ¬ (false = true) from Bool.false_ne_true), inV_mv]
          by_cases hin : ap ns' t ∈ S
          · rw [if_pos hin] at fin
            rw [decide_eq_true hin]
            refine iteT ⟨_, rfl, _, rfl, _, _, rfl, ?_⟩
            rw [emin]
            exact ⟨_, eD7, lenok, fin⟩
          · rw [if_neg hin] at fin
            rw [decide_eq_false hin]
            exact iteF ⟨_, rfl, _, eD7, lenok, fin⟩
        · obtain ⟨s6, eD2⟩ := p
          rw [mv_length, List.take_length] at eD2
          have e2 : (ns'.map fun n : Nat => V.int ((if n ∈ S then l else n : Nat) : Int)) = mv (ns'.map fun n => if n ∈ S then l else n) := by
            unfold mv
            rw [List.map_map]
            rfl
          rw [e2] at eD2
          have ea : ∀ x, x < d → ap (ns'.map fun n => if n ∈ S then l else n) x = mrg (ap ns') S l x := fun x hx => get_ap (by
            rw [List.getElem?_map, ap_get (by omega)]
            rfl)
          have nm2 := nm'.merge mg
          refine ⟨_, _, _, _, D2, _, rfl, (s3.trans s5).trans s6, eD2, by rw [List.length_map]; exact hl', ⟨fun x hx => by rw [ea x hx]; exact nm2.le x hx, fun f hf x hx => by rw [ea x hx]; exact nm2.rel f hf x hx⟩, fun x y hx hy e => ?_, fun t ht htd => ?_⟩
          · rw [ea x hx, ea y hy]
            exact mrg_keep (co x y hx hy e)
          · rw [ea _ (pm.lt t htd), ea t htd]
            by_cases z : t = j
            · rw [z]
              exact mg.same _ (by simp) _ (by simp)
            · exact mrg_keep (pr' t (by omega) htd)
      · obtain ⟨y4, y5, y6, y7, N', ns', rfl, s3, eN', hl', nm', co, pr'⟩ := p
        rw [mv_length, r2] at pr'
        refine ⟨_, _, _, _, _, N', ns', rfl, s1.trans s3, eN', hl', nm', fun m' hm' => ?_⟩
        rw [List.take_add_one, hm] at hm'
        rcases List.mem_append.mp hm' with z | z
        · intro x hx
          have pmm := row.pm (ap m') (List.mem_map.mpr ⟨m', List.mem_of_mem_take z, rfl⟩)
          exact co _ _ (pmm.lt x hx) hx (pr m' z x hx)
        · have em : m' = m := List.mem_singleton.mp z
          subst em
          intro x hx
          exact pr' x hx hx
    · obtain ⟨y3, y4, y5, y6, y7, N, ns, rfl, s1, eN, hl, nm, pr⟩ := p
      rw [List.length_map, tu.1, List.take_length] at pr
      refine ⟨_, rfl, q H1 N ns s1 eN hl (Nm.done hd0 nm fun m hm => ?_)⟩
      obtain ⟨m', hm', e⟩ := List.mem_map.mp hm
      rw [← e]
      exact pr m' hm'
end
end Gn

/-! W10: the law's genus, parity. -/
namespace Gn
open PySem PySem.Spec PyProof.Rows L2 Gm
section
variable {P : Program} {w : World} {K : PySem.W.Frag} {mg : Str → Option Value} {base : Heap}
def spLGenus (K : PySem.W.Frag) : Sp := fun vs H Q _ => ∃ (d : Nat) (r : Addr) (ps : List Addr) (ms : List (List Nat)), vs = [.int (d : Int), .ref r] ∧ SqT K H r (ps.map V.ref) ∧ Tups K H ps ms ∧ Row d ms ∧ 0 < d ∧ d ≤ 24 ∧ 0 < ms.length ∧ ms.length ≤ 8 ∧
  ∀ H', Same H H' → Q (gen d ms) H'
theorem okLGenus {f fJ fC fP fL : Addr} {fd fdJ fdC fdP fdL : FuncData} (F : Fun K "_law_le_genus" "_law_le_genus" sLGenus f fd) (T : Blt mg)
    (GJ : FnOk P w K mg base CX0 1 fJ fdJ ["_law_size", "_law_moves"] (spLJoin K)) (gJ : mg "_law_joined" = some (.ref fJ)) (kJ : PySem.W.keepIn K (.ref fJ) = true) (bJ : Binds K fdJ ["_law_size", "_law_moves"] [])
    (GC : FnOk P w K mg base CX0 2 fC fdC ["_law_move"] (spKind K)) (gC : mg "_law_kind" = some (.ref fC)) (kC : PySem.W.keepIn K (.ref fC) = true) (bC : Binds K fdC ["_law_move"] [])
    (GP : FnOk P w K mg base CX0 2 fP fdP ["_law_size", "_law_row"] (spLProd K)) (gP : mg "_law_le_product" = some (.ref fP)) (kP : PySem.W.keepIn K (.ref fP) = true) (bP : Binds K fdP ["_law_size", "_law_row"] [])
    (GL : FnOk P w K mg base CX0 3 fL fdL ["_law_move"] (spLLeast K)) (gL : mg "_law_le_least" = some (.ref fL)) (kL : PySem.W.keepIn K (.ref fL) = true) (bL : Binds K fdL ["_law_move"] []) :
    FnOk P w K mg base CX0 4 f fd ["_law_size", "_law_row"] (spLGenus K) := by
  refine F.ok scLGenus (fun vs H Q E h => ?_) (fun cdv A outer s H vs Q E hr h => ?_)
  · obtain ⟨d, r, ps, ms, rfl, _⟩ := h
    rfl
  · obtain ⟨d, r, ps, ms, rfl, hR, tu, row, hd0, hd, hm0, hml, q⟩ := h
    have nd := scLGenus.nd
    refine ⟨_, pss_cons (ps_if (pt_cmpR op_gt (pe_callB (cr_max rfl) (by rfl) T.max (by decide +kernel) (pa_cons (pe_call GJ (hr.mono (by decide)) (by rfl) gJ kJ bJ .nil pass0 (pa_cons (pv 0) (pa_cons (pv 1) pa_nil))) pa_nil)) pe_int (nomark _))
        (pss_one (ps_ret pe_non)) pss_nil)
      (pss_cons (ps_set (i := 2) nd rfl (.inl rfl) (pe_callB (cr_sum rfl) (by rfl) T.sum (by decide +kernel) (pa_cons (pe_lc (own := [("_law_move", 3)]) (g := gName 3) rfl nd (pi_tup (pv 1)) (blkOk_by (N := nLGenus) (sc := defScope sLGenus) (by decide +kernel))
          (fun _ _ _ _ _ => pg_name (i := 3) nd rfl (Or.inl rfl)) (fun _ _ _ _ _ => pts_nil) (fun _ _ _ _ _ => pe_call GL hr (by rfl) gL kL bL .nil pass0 (pa_cons (pv 3) pa_nil))) pa_nil)))
      (pss_one (ps_ret (pe_op op_fdiv (pe_op op_sub (pe_op op_add (pe_op op_sub (pv 2) (pv 0)) pe_int) (pe_callB call_len_seq (by rfl) T.len PySem.boot_len (pa_cons (pe_call GC (hr.mono (by decide)) (by rfl) gC kC bC .nil pass0
          (pa_cons (pe_call GP (hr.mono (by decide)) (by rfl) gP kP bP .nil pass0 (pa_cons (pv 0) (pa_cons (pv 1) pa_nil))) pa_nil)) pa_nil))) pe_int)))), ?_⟩
    refine ⟨_, rfl, _, rfl, d, r, ps, ms, rfl, hR, tu, row, hd0, hd, fun H1 p ns s1 e1 hl hj => ?_⟩
    refine ⟨p, nI ns, rfl, SqL.of (by rw [e1, mv_ints]; rfl), ?_, fun z hz hmax => ⟨_, _, rfl, rfl, _, rfl, ite2 (fun hp => ?_) (fun hp => ?_)⟩⟩
    · unfold nI
      rw [List.length_map]
      omega
    · have pos : 0 < z := of_decide_eq_true hp
      have nj : ¬ Join d (ms.map ap) := fun jn => by
        have all0 := hj.mpr jn
        obtain ⟨n, hn, e⟩ := List.mem_map.mp hz
        obtain ⟨i, hi, e3⟩ := List.getElem_of_mem hn
        have := all0 i (by omega)
        rw [get_ap (List.getElem?_eq_getElem hi), e3] at this
        omega
      have := q H1 s1
      rw [gen_no nj] at this
      exact this
    · have npos : ¬ 0 < z := fun y => hp (decide_eq_true y)
      have jn : Join d (ms.map ap) := hj.mp fun i hi => by
        have := hmax ((ap ns i : Nat) : Int) (List.mem_map.mpr ⟨_, ap_mem (by omega), rfl⟩)
        omega
      have hR1 := Same.tup s1 hR
      obtain ⟨pm1, pl, _⟩ := prd_ok row
      refine ⟨.ref r, rfl, r, rfl, ⟨_, hR1⟩, fun D nD => lc_tup (K := K) (a := r) (xs := ps.map V.ref) (fun i H4 => Same H1 H4 ∧ H4 D = some (.lst ((lsts d (ms.take i)).map V.int))) ⟨same_new nD, upd_same⟩
        (fun i H4 _ p => Same.tup p.1 hR1) (fun i x H4 hx p => ?_) (fun H4 p => ?_)⟩
      · obtain ⟨s4, eD⟩ := p
        obtain ⟨a, m, rfl, hm, hmm, tm, hi⟩ := (tu.same (s1.trans s4)).nth hx
        obtain ⟨r1, r2⟩ := row m hmm
        refine ⟨rfl, _, rfl, a, m, rfl, tm, r1, by omega, fun H5 s5 => ⟨_, s5 _ _ eD, ?_, fun b o e => ?_, ?_⟩⟩
        · unfold lsts
          rw [List.length_map, List.length_map, List.length_take]
          exact small (by omega)
        · rw [upd_ne (ne_of_none e nD)]
          exact s5 _ _ (s4 b o e)
        · rw [upd_same, List.take_add_one, hm, r2]
          unfold lsts
          rw [List.map_append, List.map_append]
          rfl
      · obtain ⟨s4, eD⟩ := p
        rw [List.length_map, tu.1, List.take_length] at eD
        have s14 := s1.trans s4
        refine ⟨D, lsts d ms, rfl, SqL.of eD, ?_⟩
        refine ⟨_, rfl, _, rfl, _, _, rfl, rfl, _, _, rfl, rfl, _, rfl, _, rfl, d, r, ps, ms, rfl, Same.tup s14 hR, tu.same s14, row, hd, hm0, fun H5 u s5 e5 => ?_⟩
        refine ⟨u, prd d ms, rfl, e5.sq, pm1, by omega, fun H6 v xs s6 e6 hx => ⟨v, xs, rfl, .inr e6, _, _, rfl, rfl, _, _, rfl, rfl, ⟨by decide, by decide⟩, ?_⟩⟩
        have e : (lsts d ms).sum - (d : Int) + 2 - ((xs.length : Nat) : Int) = gnum d ms := by
          rw [lsts_sum, hx, pl]
          unfold gnum
          omega
        have := q H6 ((s14.trans s5).trans s6)
        rw [gen_yes jn, ← e] at this
        exact this
def spParity (K : PySem.W.Frag) : Sp := fun vs H Q _ => ∃ (d : Nat) (r : Addr) (ps : List Addr) (ms : List (List Nat)), vs = [.int (d : Int), .ref r] ∧ SqT K H r (ps.map V.ref) ∧ Tups K H ps ms ∧ Row d ms ∧ 0 < d ∧ d ≤ 24 ∧ 0 < ms.length ∧ ms.length ≤ 8 ∧ Join d (ms.map ap) ∧
  ∀ H', Same H H' → Q (.bl true) H'
theorem okParity {f fC fP fL : Addr} {fd fdC fdP fdL : FuncData} (F : Fun K "_law_parity_right" "_law_parity_right" sParity f fd) (T : Blt mg)
    (GC : FnOk P w K mg base CX0 2 fC fdC ["_law_move"] (spKind K)) (gC : mg "_law_kind" = some (.ref fC)) (kC : PySem.W.keepIn K (.ref fC) = true) (bC : Binds K fdC ["_law_move"] [])
    (GP : FnOk P w K mg base CX0 2 fP fdP ["_law_size", "_law_row"] (spLProd K)) (gP : mg "_law_le_product" = some (.ref fP)) (kP : PySem.W.keepIn K (.ref fP) = true) (bP : Binds K fdP ["_law_size", "_law_row"] [])
    (GL : FnOk P w K mg base CX0 3 fL fdL ["_law_move"] (spLLeast K)) (gL : mg "_law_le_least" = some (.ref fL)) (kL : PySem.W.keepIn K (.ref fL) = true) (bL : Binds K fdL ["_law_move"] []) :
    FnOk P w K mg base CX0 4 f fd ["_law_size", "_law_row"] (spParity K) := by
  refine F.ok scParity (fun vs H Q E h => ?_) (fun cdv A outer s H vs Q E hr h => ?_)
  · obtain ⟨d, r, ps, ms, rfl, _⟩ := h
    rfl
  · obtain ⟨d, r, ps, ms, rfl, hR, tu, row, hd0, hd, hm0, hml, jn, q⟩ := h
    have nd := scParity.nd
    refine ⟨_, pss_cons (ps_set (i := 2) nd rfl (.inl rfl) (pe_callB (cr_sum rfl) (by rfl) T.sum (by decide +kernel) (pa_cons (pe_lc (own := [("_law_move", 4)]) (g := gName 4) rfl nd (pi_tup (pv 1)) (blkOk_by (N := nParity) (sc := defScope sParity) (by decide +kernel))
          (fun _ _ _ _ _ => pg_name (i := 4) nd rfl (Or.inl rfl)) (fun _ _ _ _ _ => pts_nil) (fun _ _ _ _ _ => pe_call GL hr (by rfl) gL kL bL .nil pass0 (pa_cons (pv 4) pa_nil))) pa_nil)))
      (pss_cons (ps_set (i := 3) nd rfl (.inl rfl) (pe_op op_sub (pe_op op_add (pe_op op_sub (pv 2) (pv 0)) pe_int) (pe_callB call_len_seq (by rfl) T.len PySem.boot_len (pa_cons (pe_call GC (hr.mono (by decide)) (by rfl) gC kC bC .nil pass0
          (pa_cons (pe_call GP (hr.mono (by decide)) (by rfl) gP kP bP .nil pass0 (pa_cons (pv 0) (pa_cons (pv 1) pa_nil))) pa_nil)) pa_nil))))
      (pss_one (ps_ret (pe_and (pe_cmpR op_ge (pv 3) pe_int (nomark _)) (pe_one (pe_cmpR op_eq (pe_op op_mod (pv 3) pe_int) pe_int (nomark _))))))), ?_⟩
    obtain ⟨pm1, pl, _⟩ := prd_ok row
    refine ⟨.ref r, rfl, r, rfl, ⟨_, hR⟩, fun D nD => lc_tup (K := K) (a := r) (xs := ps.map V.ref) (fun i H4 => Same H H4 ∧ H4 D = some (.lst ((lsts d (ms.take i)).map V.int))) ⟨same_new nD, upd_same⟩
      (fun i H4 _ p => Same.tup p.1 hR) (fun i x H4 hx p => ?_) (fun H4 p => ?_)⟩
    · obtain ⟨s4, eD⟩ := p
      obtain ⟨a, m, rfl, hm, hmm, tm, hi⟩ := (tu.same s4).nth hx
      obtain ⟨r1, r2⟩ := row m hmm
      refine ⟨rfl, _, rfl, a, m, rfl, tm, r1, by omega, fun H5 s5 => ⟨_, s5 _ _ eD, ?_, fun b o e => ?_, ?_⟩⟩
      · unfold lsts
        rw [List.length_map, List.length_map, List.length_take]
        exact small (by omega)
      · rw [upd_ne (ne_of_none e nD)]
        exact s5 _ _ (s4 b o e)
      · rw [upd_same, List.take_add_one, hm, r2]
        unfold lsts
        rw [List.map_append, List.map_append]
        rfl
    · obtain ⟨s4, eD⟩ := p
      rw [List.length_map, tu.1, List.take_length] at eD
      refine ⟨D, lsts d ms, rfl, SqL.of eD, ?_⟩
      refine ⟨_, rfl, _, rfl, _, _, rfl, rfl, _, _, rfl, rfl, _, rfl, _, rfl, d, r, ps, ms, rfl, Same.tup s4 hR, tu.same s4, row, hd, hm0, fun H5 u s5 e5 => ?_⟩
      refine ⟨u, prd d ms, rfl, e5.sq, pm1, by omega, fun H6 v xs s6 e6 hx => ⟨v, xs, rfl, .inr e6, _, _, rfl, rfl, ?_⟩⟩
      have e : (lsts d ms).sum - (d : Int) + 2 - ((xs.length : Nat) : Int) = gnum d ms := by
        rw [lsts_sum, hx, pl]
        unfold gnum
        omega
      obtain ⟨g0, g2⟩ := gnum_right hd0 row jn
      rw [← e] at g0 g2
      refine ⟨_, rfl, _, _, rfl, rfl, true, congrArg V.bl (decide_eq_true g0), iteT ?_⟩
      refine ⟨_, rfl, _, _, rfl, rfl, (by decide : (0 : Int) < 2), rfl, ?_⟩
      have e3 : decide (V.int (((lsts d ms).sum - (d : Int) + 2 - ((xs.length : Nat) : Int)) % 2) = V.int 0) = true := decide_eq_true (congrArg V.int g2)
      show Q (.bl (decide (V.int (((lsts d ms).sum - (d : Int) + 2 - ((xs.length : Nat) : Int)) % 2) = V.int 0))) H6
      rw [e3]
      exact q H6 ((s4.trans s5).trans s6)
end
end Gn

/-! W11: plain: rows carried, rows turned, the law's written rows. -/
namespace Gn
open PySem PySem.Spec PyProof.Rows L2 Gm
theorem cut_last {α : Type} (f : α → V) (xs : List α) (h : 0 < xs.length) : ¬ (HT.sIx (xs.map f).length 0 none = 0 ∧ HT.sIx (xs.map f).length (xs.map f).length (some (-1)) = (xs.map f).length) ∧ cutV (xs.map f) none (some (-1)) = xs.dropLast.map f := by
  have e : HT.sIx (xs.map f).length (xs.map f).length (some (-1)) = xs.length - 1 := by
    rw [List.length_map]
    unfold HT.sIx
    simp
    omega
  refine ⟨fun z => ?_, ?_⟩
  · rw [e, List.length_map] at z
    omega
  · unfold cutV
    rw [e]
    show ((xs.map f).drop 0).take (xs.length - 1 - 0) = _
    rw [List.drop_zero, Nat.sub_zero, List.dropLast_eq_take, List.map_take]
/-! ### carried -/
/-- c is m carried by g -/
structure Crd (m g c : List Nat) : Prop where
  len : c.length = m.length
  eq : ∀ i, i < m.length → ap c (ap g i) = ap g (ap m i)
theorem Crd.car {m g c : List Nat} (h : Crd m g c) : Car m.length (ap g) (ap m) (ap c) := h.eq
theorem Crd.mv {m g c : List Nat} (h : Crd m g c) (hm : Mv m) (hg : Mv g) (e : g.length = m.length) : Mv c := by
  refine Mv.of_pm ?_
  have pg : Pm m.length (ap g) := by
    have := hg.pm
    rw [e] at this
    exact this
  have pm := hm.pm
  rw [h.len]
  refine ⟨fun x hx => ?_, fun x y hx hy z => ?_⟩
  · obtain ⟨i, hi, ex⟩ := pg.surj x hx
    rw [← ex, h.eq i hi]
    exact pg.lt _ (pm.lt i hi)
  · obtain ⟨i, hi, ex⟩ := pg.surj x hx
    obtain ⟨j, hj, ey⟩ := pg.surj y hy
    rw [← ex, ← ey, h.eq i hi, h.eq j hj] at z
    rw [← ex, ← ey, pm.inj i j hi hj (pg.inj _ _ (pm.lt i hi) (pm.lt j hj) z)]
/-- a row, each move carried by g -/
def Crds (g : List Nat) : List (List Nat) → List (List Nat) → Prop
  | [], [] => True
  | m :: ms, c :: cs => Crd m g c ∧ Crds g ms cs
  | _, _ => False
theorem Crds.snoc {g m c : List Nat} : ∀ {ms cs : List (List Nat)}, Crds g ms cs → Crd m g c → Crds g (ms ++ [m]) (cs ++ [c])
  | [], [], _, k => ⟨k, True.intro⟩
  | _ :: _, _ :: _, h, k => ⟨h.1, Crds.snoc h.2 k⟩
  | [], _ :: _, h, _ => h.elim
  | _ :: _, [], h, _ => h.elim
theorem Crds.cars {d : Nat} {g : List Nat} : ∀ {ms cs : List (List Nat)}, Crds g ms cs → Row d ms → Cars d (ap g) (ms.map ap) (cs.map ap)
  | [], [], _, _ => True.intro
  | m :: ms, c :: cs, h, r => by
    refine ⟨?_, Crds.cars h.2 fun x hx => r x (by simp [hx])⟩
    have e := (r m (by simp)).2
    have := h.1.car
    rw [e] at this
    exact this
  | [], _ :: _, h, _ => h.elim
  | _ :: _, [], h, _ => h.elim
theorem Crds.row {d : Nat} {g : List Nat} (hg : Mv g) (eg : g.length = d) : ∀ {ms cs : List (List Nat)}, Crds g ms cs → Row d ms → Row d cs
  | [], [], _, _ => fun x hx => absurd hx (by simp)
  | m :: ms, c :: cs, h, r => fun x hx => by
    obtain ⟨r1, r2⟩ := r m (by simp)
    rcases List.mem_cons.mp hx with e | hx
    · rw [e]
      exact ⟨h.1.mv r1 hg (by omega), by rw [h.1.len, r2]⟩
    · exact Crds.row hg eg h.2 (fun y hy => r y (by simp [hy])) x hx
  | [], _ :: _, h, _ => h.elim
  | _ :: _, [], h, _ => h.elim
theorem Crds.length {g : List Nat} : ∀ {ms cs : List (List Nat)}, Crds g ms cs → cs.length = ms.length
  | [], [], _ => rfl
  | _ :: _, _ :: _, h => by rw [List.length_cons, List.length_cons, Crds.length h.2]
  | [], _ :: _, h => h.elim
  | _ :: _, [], h => h.elim
theorem gen_eq {d : Nat} {ms cs : List (List Nat)} (j : Join d (ms.map ap) ↔ Join d (cs.map ap)) (n : gnum d cs = gnum d ms) : gen d cs = gen d ms := by
  by_cases z : Join d (ms.map ap)
  · rw [gen_yes z, gen_yes (j.mp z), n]
  · rw [gen_no z, gen_no fun y => z (j.mpr y)]
theorem gen_car {d : Nat} {g : List Nat} {ms cs : List (List Nat)} (hg : Mv g) (eg : g.length = d) (row : Row d ms) (h : Crds g ms cs) : gen d cs = gen d ms := by
  have rowc := h.row hg eg row
  have cars := h.cars row
  have pg : Pm d (ap g) := by
    have := hg.pm
    rw [eg] at this
    exact this
  have pI : Pm d (fun j => j) := ⟨fun _ h => h, fun _ _ _ _ h => h⟩
  refine gen_eq (join_car_iff pg row.pm rowc.pm cars) ?_
  unfold gnum
  rw [cyc_prd row, cyc_prd rowc, lstF_car pg _ _ row.pm rowc.pm cars,
    cyc_car _ rfl pg (pm_prodF _ _ row.pm pI) (pm_prodF _ _ rowc.pm pI) (prodF_car _ _ _ _ row.pm pI cars fun i _ => rfl)]
/-! ### turned -/
theorem turned_of {d : Nat} {ms : List (List Nat)} {l c : List Nat} (row : Row d (ms ++ [l])) (h : Crd l (und (prd d (ms ++ [l]))) c) :
    Turned d (ms.map ap) (ap l) (ap c) (ap (und (prd d (ms ++ [l])))) ∧ Row d (c :: ms) := by
  obtain ⟨k1, k2, k3⟩ := prd_ok row
  obtain ⟨l1, l2⟩ := row l (by simp)
  have hc := h.mv l1 k1.und (by rw [und_len]; omega)
  have e : (ms ++ [l]).map ap = ms.map ap ++ [ap l] := by rw [List.map_append]; rfl
  rw [e] at k3
  have cl : c.length = d := by rw [h.len, l2]
  refine ⟨⟨fun m hm => ?_, ?_, ?_, ?_, fun i hi => ?_, fun i hi => ?_, ?_⟩, fun x hx => ?_⟩
  · exact row.pm m (by rw [e]; exact List.mem_append_left _ hm)
  · exact row.pm _ (by rw [e]; exact List.mem_append_right _ (by simp))
  · have := hc.pm
    rw [cl] at this
    exact this
  · have := k1.und.pm
    rw [und_len, k2] at this
    exact this
  · rw [← k3 i hi]
    exact k1.forth (by omega)
  · have lt : ap (und (prd d (ms ++ [l]))) i < d := by
      have := k1.und_lt (x := i) (by omega)
      omega
    rw [← k3 _ lt]
    exact k1.back (by omega)
  · have := h.car
    rw [l2] at this
    exact this
  · rcases List.mem_cons.mp hx with z | z
    · rw [z]
      exact ⟨hc, cl⟩
    · exact row x (List.mem_append_left _ z)
theorem turned_prd {d : Nat} {ms : List (List Nat)} {l c : List Nat} (row : Row d (ms ++ [l])) (h : Crd l (und (prd d (ms ++ [l]))) c) : prd d (c :: ms) = prd d (ms ++ [l]) := by
  obtain ⟨t, rowc⟩ := turned_of row h
  obtain ⟨_, k2, k3⟩ := prd_ok row
  obtain ⟨_, j2, j3⟩ := prd_ok rowc
  refine ext_ap j2 k2 fun i hi => ?_
  rw [k3 i hi, j3 i hi, List.map_append]
  exact t.prod i hi
theorem turned_gen {d : Nat} {ms : List (List Nat)} {l c : List Nat} (row : Row d (ms ++ [l])) (h : Crd l (und (prd d (ms ++ [l]))) c) : gen d (c :: ms) = gen d (ms ++ [l]) := by
  obtain ⟨t, rowc⟩ := turned_of row h
  have e : (ms ++ [l]).map ap = ms.map ap ++ [ap l] := by rw [List.map_append]; rfl
  refine gen_eq ?_ ?_
  · rw [e]
    exact t.join.symm
  · unfold gnum
    rw [turned_prd row h, e]
    have := t.needs
    show ((lstF d (ap c :: ms.map ap) : Nat) : Int) - _ = _
    rw [this]
/-! ### the law's written rows -/
theorem mv_list (m : List Nat) (h1 : m.all (fun x => decide (x < m.length)) = true) (h2 : m.Nodup) : Mv m := ⟨fun x hx => of_decide_eq_true (List.all_eq_true.mp h1 x hx), h2⟩
theorem mv_round : Mv [1, 2, 0] := mv_list _ (by decide) (by decide)
theorem mv_sw : Mv [1, 0, 2] := mv_list _ (by decide) (by decide)
theorem mv_one : Mv [0] := mv_list _ (by decide) (by decide)
theorem join_round {ms : List (List Nat)} (h : [1, 2, 0] ∈ ms) : Join 3 (ms.map ap) := fun f hf i hi => by
  have k := hf (ap [1, 2, 0]) (List.mem_map.mpr ⟨_, h, rfl⟩)
  have k0 : f 1 = f 0 := k 0 (by decide)
  have k1 : f 2 = f 1 := k 1 (by decide)
  match i, hi with
  | 0, _ => rfl
  | 1, _ => exact k0
  | 2, _ => exact k1.trans k0
theorem gen_a : gen 3 [[1, 2, 0], [1, 2, 0]] = .int 1 := by
  rw [gen_yes (join_round (by simp))]
  congr 1
theorem gen_b : gen 3 [[1, 2, 0], [1, 2, 0], [1, 2, 0]] = .int 1 := by
  rw [gen_yes (join_round (by simp))]
  congr 1
theorem gen_c : gen 3 [[1, 0, 2]] = .non := gen_no fun j => by
  have := j (fun i => if i = 2 then 1 else 0) (fun m hm => by
    have e : m = ap [1, 0, 2] := List.mem_singleton.mp hm
    subst e
    intro i hi
    match i, hi with
    | 0, _ => rfl
    | 1, _ => rfl
    | 2, _ => rfl) 2 (by decide)
  exact absurd this (by decide)
theorem gen_d : gen 1 [[0], [0]] = .int 0 := by
  rw [gen_yes fun f _ i hi => by rw [show i = 0 by omega]]
  congr 1
end Gn

/-! W12: _law_right. -/
namespace Gn
open PySem PySem.Spec PyProof.Rows L2 Gm
/-- a row of moves whose objects are told -/
def TupsF (H : Hp) (ps : List Addr) (ms : List (List Nat)) : Prop := ps.length = ms.length ∧ ∀ (i : Nat) (p : Addr) (m : List Nat), ps[i]? = some p → ms[i]? = some m → TupF H p (mv m)
section
variable {K : PySem.W.Frag} {H H' : Hp} {ps : List Addr} {ms : List (List Nat)}
theorem TupsF.tups (h : TupsF H ps ms) : Tups K H ps ms := ⟨h.1, fun i p m a b => (h.2 i p m a b).sq⟩
theorem TupsF.same (h : TupsF H ps ms) (e : Same H H') : TupsF H' ps ms := ⟨h.1, fun i p m a b => (h.2 i p m a b).same e⟩
theorem TupsF.but {D : Addr} {ys : List V} (h : TupsF H ps ms) (e : But D H H') (hD : H D = some (.lst ys)) : TupsF H' ps ms := ⟨h.1, fun i p m a b => (h.2 i p m a b).but e hD⟩
theorem TupsF.snoc {p : Addr} {m : List Nat} (h : TupsF H ps ms) (hp : TupF H p (mv m)) : TupsF H (ps ++ [p]) (ms ++ [m]) := by
  refine ⟨by rw [List.length_append, List.length_append, h.1]; rfl, fun i q x h1 h2 => ?_⟩
  by_cases hi : i < ps.length
  · rw [List.getElem?_append_left hi] at h1
    rw [List.getElem?_append_left (by rw [← h.1]; exact hi)] at h2
    exact h.2 i q x h1 h2
  · have hl : i < (ps ++ [p]).length := (List.getElem?_eq_some_iff.mp h1).1
    rw [List.length_append, List.length_singleton] at hl
    have e : i = ps.length := by omega
    have e1 : (ps ++ [p])[i]? = some p := by rw [e, List.getElem?_append_right (Nat.le_refl _), Nat.sub_self]; rfl
    have e2 : (ms ++ [m])[i]? = some m := by rw [e, h.1, List.getElem?_append_right (Nat.le_refl _), Nat.sub_self]; rfl
    rw [e1] at h1
    rw [e2] at h2
    cases h1
    cases h2
    exact hp
end
theorem Row.snoc {d : Nat} {ms : List (List Nat)} {m : List Nat} (h : Row d ms) (hm : Mv m) (e : m.length = d) : Row d (ms ++ [m]) := fun x hx => by
  rcases List.mem_append.mp hx with z | z
  · exact h x z
  · rw [List.mem_singleton.mp z]
    exact ⟨hm, e⟩
theorem last_get {α : Type} {xs ys : List α} {l : α} (h : xs ++ [l] = ys) : ys[xs.length]? = some l := by
  rw [← h, List.getElem?_append_right (Nat.le_refl _), Nat.sub_self]
  rfl
/-- the genus as data -/
theorem gen_data (d : Nat) (ms : List (List Nat)) : ∃ dd : PyData, (∀ K H, Dp K H (gen d ms) dd) ∧ SeqAt.shaped dd = true ∧ PyData.eqv dd dd = true := by
  by_cases z : Join d (ms.map ap)
  · refine ⟨.int (gnum d ms / 2), fun K H => ?_, by first | rfl | decide | simp [SeqAt.shaped, PyData.canLay0, PyData.depth], SeqAt.eqv_refl _ rfl⟩
    rw [gen_yes z]
    exact .int _
  · refine ⟨.none, fun K H => ?_, by first | rfl | decide | simp [SeqAt.shaped, PyData.canLay0, PyData.depth], rfl⟩
    rw [gen_no z]
    exact .non
/-- what the defs that _law_right calls do, and where they stand -/
structure Calls (P : Program) (w : World) (K : PySem.W.Frag) (mg : Str → Option Value) (base : Heap) (k : Nat) (x : Str) (ps : List Str) (sp : Sp) : Prop where
  ex : ∃ (f : Addr) (fd : FuncData), FnOk P w K mg base CX0 k f fd ps sp ∧ mg x = some (.ref f) ∧ PySem.W.keepIn K (.ref f) = true ∧ Binds K fd ps []
section
variable {P : Program} {w : World} {K : PySem.W.Frag} {mg : Str → Option Value} {base : Heap}
def spRight : Sp := fun vs H Q _ => ∃ D : Addr, vs = [.ref D] ∧ Dc H D ∧ ∀ H', But D H H' → Dc H' D → Q (.bl true) H'
theorem okRight {f : Addr} {fd : FuncData} (F : Fun K "_law_right" "_law_right" sRight f fd) (T : Blt mg)
    (CR : Calls P w K mg base 1 "_law_roll" ["_law_dice_here", "_law_total"] spRoll) (CD : Calls P w K mg base 3 "_law_move_drawn" ["_law_dice_here", "_law_size"] (spDrawn K))
    (CU : Calls P w K mg base 1 "_law_undone" ["_law_move"] (spUndone K)) (CLG : Calls P w K mg base 4 "_law_le_genus" ["_law_size", "_law_row"] (spLGenus K))
    (CG : Calls P w K mg base 5 "genus_of_row" ["moves"] (spGenus K)) (CPa : Calls P w K mg base 4 "_law_parity_right" ["_law_size", "_law_row"] (spParity K))
    (CLP : Calls P w K mg base 2 "_law_le_product" ["_law_size", "_law_row"] (spLProd K)) (CCa : Calls P w K mg base 1 "_law_le_carried" ["_law_move", "_law_by"] (spCarried K)) :
    FnOk P w K mg base CX0 6 f fd ["_law_dice_here"] spRight := by
  obtain ⟨fR, fdR, GR, gR, kR, bR⟩ := CR.ex
  obtain ⟨fD, fdD, GD, gD, kD, bD⟩ := CD.ex
  obtain ⟨fU, fdU, GU, gU, kU, bU⟩ := CU.ex
  obtain ⟨fLG, fdLG, GLG, gLG, kLG, bLG⟩ := CLG.ex
  obtain ⟨fG, fdG, GG, gG, kG, bG⟩ := CG.ex
  obtain ⟨fPa, fdPa, GPa, gPa, kPa, bPa⟩ := CPa.ex
  obtain ⟨fLP, fdLP, GLP, gLP, kLP, bLP⟩ := CLP.ex
  obtain ⟨fCa, fdCa, GCa, gCa, kCa, bCa⟩ := CCa.ex
  refine F.ok scRight (fun vs H Q E h => ?_) (fun cdv A outer s H vs Q E hr h => ?_)
  · obtain ⟨D, rfl, _⟩ := h
    rfl
  · obtain ⟨D, rfl, hD, q⟩ := h
    have nd := scRight.nd
    -- the return
    have rest3 : ∃ t, PSs (cxOf CX0 P w K mg base nRight "_law_right" (defScope sRight) f cdv A outer s H E).nox ((defBody sRight).drop 9) t ∧
        ∀ (d : Nat) (r tt : Addr) (ps us : List Addr) (ms ts : List (List Nat)) (H1 : Hp) (y4 y5 : Option V), But D H H1 → Dc H1 D → SqT K H1 r (ps.map V.ref) → Tups K H1 ps ms → Row d ms → SqT K H1 tt (us.map V.ref) → Tups K H1 us ts → Row d ts →
          0 < d → d ≤ 6 → 0 < ms.length → 0 < ts.length → ms.length ≤ 6 → ts.length ≤ 6 → prd d ts = prd d ms → gen d ts = gen d ms →
          t { nx := fun _ H' => Q .non H', rt := Q } [some (.ref D), some (.int (d : Int)), some (.ref r), some (gen d ms), y4, y5, some (.ref tt), none, none] H1 := by
      refine ⟨_, pss_one (ps_ret (pe_and (pe_cmpR (op_eqD hr.units) (pe_call GLP (hr.mono (by decide)) (by rfl) gLP kLP bLP .nil pass0 (pa_cons (pv 1) (pa_cons (pv 6) pa_nil))) (pe_call GLP (hr.mono (by decide)) (by rfl) gLP kLP bLP .nil pass0 (pa_cons (pv 1) (pa_cons (pv 2) pa_nil))) (nomark _))
        (pe_one (pe_cmpR (op_eqD hr.units) (pe_call GG hr (by rfl) gG kG bG .nil pass0 (pa_cons (pv 6) pa_nil)) (pv 3) (nomark _))))), fun d r tt ps us ms ts H1 y4 y5 b1 d1 hR tu row hT tv rowt hd0 hd hm0 ht0 hml htl ep eg => ?_⟩
      refine ⟨_, rfl, _, rfl, d, tt, us, ts, rfl, hT, tv, rowt, by omega, ht0, fun H2 p1 s2 t1 => ⟨_, rfl, _, rfl, d, r, ps, ms, rfl, Same.tup s2 hR, tu.same s2, row, by omega, hm0, fun H3 p2 s3 t2 => ?_⟩⟩
      rw [ep] at t1
      have t1' := (t1.same s3).sq (K := K)
      have t2' := t2.sq (K := K)
      rw [mv_ints] at t1' t2'
      refine ⟨.tuple (dI (nI (prd d ms))), .tuple (dI (nI (prd d ms))), .tup t1' (dp_ints _), .tup t2' (dp_ints _), shT _, shT _, true, congrArg V.bl (eqvT _), iteT ?_⟩
      have s23 := s2.trans s3
      refine ⟨_, rfl, d, tt, us, ts, rfl, Same.tup s23 hT, tv.same s23, rowt, hd0, by omega, ht0, by omega, fun H4 s4 => ⟨_, rfl, ?_⟩⟩
      rw [eg]
      obtain ⟨dd, dp, sh, eq⟩ := gen_data d ms
      refine ⟨dd, dd, dp _ _, dp _ _, sh, sh, ?_⟩
      rw [eq]
      have s24 := s23.trans s4
      exact q H4 (b1.trans (Same.but s24)) (d1.same s24)
    -- behind the first tests
    have rest2 : ∃ t, PSs (cxOf CX0 P w K mg base nRight "_law_right" (defScope sRight) f cdv A outer s H E).nox ((defBody sRight).drop 5) t ∧
        ∀ (d : Nat) (r : Addr) (ps : List Addr) (ms : List (List Nat)) (H1 : Hp), But D H H1 → Dc H1 D → SqT K H1 r (ps.map V.ref) → Tups K H1 ps ms → Row d ms → 0 < d → d ≤ 6 → 0 < ms.length → ms.length ≤ 6 →
          t { nx := fun _ H' => Q .non H', rt := Q } [some (.ref D), some (.int (d : Int)), some (.ref r), some (gen d ms), none, none, none, none, none] H1 := by
      obtain ⟨t3, p3, r3⟩ := rest3
      refine ⟨_, pss_cons (ps_set (i := 4) nd rfl (.inr rfl) (pe_call GD (hr.mono (by decide)) (by rfl) gD kD bD .nil pass0 (pa_cons (pv 0) (pa_cons (pv 1) pa_nil))))
        (pss_cons (ps_if (pt_cmpR (op_neD hr.units) (pe_call GG hr (by rfl) gG kG bG .nil pass0 (pa_cons (pe_tupleOf (by rfl) T.tuple (pe_lc (own := [("_law_move", 8)]) (g := gName 8) rfl nd (pi_tup (pv 2)) (blkOk_by (N := nRight) (sc := defScope sRight) (by decide +kernel))
            (fun _ _ _ _ _ => pg_name (i := 8) nd rfl (Or.inl rfl)) (fun _ _ _ _ _ => pts_nil) (fun _ _ _ _ _ => pe_call GCa (hr.mono (by decide)) (by rfl) gCa kCa bCa .nil pass0 (pa_cons (pv 8) (pa_cons (pv 4) pa_nil))))) pa_nil)) (pv 3) (nomark _))
          (pss_one (ps_ret pe_bl)) pss_nil)
        (pss_cons (ps_set (i := 5) nd rfl (.inl rfl) (pe_call GU (hr.mono (by decide)) (by rfl) gU kU bU .nil pass0 (pa_cons (pe_call GLP (hr.mono (by decide)) (by rfl) gLP kLP bLP .nil pass0 (pa_cons (pv 1) (pa_cons (pv 2) pa_nil))) pa_nil)))
        (pss_cons (ps_set (i := 6) nd rfl (.inl rfl) (pe_op op_catA (pe_tup (pa_cons (pe_call GCa (hr.mono (by decide)) (by rfl) gCa kCa bCa .nil pass0 (pa_cons (pe_ix (r := rIxT K) ix_tup (pv 2) (pe_un un_neg pe_int) (fun _ _ => rfl)) (pa_cons (pv 5) pa_nil))) pa_nil))
          (pe_slice sl_tupA (pv 2) po_none (po_some (pe_un un_neg pe_int)))))
        p3))), fun d r ps ms H1 b1 d1 hR tu row hd0 hd hm0 hml => ?_⟩
      -- by = _law_move_drawn(..)
      refine ⟨_, rfl, _, rfl, D, d, rfl, d1, by omega, fun H2 pb g b2 d2 tg hg lg => ?_⟩
      have hR2 := But.tup b2 hR d1.lst
      have tu2 := tu.but b2 d1.lst
      have b12 := b1.trans b2
      -- the row carried
      refine ⟨.ref r, rfl, r, rfl, ⟨_, hR2⟩, fun L nL => lc_tup (K := K) (a := r) (xs := ps.map V.ref) (fun i H3 => ∃ (qs : List Addr) (cs : List (List Nat)), Same H2 H3 ∧ H3 L = some (.lst (qs.map V.ref)) ∧ Tups K H3 qs cs ∧ cs.length = i ∧ Crds g (ms.take i) cs)
        ⟨[], [], same_new nL, upd_same, ⟨rfl, fun i p m h => by simp at h⟩, rfl, True.intro⟩ (fun i H3 _ p => ?_) (fun i x H3 hx p => ?_) (fun H3 p => ?_)⟩
      · obtain ⟨qs, cs, s3, _⟩ := p
        exact Same.tup s3 hR2
      · obtain ⟨qs, cs, s3, eL, tq, lc, cr⟩ := p
        obtain ⟨a, m, rfl, hm, hmm, tm, hi⟩ := (tu2.same s3).nth hx
        obtain ⟨r1, r2⟩ := row m hmm
        refine ⟨rfl, _, rfl, _, rfl, a, pb, m, g, rfl, tm, (tg.same s3).sq, r1, hg, by omega, by omega, fun H4 p c s4 hp hc he => ⟨_, s4 _ _ eL, ?_, qs ++ [p], cs ++ [c], fun b o e => ?_, ?_, ?_, ?_, ?_⟩⟩
        · rw [List.length_map, tq.1]
          exact small (by omega)
        · rw [upd_ne (ne_of_none e nL)]
          exact s4 _ _ (s3 b o e)
        · rw [upd_same, refs_append]
        · exact ((tq.same s4).snoc hp).but (But.upd L) ⟨_, s4 _ _ eL⟩
        · rw [List.length_append, lc]
          rfl
        · rw [List.take_add_one, hm]
          exact cr.snoc ⟨hc, he⟩
      · obtain ⟨qs, cs, s3, eL, tq, lc, cr⟩ := p
        rw [List.length_map, tu2.1] at lc cr
        rw [List.take_length] at cr
        have rowc := cr.row hg lg row
        refine .inl ⟨L, _, rfl, SqL.of eL, fun v nv => ⟨d, v, qs, cs, rfl, SqT.of upd_same, tq.same (same_new nv), rowc, hd0, by omega, by omega, by omega, fun H4 s4 => ⟨_, rfl, ?_⟩⟩⟩
        rw [gen_car hg lg row cr]
        obtain ⟨dd, dp, sh, eq⟩ := gen_data d ms
        refine ⟨dd, dd, dp _ _, dp _ _, sh, sh, _, rfl, ?_⟩
        rw [eq]
        refine iteF ?_
        have s24 := (s3.trans (same_new nv)).trans s4
        have hR4 := Same.tup s24 hR2
        have tu4 := tu2.same s24
        have b14 := b12.trans (Same.but s24)
        have d4 := d2.same s24
        clear s3 s4 eL tq cr nv nL lc
        -- back
        obtain ⟨k1, k2, _⟩ := prd_ok row
        refine ⟨_, rfl, _, rfl, d, r, ps, ms, rfl, hR4, tu4, row, by omega, hm0, fun H6 pp s6 tpp => ⟨pp, prd d ms, rfl, tpp, k1, by omega, fun H7 pk s7 hpk => ?_⟩⟩
        have s67 := s6.trans s7
        have hR7 := Same.tup s67 hR4
        have tu7 := tu4.same s67
        have b17 := b14.trans (Same.but s67)
        have d7 := d4.same s67
        -- the last move
        have ems : ms.dropLast ++ [ms.getLast (fun z => by rw [z] at hm0; exact absurd hm0 (by decide))] = ms := List.dropLast_concat_getLast _
        have hp0 : 0 < ps.length := by rw [tu.1]; exact hm0
        have eps : ps.dropLast ++ [ps.getLast (fun z => by rw [z] at hp0; exact absurd hp0 (by decide))] = ps := List.dropLast_concat_getLast _
        generalize ms.getLast _ = l at ems
        generalize ps.getLast _ = al at eps
        have lps : ps.dropLast.length = ms.dropLast.length := by rw [List.length_dropLast, List.length_dropLast, tu.1]
        have gps : ps[ps.dropLast.length]? = some al := last_get eps
        have gms : ms[ps.dropLast.length]? = some l := by
          rw [lps]
          exact last_get ems
        have tl := tu7.2 _ al l gps gms
        obtain ⟨l1, l2⟩ := row l (List.mem_of_getElem? gms)
        have gl : atI (ps.map V.ref) (-1) = some (.ref al) := by
          have := atI_last (ps.dropLast.map V.ref) (V.ref al)
          rw [refs_append, eps] at this
          exact this
        -- turned
        refine ⟨.ref r, rfl, 1, rfl, r, _, -1, .ref al, rfl, rfl, hR7, gl, _, rfl, al, pk, l, und (prd d ms), rfl, tl, hpk, l1, k1.und, by rw [und_len]; omega, by omega, fun H8 pc c s8 hpc hcl hce => ?_⟩
        refine ⟨by show 1 ≤ sizeLine; decide, fun W nW => ?_⟩
        have s9 := s8.trans (same_new (o := .tup [.ref pc]) nW)
        have eW : (upd H8 W (.tup [.ref pc])) W = some (.tup [.ref pc]) := upd_same
        have hpc9 := Same.tup (same_new (o := .tup [.ref pc]) nW) hpc
        generalize upd H8 W (.tup [.ref pc]) = H9 at s9 eW hpc9 ⊢
        have hR9 := Same.tup s9 hR7
        have tu9 := tu7.same s9
        obtain ⟨cw, ce⟩ := cut_last V.ref ps hp0
        have row' : Row d (ms.dropLast ++ [l]) := by rw [ems]; exact row
        have crd : Crd l (und (prd d (ms.dropLast ++ [l]))) c := by rw [ems]; exact ⟨hcl, hce⟩
        have tprd := turned_prd row' crd
        have tgen := turned_gen row' crd
        have trow := (turned_of row' crd).2
        rw [ems] at tprd tgen
        have tups' : Tups K H9 (pc :: ps.dropLast) (c :: ms.dropLast) := by
          refine ⟨by rw [List.length_cons, List.length_cons, lps], fun i p m h1 h2 => ?_⟩
          cases i with
          | zero =>
            cases h1
            cases h2
            exact hpc9
          | succ i =>
            have h1 : ps.dropLast[i]? = some p := h1
            have h2 : ms.dropLast[i]? = some m := h2
            have i1 : i < ps.dropLast.length := (List.getElem?_eq_some_iff.mp h1).1
            refine tu9.2 i p m ?_ ?_
            · rw [← eps, List.getElem?_append_left i1]
              exact h1
            · rw [← ems, List.getElem?_append_left (by rw [← lps]; exact i1)]
              exact h2
        have fin : ∀ (H10 : Hp) (tt : Addr), Same H9 H10 → SqT K H10 tt ((pc :: ps.dropLast).map V.ref) → _ := fun H10 tt s10 ht =>
          r3 d r tt ps (pc :: ps.dropLast) ms (c :: ms.dropLast) H10 (some (.ref pb)) (some (.ref pk)) ((b17.trans (Same.but s9)).trans (Same.but s10)) ((d7.same s9).same s10) (Same.tup s10 hR9) (tu9.same s10) row ht (tups'.same s10) trow
            hd0 hd hm0 (Nat.succ_pos _) hml (by rw [List.length_cons, List.length_dropLast]; omega) tprd tgen
        refine ⟨_, rfl, 1, rfl, -1, rfl, r, _, rfl, hR9, fun z => absurd z cw, fun _ p np => ?_⟩
        rw [ce]
        have s10 := same_new (o := .tup (ps.dropLast.map V.ref)) np
        have ep : (upd H9 p (.tup (ps.dropLast.map V.ref))) p = some (.tup (ps.dropLast.map V.ref)) := upd_same
        generalize upd H9 p (.tup (ps.dropLast.map V.ref)) = H10 at s10 ep ⊢
        refine ⟨W, p, [.ref pc], _, rfl, rfl, SqT.of (s10 _ _ eW), SqT.of ep, ?_, fun z => absurd z (by simp), fun _ z => ?_, fun _ _ u nu => ?_⟩
        · rw [List.length_map, List.length_dropLast, tu.1]
          show 1 + (ms.length - 1) ≤ sizeLine
          exact Nat.le_of_lt (small (by omega))
        · refine fin H10 W s10 (SqT.of ?_)
          rw [s10 _ _ eW, List.map_cons, z]
        · refine fin _ u (s10.trans (same_new nu)) (SqT.of ?_)
          rw [upd_same]
          rfl
    -- due, and the first tests
    have rest1 : ∃ t, PSs (cxOf CX0 P w K mg base nRight "_law_right" (defScope sRight) f cdv A outer s H E).nox ((defBody sRight).drop 3) t ∧
        ∀ (d : Nat) (r : Addr) (ps : List Addr) (ms : List (List Nat)) (H1 : Hp), But D H H1 → Dc H1 D → SqT K H1 r (ps.map V.ref) → Tups K H1 ps ms → Row d ms → 0 < d → d ≤ 6 → 0 < ms.length → ms.length ≤ 6 →
          t { nx := fun _ H' => Q .non H', rt := Q } [some (.ref D), some (.int (d : Int)), some (.ref r), none, none, none, none, none, none] H1 := by
      obtain ⟨t2, p2, r2⟩ := rest2
      refine ⟨_, pss_cons (ps_set (i := 3) nd rfl (.inl rfl) (pe_call GLG (hr.mono (by decide)) (by rfl) gLG kLG bLG .nil pass0 (pa_cons (pv 1) (pa_cons (pv 2) pa_nil))))
        (pss_cons (ps_if (PW.pt (pw_or (pt_cmpR (op_neD hr.units) (pe_call GG hr (by rfl) gG kG bG .nil pass0 (pa_cons (pv 2) pa_nil)) (pv 3) (nomark _))
            (pw_or1 (PW.pt (pw_and (pt_cmp (pc_notN (pv 3))) (pw_and1 (pt_not (pt_val (pe_call GPa (hr.mono (by decide)) (by rfl) gPa kPa bPa .nil pass0 (pa_cons (pv 1) (pa_cons (pv 2) pa_nil)))))))))))
          (pss_one (ps_ret pe_bl)) pss_nil)
        p2), fun d r ps ms H1 b1 d1 hR tu row hd0 hd hm0 hml => ?_⟩
      refine ⟨_, rfl, _, rfl, d, r, ps, ms, rfl, hR, tu, row, hd0, by omega, hm0, by omega, fun H2 s2 => ?_⟩
      refine ⟨_, rfl, d, r, ps, ms, rfl, Same.tup s2 hR, tu.same s2, row, hd0, by omega, hm0, by omega, fun H3 s3 => ⟨_, rfl, ?_⟩⟩
      obtain ⟨dd, dp, sh, eq⟩ := gen_data d ms
      refine ⟨dd, dd, dp _ _, dp _ _, sh, sh, _, rfl, ?_⟩
      rw [eq]
      refine iteF ?_
      have s23 := s2.trans s3
      by_cases jn : Join d (ms.map ap)
      · have fin := fun H4 (s4 : Same H1 H4) => r2 d r ps ms H4 (b1.trans (Same.but s4)) (d1.same s4) (Same.tup s4 hR) (tu.same s4) row hd0 hd hm0 hml
        refine ⟨_, rfl, true, ?_, iteT ⟨_, rfl, _, rfl, d, r, ps, ms, rfl, Same.tup s23 hR, tu.same s23, row, hd0, by omega, hm0, by omega, jn, fun H4 s4 => ⟨true, rfl, iteF (fin H4 (s23.trans s4))⟩⟩⟩
        rw [gen_yes jn]
        rfl
      · have fin := r2 d r ps ms H3 (b1.trans (Same.but s23)) (d1.same s23) (Same.tup s23 hR) (tu.same s23) row hd0 hd hm0 hml
        refine ⟨_, rfl, false, ?_, iteF (iteF fin)⟩
        rw [gen_no jn]
        rfl
    -- the draws
    obtain ⟨t1, p1, r1⟩ := rest1
    refine ⟨_, pss_cons (ps_set (i := 1) nd rfl (.inr rfl) (pe_op op_add pe_int (pe_call GR (hr.mono (by decide)) (by rfl) gR kR bR .nil pass0 (pa_cons (pv 0) (pa_cons pe_int pa_nil)))))
      (pss_cons (ps_set (i := 2) nd rfl (.inl rfl) (pe_tupleOf (by rfl) T.tuple (pe_lc (own := [("_law_turn", 7)]) (g := gName 7) rfl nd (pi_range1 rfl T.range (pa_cons (pe_op op_add pe_int (pe_call GR (hr.mono (by decide)) (by rfl) gR kR bR .nil pass0 (pa_cons (pv 0) (pa_cons pe_int pa_nil)))) pa_nil))
          (blkOk_by (N := nRight) (sc := defScope sRight) (by decide +kernel)) (fun _ _ _ _ _ => pg_name (i := 7) nd rfl (Or.inl rfl)) (fun _ _ _ _ _ => pts_nil) (fun _ _ _ _ _ => pe_call GD (hr.mono (by decide)) (by rfl) gD kD bD .nil pass0 (pa_cons (pv 0) (pa_cons (pv 1) pa_nil))))))
      (pss_cons (ps_if (pt_cmpR op_eq (pe_call GR (hr.mono (by decide)) (by rfl) gR kR bR .nil pass0 (pa_cons (pv 0) (pa_cons pe_int pa_nil))) pe_int (nomark _))
          (pss_one (ps_set (i := 2) nd rfl (.inl rfl) (pe_op op_catA (pv 2) (pe_tup (pa_cons (pe_call GU (hr.mono (by decide)) (by rfl) gU kU bU .nil pass0 (pa_cons (pe_ix (r := rIxT K) ix_tup (pv 2) pe_int (fun _ _ => rfl)) pa_nil)) pa_nil))))) pss_nil)
      p1)), ?_⟩
    refine ⟨_, rfl, D, 6, rfl, hD, by decide, by decide, fun H1 n b1 d1 hn => ⟨_, _, rfl, rfl, ?_⟩⟩
    obtain ⟨d, ed, hd0, hd⟩ : ∃ d : Nat, (1 : Int) + (n : Int) = (d : Int) ∧ 0 < d ∧ d ≤ 6 := ⟨1 + n, by omega, by omega, by omega⟩
    show tSeq _ _ { nx := fun _ H' => Q .non H', rt := Q } [some (.ref D), some (.int ((1 : Int) + (n : Int))), none, none, none, none, none, none, none] H1
    rw [ed]
    refine ⟨_, rfl, D, 5, rfl, d1, by decide, by decide, fun H2 k b2 d2 hk => ⟨_, _, rfl, rfl, _, rfl, by omega, by omega, ?_⟩⟩
    obtain ⟨c, ec, hc0, hc⟩ : ∃ c : Nat, ((1 : Int) + (k : Int)).toNat = c ∧ 0 < c ∧ c ≤ 5 := ⟨1 + k, by omega, by omega, by omega⟩
    rw [ec]
    intro L nL
    have nLD : D ≠ L := fun e => by
      obtain ⟨ys, hy⟩ := d2.lst
      rw [e, nL] at hy
      cases hy
    have nLH : H L = none := (b1.trans b2).free nL nLD.symm
    refine lc_range (lo := 0) (n := c) (fun i H3 => ∃ (ps : List Addr) (ms : List (List Nat)), But D H2 H3 ∧ Dc H3 D ∧ H3 L = some (.lst (ps.map V.ref)) ∧ TupsF H3 ps ms ∧ Row d ms ∧ ms.length = i)
      ⟨[], [], Same.but (same_new nL), d2.same (same_new nL), upd_same, ⟨rfl, fun i p m h => by simp at h⟩, fun m hm => absurd hm (by simp), rfl⟩ (fun i H3 hi p => ?_) (fun H3 p => ?_)
    · obtain ⟨ps, ms, b3, d3, eL, tf, row, lm⟩ := p
      obtain ⟨x1, x2, x3, hx⟩ := id d3
      refine ⟨rfl, _, rfl, _, rfl, D, d, rfl, d3, by omega, fun H4 p m b4 d4 tp hm hl => ⟨_, b4 _ _ nLD.symm eL, ?_, ps ++ [p], ms ++ [m], fun b o nb e => ?_, ?_, ?_, ?_, row.snoc hm hl, ?_⟩⟩
      · rw [List.length_map, tf.1]
        exact small (by omega)
      · rw [upd_ne (ne_of_none e nL)]
        exact b4 _ _ nb (b3 b o nb e)
      · obtain ⟨y1, y2, y3, hy⟩ := d4
        exact ⟨y1, y2, y3, by rw [upd_ne nLD]; exact hy⟩
      · rw [upd_same, refs_append]
      · exact ((tf.but b4 hx).snoc tp).but (But.upd L) (b4 _ _ nLD.symm eL)
      · rw [List.length_append, lm]
        rfl
    · obtain ⟨ps, ms, b3, d3, eL, tf, row, lm⟩ := p
      refine .inl ⟨L, _, rfl, SqL.of eL, fun r nr => ?_⟩
      have s4 := same_new (o := .tup (ps.map V.ref)) nr
      have er : (upd H3 r (.tup (ps.map V.ref))) r = some (.tup (ps.map V.ref)) := upd_same
      generalize upd H3 r (.tup (ps.map V.ref)) = H4 at s4 er ⊢
      have d4 := d3.same s4
      have tf4 := tf.same s4
      have b04 : But D H H4 := ((b1.trans b2).trans b3).trans (Same.but s4)
      obtain ⟨x1, x2, x3, hx⟩ := id d4
      refine ⟨_, rfl, D, 2, rfl, d4, by decide, by decide, fun H5 z b5 d5 hz => ⟨rfl, _, rfl, ite2 (fun _ => ?_) (fun _ => ?_)⟩⟩
      · have tf5 := tf4.but b5 hx
        have er5 := SqT.of (K := K) (b5 _ _ (ne_of er hx fun z => nomatch z) er)
        obtain ⟨m0, hm0⟩ : ∃ m, ms[0]? = some m := ⟨ms[0], List.getElem?_eq_getElem (by omega)⟩
        obtain ⟨a0, ha0⟩ : ∃ a, ps[0]? = some a := ⟨ps[0]'(by rw [tf.1]; omega), List.getElem?_eq_getElem _⟩
        have g0 : atI (ps.map V.ref) 0 = some (.ref a0) := atI_nat (j := 0) (by rw [List.getElem?_map, ha0]; rfl)
        obtain ⟨m01, m02⟩ := row m0 (List.mem_of_getElem? hm0)
        refine ⟨_, rfl, _, rfl, r, _, 0, .ref a0, rfl, rfl, er5, g0, a0, m0, rfl, tf5.2 0 a0 m0 ha0 hm0, m01, by omega, fun H6 u s6 hu => ⟨by show 1 ≤ sizeLine; decide, fun W nW => ?_⟩⟩
        have s7 := s6.trans (same_new (o := .tup [.ref u]) nW)
        have eW : (upd H6 W (.tup [.ref u])) W = some (.tup [.ref u]) := upd_same
        have hu7 := Same.tup (same_new (o := .tup [.ref u]) nW) hu
        generalize upd H6 W (.tup [.ref u]) = H7 at s7 eW hu7 ⊢
        refine ⟨r, W, _, [.ref u], rfl, rfl, Same.tup s7 er5, SqT.of eW, ?_, fun z => ?_, fun _ z => absurd z (by simp), fun _ _ v nv => ?_⟩
        · rw [List.length_map, tf.1]
          show ms.length + 1 ≤ sizeLine
          exact Nat.le_of_lt (small (by omega))
        · have := congrArg List.length z
          rw [List.length_map, tf.1] at this
          exact absurd this (by show ¬ ms.length = 0; omega)
        · have s8 := s7.trans (same_new (o := .tup (ps.map V.ref ++ [.ref u])) nv)
          have e8 : (upd H7 v (.tup (ps.map V.ref ++ [.ref u]))) v = some (.tup ((ps ++ [u]).map V.ref)) := by rw [upd_same, refs_append]
          exact r1 d v (ps ++ [u]) (ms ++ [und m0]) _ ((b04.trans b5).trans (Same.but s8)) (d5.same s8) (SqT.of e8) ((tf5.tups.same s8).snoc (Same.tup (same_new nv) hu7)) (row.snoc m01.und (by rw [und_len]; omega)) hd0 hd
            (by rw [List.length_append, List.length_singleton]; omega) (by rw [List.length_append, List.length_singleton]; omega)
      · have tf5 := tf4.but b5 hx
        exact r1 d r ps ms H5 (b04.trans b5) d5 (SqT.of (b5 _ _ (ne_of er hx fun z => nomatch z) er)) tf5.tups row hd0 hd (by omega) (by omega)
end
end Gn

/-! W13: law. -/
namespace Gn
open PySem PySem.Spec PyProof.Rows L2 Gm
theorem But.whole {D : Addr} {H H' : Hp} (b : But D H H') (n : H D = none) : Same H H' := fun c o e => b c o (ne_of_none e n) e
theorem tups_lit {K : PySem.W.Frag} {H : Hp} : ∀ {ps : List Addr} {ms : List (List Nat)}, Paired (fun p m => SqT K H p (mv m)) ps ms → Tups K H ps ms
  | _, _, .nil => ⟨rfl, fun i p m h => by simp at h⟩
  | p :: ps, m :: ms, .cons h t => by
    obtain ⟨a, b⟩ := tups_lit t
    refine ⟨by rw [List.length_cons, List.length_cons, a], fun i q x h1 h2 => ?_⟩
    cases i with
    | zero =>
      cases h1
      cases h2
      exact h
    | succ i => exact b i q x h1 h2
section
variable {P : Program} {w : World} {K : PySem.W.Frag} {mg : Str → Option Value} {base : Heap}
def spLaw (K : PySem.W.Frag) : Sp := fun vs H Q _ => ∃ (S : Addr) (ns : List Int), vs = [.ref S] ∧ SqL K H S (ns.map V.int) ∧ ns.length ≤ 63 ∧ ∀ H', Q (.bl true) H'
theorem okLaw {f : Addr} {fd : FuncData} (F : Fun K "law" "law" sLaw f fd) (T : Blt mg) (CD : Calls P w K mg base 1 "_law_dice" ["_law_script", "_law_spot"] (spDice K)) (CR : Calls P w K mg base 6 "_law_right" ["_law_dice_here"] spRight)
    (CG : Calls P w K mg base 5 "genus_of_row" ["moves"] (spGenus K)) : FnOk P w K mg base CX0 7 f fd ["_law_script"] (spLaw K) := by
  obtain ⟨fD, fdD, GD, gD, kD, bD⟩ := CD.ex
  obtain ⟨fR, fdR, GR, gR, kR, bR⟩ := CR.ex
  obtain ⟨fG, fdG, GG, gG, kG, bG⟩ := CG.ex
  refine F.ok scLaw (fun vs H Q E h => ?_) (fun cdv A outer s H vs Q E hr h => ?_)
  · obtain ⟨S, ns, rfl, _⟩ := h
    rfl
  · obtain ⟨S, ns, rfl, hS, hlen, q⟩ := h
    have nd := scLaw.nd
    refine ⟨_, pss_cons (ps_for PassesOwn.never rfl (pi_range1 rfl T.range (pa_cons (pe_callB (call_max2 rfl) (by rfl) T.max (by decide +kernel) (pa_cons pe_int (pa_cons (pe_callB (call_min2 rfl) (by rfl) T.min (by decide +kernel)
          (pa_cons pe_int (pa_cons (pe_callB call_len_seq (by rfl) T.len PySem.boot_len (pa_cons (pv 0) pa_nil)) pa_nil))) pa_nil))) pa_nil)) (pg_name (i := 1) nd rfl (Or.inl rfl))
        (pss_cons (ps_set (i := 2) nd rfl (.inl rfl) (pe_call GD (hr.mono (by decide)) (by rfl) gD kD bD .nil pass0 (pa_cons (pv 0) (pa_cons (pv 1) pa_nil))))
        (pss_one (ps_for PassesOwn.never rfl (pi_range1 rfl T.range (pa_cons pe_int pa_nil)) (pg_name (i := 3) nd rfl (Or.inl rfl))
          (pss_one (ps_if (pt_not (pt_val (pe_call GR hr (by rfl) gR kR bR .nil pass0 (pa_cons (pv 2) pa_nil)))) (pss_one (ps_ret pe_bl)) pss_nil))))))
      (pss_cons (ps_set (i := 4) nd rfl (.inl rfl) (pe_lst (pa_cons (pe_call GG (hr.mono (by decide)) (by rfl) gG kG bG .nil pass0 (pa_cons (pe_tup (pa_cons (pe_tup (pa_cons pe_int (pa_cons pe_int (pa_cons pe_int pa_nil)))) (pa_cons (pe_tup (pa_cons pe_int (pa_cons pe_int (pa_cons pe_int pa_nil)))) pa_nil))) pa_nil))
          (pa_cons (pe_call GG (hr.mono (by decide)) (by rfl) gG kG bG .nil pass0 (pa_cons (pe_tup (pa_cons (pe_tup (pa_cons pe_int (pa_cons pe_int (pa_cons pe_int pa_nil)))) (pa_cons (pe_tup (pa_cons pe_int (pa_cons pe_int (pa_cons pe_int pa_nil)))) (pa_cons (pe_tup (pa_cons pe_int (pa_cons pe_int (pa_cons pe_int pa_nil)))) pa_nil)))) pa_nil)) pa_nil))))
      (pss_one (ps_ret (pe_and (pe_cmpR (op_eqD hr.units) (pv 4) (pe_lst (pa_cons pe_int (pa_cons pe_int pa_nil))) (nomark _))
        (pe_and (pe_cmp (pc_isN (pe_call GG (hr.mono (by decide)) (by rfl) gG kG bG .nil pass0 (pa_cons (pe_tup (pa_cons (pe_tup (pa_cons pe_int (pa_cons pe_int (pa_cons pe_int pa_nil)))) pa_nil)) pa_nil))))
        (pe_one (pe_cmpR op_eq (pe_call GG (hr.mono (by decide)) (by rfl) gG kG bG .nil pass0 (pa_cons (pe_tup (pa_cons (pe_tup (pa_cons pe_int pa_nil)) (pa_cons (pe_tup (pa_cons pe_int pa_nil)) pa_nil))) pa_nil)) pe_int (nomark _)))))))), ?_⟩
    have ln : (ns.map V.int).length = ns.length := List.length_map _
    refine ⟨_, rfl, S, _, rfl, .inl hS, _, _, rfl, _, _, rfl, _, rfl, ?_, ?_, ?_⟩
    · split <;> split <;> omega
    · split <;> split <;> omega
    obtain ⟨c, ec, hc⟩ : ∃ c : Nat, (if (if (((ns.map V.int).length : Nat) : Int) < 3 then (((ns.map V.int).length : Nat) : Int) else 3) > 1 then (if (((ns.map V.int).length : Nat) : Int) < 3 then (((ns.map V.int).length : Nat) : Int) else 3) else (1 : Int)).toNat = c ∧ c ≤ 3 := ⟨_, rfl, by split <;> split <;> omega⟩
    rw [ec]
    refine for_range (lo := 0) (n := c) (fun i σ H1 => ∃ y1 y2 y3, σ = [some (.ref S), y1, y2, y3, none] ∧ Same H H1) ⟨none, none, none, rfl, Same.refl _⟩ (fun i σ H1 hi p => ?_) (fun σ H1 p => ?_)
    · obtain ⟨y1, y2, y3, rfl, s1⟩ := p
      have ei : ((0 : Int) + (i : Int)) = (i : Int) := Int.zero_add _
      rw [ei]
      refine ⟨_, rfl, _, rfl, S, ns, i, rfl, s1.seq hS, hlen, by omega, fun H2 D s2 nD d2 => ?_⟩
      refine ⟨4, rfl, by omega, by omega, for_range (lo := 0) (n := 4) (fun j σ H3 => ∃ y3, σ = [some (.ref S), some (.int (i : Int)), some (.ref D), y3, none] ∧ Same H1 H3 ∧ Dc H3 D) ⟨y3, rfl, s2, d2⟩ (fun j σ H3 hj p => ?_) (fun σ H3 p => ?_)⟩
      · obtain ⟨y3, rfl, s3, d3⟩ := p
        refine ⟨_, rfl, D, rfl, d3, fun H4 b4 d4 => ⟨true, rfl, iteF ⟨_, rfl, fun b o e => ?_, d4⟩⟩⟩
        exact b4 b o (ne_of_none e nD) (s3 b o e)
      · obtain ⟨y3, rfl, s3, d3⟩ := p
        exact ⟨_, _, _, rfl, s1.trans s3⟩
    · obtain ⟨y1, y2, y3, rfl, s1⟩ := p
      clear ec hc s1
      have l2 : 2 ≤ sizeLine := by decide
      have l3 : 3 ≤ sizeLine := by decide
      have l1 : 1 ≤ sizeLine := by decide
      have row3 : ∀ ms : List (List Nat), (∀ m ∈ ms, m = [1, 2, 0]) → Row 3 ms := fun ms h m hm => by
        rw [h m hm]
        exact ⟨mv_round, rfl⟩
      -- the first row
      refine ⟨l3, fun a1 n1 => ⟨l3, fun a2 n2 => ⟨l2, fun r1 k1 => ?_⟩⟩⟩
      have e1 : (upd (upd H1 a1 (.tup (mv [1, 2, 0]))) a2 (.tup (mv [1, 2, 0]))) a1 = some (.tup (mv [1, 2, 0])) := same_new n2 _ _ upd_same
      have e2 : (upd (upd H1 a1 (.tup (mv [1, 2, 0]))) a2 (.tup (mv [1, 2, 0]))) a2 = some (.tup (mv [1, 2, 0])) := upd_same
      refine ⟨3, r1, [a1, a2], [[1, 2, 0], [1, 2, 0]], rfl, SqT.of upd_same, tups_lit (.cons (SqT.of (same_new k1 _ _ e1)) (.cons (SqT.of (same_new k1 _ _ e2)) .nil)), row3 _ (by simp), by decide, by decide, by decide, by decide, fun H2 s2 => ?_⟩
      rw [gen_a]
      -- the second row
      refine ⟨l3, fun b1 m1 => ⟨l3, fun b2 m2 => ⟨l3, fun b3 m3 => ⟨l3, fun r2 k2 => ?_⟩⟩⟩⟩
      have f1 : (upd (upd (upd H2 b1 (.tup (mv [1, 2, 0]))) b2 (.tup (mv [1, 2, 0]))) b3 (.tup (mv [1, 2, 0]))) b1 = some (.tup (mv [1, 2, 0])) := same_new m3 _ _ (same_new m2 _ _ upd_same)
      have f2 : (upd (upd (upd H2 b1 (.tup (mv [1, 2, 0]))) b2 (.tup (mv [1, 2, 0]))) b3 (.tup (mv [1, 2, 0]))) b2 = some (.tup (mv [1, 2, 0])) := same_new m3 _ _ upd_same
      have f3 : (upd (upd (upd H2 b1 (.tup (mv [1, 2, 0]))) b2 (.tup (mv [1, 2, 0]))) b3 (.tup (mv [1, 2, 0]))) b3 = some (.tup (mv [1, 2, 0])) := upd_same
      refine ⟨3, r2, [b1, b2, b3], [[1, 2, 0], [1, 2, 0], [1, 2, 0]], rfl, SqT.of upd_same, tups_lit (.cons (SqT.of (same_new k2 _ _ f1)) (.cons (SqT.of (same_new k2 _ _ f2)) (.cons (SqT.of (same_new k2 _ _ f3)) .nil))), row3 _ (by simp), by decide, by decide, by decide, by decide, fun H3 s3 => ?_⟩
      rw [gen_b]
      refine ⟨l2, fun L nL => ?_⟩
      -- the return
      refine ⟨_, rfl, l2, fun M nM => ⟨.list (dI [1, 1]), .list (dI [1, 1]), .lst (SqL.of (same_new nM _ _ upd_same)) (dp_ints [1, 1]), .lst (SqL.of upd_same) (dp_ints [1, 1]), shL _, shL _, true, congrArg V.bl (eqvL _), iteT ?_⟩⟩
      refine ⟨l3, fun c1 u1 => ⟨l1, fun r3 k3 => ?_⟩⟩
      refine ⟨3, r3, [c1], [[1, 0, 2]], rfl, SqT.of upd_same, tups_lit (.cons (SqT.of (same_new k3 _ _ upd_same)) .nil), fun m hm => by rw [List.mem_singleton.mp hm]; exact ⟨mv_sw, rfl⟩, by decide, by decide, by decide, by decide, fun H4 s4 => ?_⟩
      rw [gen_c]
      refine ⟨true, rfl, iteT ?_⟩
      refine ⟨l1, fun d1 v1 => ⟨l1, fun d2 v2 => ⟨l2, fun r4 k4 => ?_⟩⟩⟩
      have g1 : (upd (upd H4 d1 (.tup (mv [0]))) d2 (.tup (mv [0]))) d1 = some (.tup (mv [0])) := same_new v2 _ _ upd_same
      have g2 : (upd (upd H4 d1 (.tup (mv [0]))) d2 (.tup (mv [0]))) d2 = some (.tup (mv [0])) := upd_same
      refine ⟨1, r4, [d1, d2], [[0], [0]], rfl, SqT.of upd_same, tups_lit (.cons (SqT.of (same_new k4 _ _ g1)) (.cons (SqT.of (same_new k4 _ _ g2)) .nil)), fun m hm => ?_, by decide, by decide, by decide, by decide, fun H5 s5 => ?_⟩
      · have : m = [0] := by
          rcases List.mem_cons.mp hm with z | z
          · exact z
          · exact List.mem_singleton.mp z
        rw [this]
        exact ⟨mv_one, rfl⟩
      rw [gen_d]
      exact ⟨rfl, q H5⟩
end
end Gn

/-! Fin: the defs' facts put together, the end. -/
namespace Gn
open PySem PySem.Spec PyProof.Rows L2 Gm
/-- a def of the text stands where its name leads -/
structure Def (K : PySem.W.Frag) (mg : Str → Option Value) (x : Str) (st : Stmt) : Prop where
  ex : ∃ (f : Addr) (fd : FuncData), Fun K x x st f fd ∧ mg x = some (.ref f)
theorem def_mk {K : PySem.W.Frag} {h : Heap} {mg : Str → Option Value} {x : Str} {st : Stmt} (X : K.In h) (G : h.Ns mainGlobals mg) {f : Addr} {oc : Value} {od an : Option Addr} {osl : Array (Option Value)} {kV dc pm cd ct : Value}
    (a : PySem.W.nsIn K mainGlobals x = some (some (.ref f))) (l : K.lookup f = some ⟨oc, od, .func (PySem.W.fnOf x x (defArgs st) (defBody st) (defScope st) .none kV dc pm an cd ct), osl⟩)
    (c : PySem.W.codeIn K cd x = true) (k : PySem.W.keepIn K (.ref f) = true) : Def K mg x st := ⟨_, _, fun_mk l c k, PySem.W.mg_of X G a⟩
theorem int_mk {K : PySem.W.Frag} {h : Heap} {mg : Str → Option Value} {x : Str} {i : Int} {t : Tok} (X : K.In h) (G : h.Ns mainGlobals mg) (a : PySem.W.nsIn K mainGlobals x = some (some (.int i t))) : ∃ t, mg x = some (.int i t) := ⟨t, PySem.W.mg_of X G a⟩
theorem bnd_mk {p : Program} {mg : Str → Option Value} {h : Heap} (x : PySem.W.XL p [("BOUND", .int 1000000000000000000000000000000000000000000000000000000000000)] mg h) : ∃ t, mg "BOUND" = some (.int big t) := by
  obtain ⟨v, e, r⟩ := x.2.val _ (List.mem_singleton.mpr rfl)
  cases r with
  | int i t => exact ⟨t, e⟩
/-- the end of a law's row, with what the top says besides -/
theorem walk_X {l : PySem.W.OpenLaw} {n k : Nat} {q : Program} {loose : List Str} {XP : (Str → Option Value) → Heap → Prop} {YP : World → Heap → Prop} {d : DefRec} {K : Params → PySem.W.Frag} {sp : World → Sp} {x : Str} (hn : l.most = some n) (big : n ≤ sizeLine)
    (nodef : d.params.defaults = []) (room : Room k callerA) (hY : ∀ (w : World) (h : Heap), YP w h → (K w.params).In h)
    (F : ∀ (w : World) (mg : Str → Option Value) (fa : Addr) (h : Heap), (K w.params).In h → h.Ns mainGlobals mg → XP mg h → mg d.name = some (.ref fa) →
      ∃ fd : FuncData, (∀ (s : Shared) (u : Value), BindsTo s fd ⟨[u], []⟩ [(x, u)]) ∧ ∀ base : Heap, (K w.params).In base → base.Ns mainGlobals mg → FnOk l.prog w (K w.params) mg base CX0 k fa fd [x] (sp w))
    (hsp : ∀ (w : World) (H : Hp) (a : Addr) (ns : List Int), ns.length ≤ n → Only H → SqL (K w.params) H a (ns.map V.int) → sp w [.ref a] H (fun v _ => v = .bl true) fun _ _ _ => False) :
    PySem.W.WalkO q loose XP YP l.row.toRowW d [] (fun f vs => PySem.call f vs) := by
  refine Att.attach_call hn nodef ?_
  intro w s0 s1 mg mb fa o pm cd doc a vs ns gr Y h1 h2 h3 nmd obj hints hshort hgens
  have kin := hY w _ Y
  obtain ⟨fd, binds, ok⟩ := F w mg fa _ kin gr.T.g gr.X nmd
  exact law_call kin gr.T.g gr.T.b gr.T.builtins gr.T.nolimit hgens obj hints (Nat.le_trans hshort big) room ok binds (fun H only there => hsp w H a ns hshort only there) fun _ _ _ z => z
section
variable {P : Program} {w : World} {K : PySem.W.Frag} {mg : Str → Option Value} {base : Heap}
theorem biWhole {f : Addr} {fd : FuncData} (F : Fun K "is_whole" "is_whole" sWhole f fd) : Binds K fd ["value"] [] := F.binds (ps := ["value"]) fun _ _ _ _ _ _ us hl => match us, hl with | [_], _ => rfl
theorem biInteger {f : Addr} {fd : FuncData} (F : Fun K "is_integer" "is_integer" sInteger f fd) : Binds K fd ["value"] [] := F.binds (ps := ["value"]) fun _ _ _ _ _ _ us hl => match us, hl with | [_], _ => rfl
theorem biIdle {f : Addr} {fd : FuncData} (F : Fun K "idle_in" "idle_in" sIdle f fd) : Binds K fd ["size"] [] := F.binds (ps := ["size"]) fun _ _ _ _ _ _ us hl => match us, hl with | [_], _ => rfl
theorem biBehind {f : Addr} {fd : FuncData} (F : Fun K "behind_in" "behind_in" sBehind f fd) : Binds K fd ["one", "other"] [] := F.binds (ps := ["one", "other"]) fun _ _ _ _ _ _ us hl => match us, hl with | [_, _], _ => rfl
theorem biCycles {f : Addr} {fd : FuncData} (F : Fun K "cycles_in" "cycles_in" sCycles f fd) : Binds K fd ["move"] [] := F.binds (ps := ["move"]) fun _ _ _ _ _ _ us hl => match us, hl with | [_], _ => rfl
theorem biLeast {f : Addr} {fd : FuncData} (F : Fun K "least_in" "least_in" sLeast f fd) : Binds K fd ["move"] [] := F.binds (ps := ["move"]) fun _ _ _ _ _ _ us hl => match us, hl with | [_], _ => rfl
theorem biMoveIn {f : Addr} {fd : FuncData} (F : Fun K "is_move_in" "is_move_in" sMoveIn f fd) : Binds K fd ["size", "value"] [] := F.binds (ps := ["size", "value"]) fun _ _ _ _ _ _ us hl => match us, hl with | [_, _], _ => rfl
theorem biIsMove {f : Addr} {fd : FuncData} (F : Fun K "is_move" "is_move" sIsMove f fd) : Binds K fd ["value"] [] := F.binds (ps := ["value"]) fun _ _ _ _ _ _ us hl => match us, hl with | [_], _ => rfl
theorem biProd {f : Addr} {fd : FuncData} (F : Fun K "product_of_moves" "product_of_moves" sProd f fd) : Binds K fd ["size", "some"] [] := F.binds (ps := ["size", "some"]) fun _ _ _ _ _ _ us hl => match us, hl with | [_, _], _ => rfl
theorem biJoin {f : Addr} {fd : FuncData} (F : Fun K "does_join_all" "does_join_all" sJoin f fd) : Binds K fd ["size", "some"] [] := F.binds (ps := ["size", "some"]) fun _ _ _ _ _ _ us hl => match us, hl with | [_, _], _ => rfl
theorem biGenIn {f : Addr} {fd : FuncData} (F : Fun K "genus_in" "genus_in" sGenIn f fd) : Binds K fd ["size", "some"] [] := F.binds (ps := ["size", "some"]) fun _ _ _ _ _ _ us hl => match us, hl with | [_, _], _ => rfl
theorem biGenus {f : Addr} {fd : FuncData} (F : Fun K "genus_of_row" "genus_of_row" sGenus f fd) : Binds K fd ["moves"] [] := F.binds (ps := ["moves"]) fun _ _ _ _ _ _ us hl => match us, hl with | [_], _ => rfl
theorem biDice {f : Addr} {fd : FuncData} (F : Fun K "_law_dice" "_law_dice" sDice f fd) : Binds K fd ["_law_script", "_law_spot"] [] := F.binds (ps := ["_law_script", "_law_spot"]) fun _ _ _ _ _ _ us hl => match us, hl with | [_, _], _ => rfl
theorem biRoll {f : Addr} {fd : FuncData} (F : Fun K "_law_roll" "_law_roll" sRoll f fd) : Binds K fd ["_law_dice_here", "_law_total"] [] := F.binds (ps := ["_law_dice_here", "_law_total"]) fun _ _ _ _ _ _ us hl => match us, hl with | [_, _], _ => rfl
theorem biShuf {f : Addr} {fd : FuncData} (F : Fun K "_law_shuffled" "_law_shuffled" sShuf f fd) : Binds K fd ["_law_dice_here", "_law_items"] [] := F.binds (ps := ["_law_dice_here", "_law_items"]) fun _ _ _ _ _ _ us hl => match us, hl with | [_, _], _ => rfl
theorem biLotOf {f : Addr} {fd : FuncData} (F : Fun K "_law_lot_of" "_law_lot_of" sLotOf f fd) : Binds K fd ["_law_members"] [] := F.binds (ps := ["_law_members"]) fun _ _ _ _ _ _ us hl => match us, hl with | [_], _ => rfl
theorem biLBehind {f : Addr} {fd : FuncData} (F : Fun K "_law_behind" "_law_behind" sLBehind f fd) : Binds K fd ["_law_one", "_law_other"] [] := F.binds (ps := ["_law_one", "_law_other"]) fun _ _ _ _ _ _ us hl => match us, hl with | [_, _], _ => rfl
theorem biUndone {f : Addr} {fd : FuncData} (F : Fun K "_law_undone" "_law_undone" sUndone f fd) : Binds K fd ["_law_move"] [] := F.binds (ps := ["_law_move"]) fun _ _ _ _ _ _ us hl => match us, hl with | [_], _ => rfl
theorem biKind {f : Addr} {fd : FuncData} (F : Fun K "_law_kind" "_law_kind" sKind f fd) : Binds K fd ["_law_move"] [] := F.binds (ps := ["_law_move"]) fun _ _ _ _ _ _ us hl => match us, hl with | [_], _ => rfl
theorem biDrawn {f : Addr} {fd : FuncData} (F : Fun K "_law_move_drawn" "_law_move_drawn" sDrawn f fd) : Binds K fd ["_law_dice_here", "_law_size"] [] := F.binds (ps := ["_law_dice_here", "_law_size"]) fun _ _ _ _ _ _ us hl => match us, hl with | [_, _], _ => rfl
theorem biLJoin {f : Addr} {fd : FuncData} (F : Fun K "_law_joined" "_law_joined" sLJoin f fd) : Binds K fd ["_law_size", "_law_moves"] [] := F.binds (ps := ["_law_size", "_law_moves"]) fun _ _ _ _ _ _ us hl => match us, hl with | [_, _], _ => rfl
theorem biLProd {f : Addr} {fd : FuncData} (F : Fun K "_law_le_product" "_law_le_product" sLProd f fd) : Binds K fd ["_law_size", "_law_row"] [] := F.binds (ps := ["_law_size", "_law_row"]) fun _ _ _ _ _ _ us hl => match us, hl with | [_, _], _ => rfl
theorem biLLeast {f : Addr} {fd : FuncData} (F : Fun K "_law_le_least" "_law_le_least" sLLeast f fd) : Binds K fd ["_law_move"] [] := F.binds (ps := ["_law_move"]) fun _ _ _ _ _ _ us hl => match us, hl with | [_], _ => rfl
theorem biLGenus {f : Addr} {fd : FuncData} (F : Fun K "_law_le_genus" "_law_le_genus" sLGenus f fd) : Binds K fd ["_law_size", "_law_row"] [] := F.binds (ps := ["_law_size", "_law_row"]) fun _ _ _ _ _ _ us hl => match us, hl with | [_, _], _ => rfl
theorem biCarried {f : Addr} {fd : FuncData} (F : Fun K "_law_le_carried" "_law_le_carried" sCarried f fd) : Binds K fd ["_law_move", "_law_by"] [] := F.binds (ps := ["_law_move", "_law_by"]) fun _ _ _ _ _ _ us hl => match us, hl with | [_, _], _ => rfl
theorem biParity {f : Addr} {fd : FuncData} (F : Fun K "_law_parity_right" "_law_parity_right" sParity f fd) : Binds K fd ["_law_size", "_law_row"] [] := F.binds (ps := ["_law_size", "_law_row"]) fun _ _ _ _ _ _ us hl => match us, hl with | [_, _], _ => rfl
theorem biRight {f : Addr} {fd : FuncData} (F : Fun K "_law_right" "_law_right" sRight f fd) : Binds K fd ["_law_dice_here"] [] := F.binds (ps := ["_law_dice_here"]) fun _ _ _ _ _ _ us hl => match us, hl with | [_], _ => rfl
theorem biLaw {f : Addr} {fd : FuncData} (F : Fun K "law" "law" sLaw f fd) : Binds K fd ["_law_script"] [] := F.binds (ps := ["_law_script"]) fun _ _ _ _ _ _ us hl => match us, hl with | [_], _ => rfl
theorem fin {fa : Addr} (T : Blt mg) (hB : ∃ t, mg "BOUND" = some (.int big t)) (hP : ∃ t, mg "MOST_PLACES" = some (.int 24 t)) (hF : ∃ t, mg "MAX_FACTORS" = some (.int 8 t))
    (DWhole : Def K mg "is_whole" sWhole)
    (DInteger : Def K mg "is_integer" sInteger)
    (DIdle : Def K mg "idle_in" sIdle)
    (DBehind : Def K mg "behind_in" sBehind)
    (DCycles : Def K mg "cycles_in" sCycles)
    (DLeast : Def K mg "least_in" sLeast)
    (DMoveIn : Def K mg "is_move_in" sMoveIn)
    (DIsMove : Def K mg "is_move" sIsMove)
    (DProd : Def K mg "product_of_moves" sProd)
    (DJoin : Def K mg "does_join_all" sJoin)
    (DGenIn : Def K mg "genus_in" sGenIn)
    (DGenus : Def K mg "genus_of_row" sGenus)
    (DDice : Def K mg "_law_dice" sDice)
    (DRoll : Def K mg "_law_roll" sRoll)
    (DShuf : Def K mg "_law_shuffled" sShuf)
    (DLotOf : Def K mg "_law_lot_of" sLotOf)
    (DLBehind : Def K mg "_law_behind" sLBehind)
    (DUndone : Def K mg "_law_undone" sUndone)
    (DKind : Def K mg "_law_kind" sKind)
    (DDrawn : Def K mg "_law_move_drawn" sDrawn)
    (DLJoin : Def K mg "_law_joined" sLJoin)
    (DLProd : Def K mg "_law_le_product" sLProd)
    (DLLeast : Def K mg "_law_le_least" sLLeast)
    (DLGenus : Def K mg "_law_le_genus" sLGenus)
    (DCarried : Def K mg "_law_le_carried" sCarried)
    (DParity : Def K mg "_law_parity_right" sParity)
    (DRight : Def K mg "_law_right" sRight)
    (DLaw : Def K mg "law" sLaw)
    (hfa : mg "law" = some (.ref fa)) : ∃ fd : FuncData, (∀ (s : Shared) (v : Value), BindsTo s fd ⟨[v], []⟩ [("_law_script", v)]) ∧ ∀ base : Heap, K.In base → base.Ns mainGlobals mg → FnOk P w K mg base CX0 7 fa fd ["_law_script"] (spLaw K) := by
  obtain ⟨tB, gB⟩ := hB
  obtain ⟨tP, gP⟩ := hP
  obtain ⟨tF, gF⟩ := hF
  obtain ⟨fWhole, dWhole, FWhole, gWhole⟩ := DWhole.ex
  obtain ⟨fInteger, dInteger, FInteger, gInteger⟩ := DInteger.ex
  obtain ⟨fIdle, dIdle, FIdle, gIdle⟩ := DIdle.ex
  obtain ⟨fBehind, dBehind, FBehind, gBehind⟩ := DBehind.ex
  obtain ⟨fCycles, dCycles, FCycles, gCycles⟩ := DCycles.ex
  obtain ⟨fLeast, dLeast, FLeast, gLeast⟩ := DLeast.ex
  obtain ⟨fMoveIn, dMoveIn, FMoveIn, gMoveIn⟩ := DMoveIn.ex
  obtain ⟨fIsMove, dIsMove, FIsMove, gIsMove⟩ := DIsMove.ex
  obtain ⟨fProd, dProd, FProd, gProd⟩ := DProd.ex
  obtain ⟨fJoin, dJoin, FJoin, gJoin⟩ := DJoin.ex
  obtain ⟨fGenIn, dGenIn, FGenIn, gGenIn⟩ := DGenIn.ex
  obtain ⟨fGenus, dGenus, FGenus, gGenus⟩ := DGenus.ex
  obtain ⟨fDice, dDice, FDice, gDice⟩ := DDice.ex
  obtain ⟨fRoll, dRoll, FRoll, gRoll⟩ := DRoll.ex
  obtain ⟨fShuf, dShuf, FShuf, gShuf⟩ := DShuf.ex
  obtain ⟨fLotOf, dLotOf, FLotOf, gLotOf⟩ := DLotOf.ex
  obtain ⟨fLBehind, dLBehind, FLBehind, gLBehind⟩ := DLBehind.ex
  obtain ⟨fUndone, dUndone, FUndone, gUndone⟩ := DUndone.ex
  obtain ⟨fKind, dKind, FKind, gKind⟩ := DKind.ex
  obtain ⟨fDrawn, dDrawn, FDrawn, gDrawn⟩ := DDrawn.ex
  obtain ⟨fLJoin, dLJoin, FLJoin, gLJoin⟩ := DLJoin.ex
  obtain ⟨fLProd, dLProd, FLProd, gLProd⟩ := DLProd.ex
  obtain ⟨fLLeast, dLLeast, FLLeast, gLLeast⟩ := DLLeast.ex
  obtain ⟨fLGenus, dLGenus, FLGenus, gLGenus⟩ := DLGenus.ex
  obtain ⟨fCarried, dCarried, FCarried, gCarried⟩ := DCarried.ex
  obtain ⟨fParity, dParity, FParity, gParity⟩ := DParity.ex
  obtain ⟨fRight, dRight, FRight, gRight⟩ := DRight.ex
  obtain ⟨fLaw, dLaw, FLaw, gLaw⟩ := DLaw.ex
  have e := hfa.symm.trans gLaw
  cases e
  refine ⟨dLaw, ?_, fun base _ _ => ?_⟩
  · obtain ⟨oc, od, kV, doc, pm, an, cdv, ct, osl, ed, _⟩ := FLaw.ex
    subst ed
    exact fun s v => .of_eq rfl
  have oCycles : FnOk P w K mg base CX0 1 fCycles dCycles ["move"] (spCycles K) := okCycles FCycles T.len T.range T.tuple
  have oLeast := okLeast (P := P) (w := w) (base := base) FLeast FCycles (biCycles FCycles) gCycles T.len T.range T.tuple
  have oProd := okProd (P := P) (w := w) (base := base) FProd FIdle FBehind (biIdle FIdle) (biBehind FBehind) gIdle gBehind T.range T.tuple
  have oJoin := okJoin (P := P) (w := w) (base := base) FJoin FCycles (biCycles FCycles) gCycles T.len T.range T.tuple T.list T.min T.all
  have oGenIn := okGenIn FGenIn T oJoin gJoin FJoin.kp (biJoin FJoin) oCycles gCycles FCycles.kp (biCycles FCycles) oProd gProd FProd.kp (biProd FProd) oLeast gLeast FLeast.kp (biLeast FLeast)
  have oIsMove := okIsMove (P := P) (w := w) (base := base) FIsMove FMoveIn FInteger FWhole (biMoveIn FMoveIn) (biInteger FInteger) (biWhole FWhole) gMoveIn gInteger gWhole gB gP T.isinstance T.int T.bool T.tuple T.len T.all T.sorted T.list T.range
  have oGenus := okGenus FGenus T gF oIsMove gIsMove FIsMove.kp (biIsMove FIsMove) oGenIn gGenIn FGenIn.kp (biGenIn FGenIn)
  have cG : Calls P w K mg base 5 "genus_of_row" ["moves"] (spGenus K) := ⟨_, _, oGenus, gGenus, FGenus.kp, biGenus FGenus⟩
  have oDice : FnOk P w K mg base CX0 1 fDice dDice ["_law_script", "_law_spot"] (spDice K) := okDice FDice T
  have oRoll : FnOk P w K mg base CX0 1 fRoll dRoll ["_law_dice_here", "_law_total"] spRoll := okRoll FRoll T
  have oShuf := okShuf FShuf T oRoll gRoll FRoll.kp (biRoll FRoll)
  have oDrawn := okDrawn FDrawn T oShuf gShuf FShuf.kp (biShuf FShuf)
  have oLotOf : FnOk P w K mg base CX0 1 fLotOf dLotOf ["_law_members"] (spLotOf K) := okLotOf FLotOf T
  have oLBehind : FnOk P w K mg base CX0 1 fLBehind dLBehind ["_law_one", "_law_other"] (spLBehind K) := okLBehind FLBehind T
  have oUndone : FnOk P w K mg base CX0 1 fUndone dUndone ["_law_move"] (spUndone K) := okUndone FUndone T
  have oKind := okKind FKind T oLotOf gLotOf FLotOf.kp (biLotOf FLotOf)
  have oLJoin : FnOk P w K mg base CX0 1 fLJoin dLJoin ["_law_size", "_law_moves"] (spLJoin K) := okLJoin FLJoin T
  have oLProd := okLProd FLProd T oLBehind gLBehind FLBehind.kp (biLBehind FLBehind)
  have oLLeast := okLLeast FLLeast T oKind gKind FKind.kp (biKind FKind)
  have oLGenus := okLGenus FLGenus T oLJoin gLJoin FLJoin.kp (biLJoin FLJoin) oKind gKind FKind.kp (biKind FKind) oLProd gLProd FLProd.kp (biLProd FLProd) oLLeast gLLeast FLLeast.kp (biLLeast FLLeast)
  have oCarried : FnOk P w K mg base CX0 1 fCarried dCarried ["_law_move", "_law_by"] (spCarried K) := okCarried FCarried T
  have oParity := okParity FParity T oKind gKind FKind.kp (biKind FKind) oLProd gLProd FLProd.kp (biLProd FLProd) oLLeast gLLeast FLLeast.kp (biLLeast FLLeast)
  have oRight := okRight FRight T ⟨_, _, oRoll, gRoll, FRoll.kp, biRoll FRoll⟩ ⟨_, _, oDrawn, gDrawn, FDrawn.kp, biDrawn FDrawn⟩ ⟨_, _, oUndone, gUndone, FUndone.kp, biUndone FUndone⟩ ⟨_, _, oLGenus, gLGenus, FLGenus.kp, biLGenus FLGenus⟩ cG
    ⟨_, _, oParity, gParity, FParity.kp, biParity FParity⟩ ⟨_, _, oLProd, gLProd, FLProd.kp, biLProd FLProd⟩ ⟨_, _, oCarried, gCarried, FCarried.kp, biCarried FCarried⟩
  exact okLaw FLaw T ⟨_, _, oDice, gDice, FDice.kp, biDice FDice⟩ ⟨_, _, oRight, gRight, FRight.kp, biRight FRight⟩ cG
end
end Gn
open PySem PySem.W PyProof.Rows
set_option maxHeartbeats 0 in
theorem PySem.Challenge.cw_swapsheets_k76_whole_genus_of_rows_of_mo_holds : PySem.Challenge.rw_swapsheets_k76_whole_genus_of_rows_of_mo.Holds := by
  w_on; o_law; k_head; (case hw => w_witness2)
  k_fill
  refine Gn.walk_X (l := PySem.Challenge.rw_swapsheets_k76_whole_genus_of_rows_of_mo) (n := 63) (k := 7) (x := "_law_script") (sp := fun w => Gn.spLaw _) rfl (by decide) rfl ⟨rfl, by decide, by decide⟩ (fun w h Y => PySem.W.kIn_of Y) ?F (fun _ _ a ns hl _ hS => ⟨a, ns, rfl, hS, hl, fun _ => rfl⟩)
  case F =>
    intro w mg fa h KX G XP hmg
    refine' Gn.fin ⟨PySem.W.mg_none_of KX G ?z0, PySem.W.mg_none_of KX G ?z1, PySem.W.mg_none_of KX G ?z2, PySem.W.mg_none_of KX G ?z3, PySem.W.mg_none_of KX G ?z4, PySem.W.mg_none_of KX G ?z5, PySem.W.mg_none_of KX G ?z6, PySem.W.mg_none_of KX G ?z7, PySem.W.mg_none_of KX G ?z8, PySem.W.mg_none_of KX G ?z9, PySem.W.mg_none_of KX G ?z10, PySem.W.mg_none_of KX G ?z11, PySem.W.mg_none_of KX G ?z12, PySem.W.mg_none_of KX G ?z13, PySem.W.mg_none_of KX G ?z14⟩ (Gn.bnd_mk XP) (Gn.int_mk KX G ?u1) (Gn.int_mk KX G ?u2) (Gn.def_mk KX G ?a0 ?l0 ?c0 ?k0) (Gn.def_mk KX G ?a1 ?l1 ?c1 ?k1) (Gn.def_mk KX G ?a2 ?l2 ?c2 ?k2) (Gn.def_mk KX G ?a3 ?l3 ?c3 ?k3) (Gn.def_mk KX G ?a4 ?l4 ?c4 ?k4) (Gn.def_mk KX G ?a5 ?l5 ?c5 ?k5) (Gn.def_mk KX G ?a6 ?l6 ?c6 ?k6) (Gn.def_mk KX G ?a7 ?l7 ?c7 ?k7) (Gn.def_mk KX G ?a8 ?l8 ?c8 ?k8) (Gn.def_mk KX G ?a9 ?l9 ?c9 ?k9) (Gn.def_mk KX G ?a10 ?l10 ?c10 ?k10) (Gn.def_mk KX G ?a11 ?l11 ?c11 ?k11) (Gn.def_mk KX G ?a12 ?l12 ?c12 ?k12) (Gn.def_mk KX G ?a13 ?l13 ?c13 ?k13) (Gn.def_mk KX G ?a14 ?l14 ?c14 ?k14) (Gn.def_mk KX G ?a15 ?l15 ?c15 ?k15) (Gn.def_mk KX G ?a16 ?l16 ?c16 ?k16) (Gn.def_mk KX G ?a17 ?l17 ?c17 ?k17) (Gn.def_mk KX G ?a18 ?l18 ?c18 ?k18) (Gn.def_mk KX G ?a19 ?l19 ?c19 ?k19) (Gn.def_mk KX G ?a20 ?l20 ?c20 ?k20) (Gn.def_mk KX G ?a21 ?l21 ?c21 ?k21) (Gn.def_mk KX G ?a22 ?l22 ?c22 ?k22) (Gn.def_mk KX G ?a23 ?l23 ?c23 ?k23) (Gn.def_mk KX G ?a24 ?l24 ?c24 ?k24) (Gn.def_mk KX G ?a25 ?l25 ?c25 ?k25) (Gn.def_mk KX G ?a26 ?l26 ?c26 ?k26) (Gn.def_mk KX G ?a27 ?l27 ?c27 ?k27) hmg
    (case u1 => k_is); (case u2 => k_is)
    (case z0 => k_is); (case z1 => k_is); (case z2 => k_is); (case z3 => k_is); (case z4 => k_is); (case z5 => k_is); (case z6 => k_is); (case z7 => k_is); (case z8 => k_is); (case z9 => k_is); (case z10 => k_is); (case z11 => k_is); (case z12 => k_is); (case z13 => k_is); (case z14 => k_is)
    (case a0 => k_is); (case l0 => k_is); (case c0 => k_is); (case k0 => k_is)
    (case a1 => k_is); (case l1 => k_is); (case c1 => k_is); (case k1 => k_is)
    (case a2 => k_is); (case l2 => k_is); (case c2 => k_is); (case k2 => k_is)
    (case a3 => k_is); (case l3 => k_is); (case c3 => k_is); (case k3 => k_is)
    (case a4 => k_is); (case l4 => k_is); (case c4 => k_is); (case k4 => k_is)
    (case a5 => k_is); (case l5 => k_is); (case c5 => k_is); (case k5 => k_is)
    (case a6 => k_is); (case l6 => k_is); (case c6 => k_is); (case k6 => k_is)
    (case a7 => k_is); (case l7 => k_is); (case c7 => k_is); (case k7 => k_is)
    (case a8 => k_is); (case l8 => k_is); (case c8 => k_is); (case k8 => k_is)
    (case a9 => k_is); (case l9 => k_is); (case c9 => k_is); (case k9 => k_is)
    (case a10 => k_is); (case l10 => k_is); (case c10 => k_is); (case k10 => k_is)
    (case a11 => k_is); (case l11 => k_is); (case c11 => k_is); (case k11 => k_is)
    (case a12 => k_is); (case l12 => k_is); (case c12 => k_is); (case k12 => k_is)
    (case a13 => k_is); (case l13 => k_is); (case c13 => k_is); (case k13 => k_is)
    (case a14 => k_is); (case l14 => k_is); (case c14 => k_is); (case k14 => k_is)
    (case a15 => k_is); (case l15 => k_is); (case c15 => k_is); (case k15 => k_is)
    (case a16 => k_is); (case l16 => k_is); (case c16 => k_is); (case k16 => k_is)
    (case a17 => k_is); (case l17 => k_is); (case c17 => k_is); (case k17 => k_is)
    (case a18 => k_is); (case l18 => k_is); (case c18 => k_is); (case k18 => k_is)
    (case a19 => k_is); (case l19 => k_is); (case c19 => k_is); (case k19 => k_is)
    (case a20 => k_is); (case l20 => k_is); (case c20 => k_is); (case k20 => k_is)
    (case a21 => k_is); (case l21 => k_is); (case c21 => k_is); (case k21 => k_is)
    (case a22 => k_is); (case l22 => k_is); (case c22 => k_is); (case k22 => k_is)
    (case a23 => k_is); (case l23 => k_is); (case c23 => k_is); (case k23 => k_is)
    (case a24 => k_is); (case l24 => k_is); (case c24 => k_is); (case k24 => k_is)
    (case a25 => k_is); (case l25 => k_is); (case c25 => k_is); (case k25 => k_is)
    (case a26 => k_is); (case l26 => k_is); (case c26 => k_is); (case k26 => k_is)
    (case a27 => k_is); (case l27 => k_is); (case c27 => k_is); (case k27 => k_is)
