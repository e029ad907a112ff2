import PyProof.Rows.All
import Wide.All
import OpenK.AllK
import Wide.FinOn
import HandS.ForMost
import HandS.Defaults
import HandS.HeadHook2
import PySem.Challenge.RW_propfall_k41_whole_all_further_weights_b
import HandS.Head2
import HandS.HeadEnd
import HandS.Wide
import HandS.Flow
import HandS.IsInst
import HandS.Conv
import HandS.Walk
import HandS.TupAny
import HandS.Style
import HandS.Zip
import HandS.Deep
import HandS.NoneIn
import KE.KDictZip
import KE.GoesEnum
import HandS.ListItems
import KE.GoesMore
import KE.GoesNew
import HandS.TryOnly
import HandS.SetFor
set_option Elab.async false
set_option linter.all false
set_option maxRecDepth 100000
set_option maxHeartbeats 0
section
/-! The hat function: how much of a weight at a place lies on a prop between two rests. -/
namespace Pf

theorem rdiv_le {a b c : Rat} (h : 0 < b) : a / b ≤ c ↔ a ≤ c * b := by
  have e := @Rat.lt_div_iff c a b h
  constructor
  · intro q
    exact Rat.not_lt.mp fun z => absurd (e.mpr z) (Rat.not_lt.mpr q)
  · intro q
    exact Rat.not_lt.mp fun z => absurd (e.mp z) (Rat.not_lt.mpr q)
theorem le_rdiv {a b c : Rat} (h : 0 < b) : c ≤ a / b ↔ c * b ≤ a := by
  have e := @Rat.div_lt_iff a b c h
  constructor
  · intro q
    exact Rat.not_lt.mp fun z => absurd (e.mpr z) (Rat.not_lt.mpr q)
  · intro q
    exact Rat.not_lt.mp fun z => absurd (e.mp z) (Rat.not_lt.mpr q)
theorem rdiv_nonneg {a b : Rat} (h : 0 < b) (ha : 0 ≤ a) : 0 ≤ a / b := (le_rdiv h).mpr (by rw [Rat.zero_mul]; exact ha)
theorem cast_lt {a b : Int} (h : a < b) : (a : Rat) < (b : Rat) := Rat.intCast_lt_intCast.mpr h
theorem cast_le {a b : Int} (h : a ≤ b) : (a : Rat) ≤ (b : Rat) := Rat.intCast_le_intCast.mpr h
theorem cast_sub_pos {a b : Int} (h : a < b) : (0 : Rat) < (b : Rat) - (a : Rat) := by
  have := cast_lt h
  grind

/-- how much of a weight 1 at x lies on a prop at p between rests at a and b -/
def sh (a p b : Int) (x : Rat) : Rat :=
  if (a : Rat) < x ∧ x ≤ (p : Rat) then (x - a) / ((p : Rat) - a) else if (p : Rat) < x ∧ x < (b : Rat) then ((b : Rat) - x) / ((b : Rat) - p) else 0

theorem sh_nonneg {a p b : Int} {x : Rat} (h1 : a < p) (h2 : p < b) : 0 ≤ sh a p b x := by
  have p1 := cast_sub_pos h1
  have p2 := cast_sub_pos h2
  unfold sh
  split
  · exact rdiv_nonneg p1 (by grind)
  · split
    · exact rdiv_nonneg p2 (by grind)
    · exact Rat.le_refl
theorem sh_le_one {a p b : Int} {x : Rat} (h1 : a < p) (h2 : p < b) : sh a p b x ≤ 1 := by
  have p1 := cast_sub_pos h1
  have p2 := cast_sub_pos h2
  unfold sh
  split
  · rw [rdiv_le p1]; grind
  · split
    · rw [rdiv_le p2]; grind
    · decide
/-- wider apart, more lies on it -/
theorem sh_mono {a a' p b b' : Int} {x : Rat} (ha : a' ≤ a) (h1 : a < p) (h2 : p < b) (hb : b ≤ b') : sh a p b x ≤ sh a' p b' x := by
  have p1 := cast_sub_pos h1
  have p2 := cast_sub_pos h2
  have p3 := cast_sub_pos (show a' < p by omega)
  have p4 := cast_sub_pos (show p < b' by omega)
  have ca := cast_le ha
  have cb := cast_le hb
  have n := sh_nonneg (a := a') (p := p) (b := b') (x := x) (by omega) (by omega)
  by_cases c1 : (a : Rat) < x ∧ x ≤ (p : Rat)
  · have e1 : sh a p b x = (x - a) / ((p : Rat) - a) := by unfold sh; rw [if_pos c1]
    have e2 : sh a' p b' x = (x - a') / ((p : Rat) - a') := by unfold sh; rw [if_pos ⟨by grind, c1.2⟩]
    rw [e1, e2, rdiv_le p1]
    -- (x - a) ≤ (x - a') / (p - a') * (p - a)
    have key : (x - a) * ((p : Rat) - a') ≤ (x - a') * ((p : Rat) - a) := by
      have : 0 ≤ ((a : Rat) - a') * ((p : Rat) - x) := Rat.mul_nonneg (by grind) (by grind)
      grind
    have e3 : (x - a') / ((p : Rat) - a') * ((p : Rat) - a) = ((x - a') * ((p : Rat) - a)) / ((p : Rat) - a') := by
      rw [Rat.div_def, Rat.div_def]; grind
    rw [e3, le_rdiv p3]
    exact key
  · by_cases c2 : (p : Rat) < x ∧ x < (b : Rat)
    · have e1 : sh a p b x = ((b : Rat) - x) / ((b : Rat) - p) := by unfold sh; rw [if_neg c1, if_pos c2]
      have e2 : sh a' p b' x = ((b' : Rat) - x) / ((b' : Rat) - p) := by
        unfold sh
        rw [if_neg (by grind), if_pos ⟨c2.1, by grind⟩]
      rw [e1, e2, rdiv_le p2]
      have key : ((b : Rat) - x) * ((b' : Rat) - p) ≤ ((b' : Rat) - x) * ((b : Rat) - p) := by
        have : 0 ≤ ((b' : Rat) - b) * (x - (p : Rat)) := Rat.mul_nonneg (by grind) (by grind)
        grind
      have e3 : ((b' : Rat) - x) / ((b' : Rat) - p) * ((b : Rat) - p) = (((b' : Rat) - x) * ((b : Rat) - p)) / ((b' : Rat) - p) := by
        rw [Rat.div_def, Rat.div_def]; grind
      rw [e3, le_rdiv p4]
      exact key
    · have e1 : sh a p b x = 0 := by unfold sh; rw [if_neg c1, if_neg c2]
      rw [e1]
      exact n

/-! what weights lay -/
def ldFrom (acc : Rat) (hv : List (Rat × Rat)) (a p b : Int) : Rat := hv.foldl (fun f q => f + q.2 * sh a p b q.1) acc
def ld (hv : List (Rat × Rat)) (a p b : Int) : Rat := ldFrom 0 hv a p b
theorem ldFrom_mono {hv : List (Rat × Rat)} {a a' p b b' : Int} (hw : ∀ q ∈ hv, 0 < q.2) (ha : a' ≤ a) (h1 : a < p) (h2 : p < b) (hb : b ≤ b') :
    ∀ {x y : Rat}, x ≤ y → ldFrom x hv a p b ≤ ldFrom y hv a' p b' := by
  induction hv with
  | nil => intro x y h; exact h
  | cons q t ih =>
    intro x y h
    show ldFrom (x + q.2 * sh a p b q.1) t a p b ≤ ldFrom (y + q.2 * sh a' p b' q.1) t a' p b'
    refine ih (fun z hz => hw z (List.mem_cons_of_mem _ hz)) ?_
    have m := Rat.mul_le_mul_of_nonneg_left (sh_mono (x := q.1) ha h1 h2 hb) (Rat.le_of_lt (hw q List.mem_cons_self))
    grind
theorem ld_mono {hv : List (Rat × Rat)} {a a' p b b' : Int} (hw : ∀ q ∈ hv, 0 < q.2) (ha : a' ≤ a) (h1 : a < p) (h2 : p < b) (hb : b ≤ b') : ld hv a p b ≤ ld hv a' p b' := ldFrom_mono hw ha h1 h2 hb Rat.le_refl
end Pf
end

section
/-! Lots, who fails in them, settling; the union of all lots that stand. -/
namespace Pf

/-- each of a lot between the rests on both sides -/
def sides (l : Int) : List Int → Int → List (Int × Int × Int)
  | [], _ => []
  | p :: t, r => (l, p, t.headD r) :: sides p t r

/-- rising, between l and r -/
def Rise (l r : Int) (s : List Int) : Prop := s.Pairwise (· < ·) ∧ ∀ k ∈ s, l < k ∧ k < r

theorem Rise.tail {l r p : Int} {t : List Int} (h : Rise l r (p :: t)) : Rise p r t :=
  ⟨(List.pairwise_cons.mp h.1).2, fun k hk => ⟨(List.pairwise_cons.mp h.1).1 k hk, (h.2 k (List.mem_cons_of_mem _ hk)).2⟩⟩
theorem Rise.nil {l r : Int} : Rise l r [] := ⟨List.Pairwise.nil, fun _ h => nomatch h⟩
theorem Rise.filter {l r : Int} {s : List Int} (f : Int → Bool) (h : Rise l r s) : Rise l r (s.filter f) :=
  ⟨h.1.filter f, fun k hk => h.2 k (List.mem_filter.mp hk).1⟩

/-- what stands on both sides: the nearest -/
theorem sides_spec {r : Int} : ∀ {s : List Int} {l a p b : Int}, Rise l r s → (a, p, b) ∈ sides l s r →
    p ∈ s ∧ l ≤ a ∧ (a = l ∨ a ∈ s) ∧ a < p ∧ (∀ k ∈ s, k < p → k ≤ a) ∧ (b = r ∨ b ∈ s) ∧ p < b ∧ b ≤ r ∧ ∀ k ∈ s, p < k → b ≤ k
  | [], _, _, _, _, _, h => nomatch h
  | q :: t, l, a, p, b, hr, h => by
    have hq := hr.2 q List.mem_cons_self
    have ht := hr.tail
    rcases List.mem_cons.mp h with e | h
    · injection e with e1 e2
      injection e2 with e2 e3
      subst e1 e2
      refine ⟨List.mem_cons_self, Int.le_refl _, .inl rfl, hq.1, fun k hk hlt => ?_, ?_, ?_, ?_, fun k hk hlt => ?_⟩
      · rcases List.mem_cons.mp hk with e | hk
        · omega
        · have := (ht.2 k hk).1; omega
      · cases t with
        | nil => exact .inl e3
        | cons z u => exact .inr (by rw [e3]; simp)
      · cases t with
        | nil => rw [e3]; exact hq.2
        | cons z u => rw [e3]; exact (ht.2 z List.mem_cons_self).1
      · cases t with
        | nil => rw [e3]; exact Int.le_refl _
        | cons z u => rw [e3]; exact Int.le_of_lt (ht.2 z List.mem_cons_self).2
      · rcases List.mem_cons.mp hk with e | hk
        · omega
        · cases t with
          | nil => nomatch hk
          | cons z u =>
            rw [e3]
            show z ≤ k
            rcases List.mem_cons.mp hk with e | hk
            · omega
            · exact Int.le_of_lt ((List.pairwise_cons.mp ht.1).1 k hk)
    · obtain ⟨h1, h2, h3, h4, h5, h6, h7, h8, h9⟩ := sides_spec ht h
      refine ⟨List.mem_cons_of_mem _ h1, by omega, ?_, h4, fun k hk hlt => ?_, ?_, h7, h8, fun k hk hlt => ?_⟩
      · rcases h3 with e | h3
        · exact .inr (by rw [e]; exact List.mem_cons_self)
        · exact .inr (List.mem_cons_of_mem _ h3)
      · rcases List.mem_cons.mp hk with e | hk
        · omega
        · exact h5 k hk hlt
      · rcases h6 with e | h6
        · exact .inl e
        · exact .inr (List.mem_cons_of_mem _ h6)
      · rcases List.mem_cons.mp hk with e | hk
        · have := (ht.2 p h1).1; omega
        · exact h9 k hk hlt
theorem sides_of {r : Int} : ∀ {s : List Int} {l p : Int}, p ∈ s → ∃ a b, (a, p, b) ∈ sides l s r
  | q :: t, l, p, h => by
    rcases List.mem_cons.mp h with e | h
    · subst e
      exact ⟨l, t.headD r, List.mem_cons_self⟩
    · obtain ⟨a, b, q⟩ := sides_of (r := r) (l := q) h
      exact ⟨a, b, List.mem_cons_of_mem _ q⟩
theorem sides_mem {r : Int} : ∀ {s : List Int} {l a p b : Int}, (a, p, b) ∈ sides l s r → p ∈ s
  | q :: t, l, a, p, b, h => by
    rcases List.mem_cons.mp h with e | h
    · injection e with _ e
      injection e with e _
      rw [e]; exact List.mem_cons_self
    · exact List.mem_cons_of_mem _ (sides_mem h)
theorem sides_length {r : Int} : ∀ {s : List Int} {l : Int}, (sides l s r).length = s.length
  | [], _ => rfl
  | _ :: t, _ => by show (sides _ t r).length + 1 = t.length + 1; rw [sides_length]
theorem sides_ps {r : Int} : ∀ {s : List Int} {l : Int}, (sides l s r).map (·.2.1) = s
  | [], _ => rfl
  | q :: t, l => by show q :: (sides q t r).map (·.2.1) = q :: t; rw [sides_ps]

abbrev Fail := Int → Int → Int → Bool
/-- who fails in a lot, from the left -/
def bad (F : Fail) (n : Int) (s : List Int) : List Int := ((sides (-1) s n).filter fun t => F t.1 t.2.1 t.2.2).map (·.2.1)
theorem mem_bad {F : Fail} {n p : Int} {s : List Int} : p ∈ bad F n s ↔ ∃ a b, (a, p, b) ∈ sides (-1) s n ∧ F a p b = true := by
  unfold bad
  rw [List.mem_map]
  constructor
  · rintro ⟨⟨a, q, b⟩, h, e⟩
    obtain ⟨h1, h2⟩ := List.mem_filter.mp h
    subst e
    exact ⟨a, b, h1, h2⟩
  · rintro ⟨a, b, h1, h2⟩
    exact ⟨(a, p, b), List.mem_filter.mpr ⟨h1, h2⟩, rfl⟩
theorem bad_sub {F : Fail} {n p : Int} {s : List Int} (h : p ∈ bad F n s) : p ∈ s := by
  obtain ⟨a, b, h, _⟩ := mem_bad.mp h
  exact sides_mem h
theorem bad_nil {F : Fail} {n : Int} {s : List Int} : bad F n s = [] ↔ ∀ a p b, (a, p, b) ∈ sides (-1) s n → F a p b = false := by
  constructor
  · intro h a p b hm
    cases e : F a p b with
    | false => rfl
    | true =>
      have : p ∈ bad F n s := mem_bad.mpr ⟨a, b, hm, e⟩
      rw [h] at this
      nomatch this
  · intro h
    refine List.eq_nil_iff_forall_not_mem.mpr fun p hp => ?_
    obtain ⟨a, b, h1, h2⟩ := mem_bad.mp hp
    rw [h a p b h1] at h2
    cases h2
/-- lots of props 0 .. n - 1 -/
abbrev Lot (n : Int) (s : List Int) : Prop := Rise (-1) n s
/-- who fails fails as well with rests farther off -/
def Wider (n : Int) (F : Fail) : Prop := ∀ a a' p b b' : Int, -1 ≤ a' → a' ≤ a → a < p → p < b → b ≤ b' → b' ≤ n → F a p b = true → F a' p b' = true

theorem bad_out {F : Fail} {n p : Int} {s t : List Int} (W : Wider n F) (hs : Lot n s) (ht : Lot n t) (sub : ∀ k ∈ t, k ∈ s) (st : bad F n t = []) (hp : p ∈ bad F n s) : p ∉ t := by
  intro hpt
  obtain ⟨a, b, h1, h2⟩ := mem_bad.mp hp
  obtain ⟨a', b', h3⟩ := sides_of (r := n) (l := -1) hpt
  obtain ⟨_, la, ca, lt, na, cb, pb, bn, nb⟩ := sides_spec hs h1
  obtain ⟨_, la', ca', lt', na', cb', pb', bn', nb'⟩ := sides_spec ht h3
  have e1 : a' ≤ a := by
    rcases ca' with e | m
    · omega
    · exact na a' (sub _ m) lt'
  have e2 : b ≤ b' := by
    rcases cb' with e | m
    · omega
    · exact nb b' (sub _ m) pb'
  have q := W a a' p b b' la' e1 lt pb e2 bn' h2
  rw [bad_nil.mp st a' p b' h3] at q
  cases q

/-- without one -/
def wo (s : List Int) (p : Int) : List Int := s.filter fun k => k != p
theorem mem_wo {s : List Int} {p k : Int} : k ∈ wo s p ↔ k ∈ s ∧ k ≠ p := by
  unfold wo
  rw [List.mem_filter]
  simp
theorem wo_lt {s : List Int} {p : Int} (h : p ∈ s) : (wo s p).length < s.length := by
  unfold wo
  rcases Nat.lt_or_ge (s.filter fun k => k != p).length s.length with z | z
  · exact z
  · have e := List.length_filter_eq_length_iff.mp (Nat.le_antisymm (List.length_filter_le _ _) z)
    have := e p h
    simp at this
theorem Rise.wo {l r : Int} {s : List Int} (h : Rise l r s) (p : Int) : Rise l r (wo s p) := h.filter _

/-- the first that fails goes, till none does: who went, who is left -/
def settle (F : Fail) (n : Int) (s : List Int) : List Int × List Int :=
  match h : bad F n s with
  | [] => ([], s)
  | p :: _ => (p :: (settle F n (wo s p)).1, (settle F n (wo s p)).2)
termination_by s.length
decreasing_by
  all_goals exact wo_lt (bad_sub (by rw [h]; exact List.mem_cons_self))
theorem settle_nil {F : Fail} {n : Int} {s : List Int} (h : bad F n s = []) : settle F n s = ([], s) := by
  rw [settle]
  split
  · rfl
  · rename_i e; rw [h] at e; cases e
theorem settle_cons {F : Fail} {n p : Int} {s r : List Int} (h : bad F n s = p :: r) : settle F n s = (p :: (settle F n (wo s p)).1, (settle F n (wo s p)).2) := by
  rw [settle]
  split
  · rename_i e; rw [h] at e; cases e
  · rename_i e; rw [h] at e; cases e; rfl
/-- induction over the givings -/
theorem settle_ind {F : Fail} {n : Int} {P : List Int → Prop} (h : ∀ s, (∀ p r, bad F n s = p :: r → P (wo s p)) → P s) (s : List Int) : P s := by
  have all : ∀ (m : Nat) (s : List Int), s.length < m → P s := by
    intro m
    induction m with
    | zero => intro s hs; exact absurd hs (Nat.not_lt_zero _)
    | succ m ih =>
      intro s hs
      refine h s fun p r e => ih _ ?_
      have := wo_lt (bad_sub (F := F) (n := n) (s := s) (p := p) (by rw [e]; exact List.mem_cons_self))
      omega
  exact all (s.length + 1) s (Nat.lt_succ_self _)
structure Left (F : Fail) (n : Int) (s t : List Int) : Prop where
  lot : Lot n t
  sub : ∀ k ∈ t, k ∈ s
  st : bad F n t = []
  most : ∀ u, Lot n u → (∀ k ∈ u, k ∈ s) → bad F n u = [] → ∀ k ∈ u, k ∈ t
theorem settle_left {F : Fail} {n : Int} (W : Wider n F) (s : List Int) : Lot n s → Left F n s (settle F n s).2 := by
  induction s using settle_ind (F := F) (n := n) with
  | h s ih =>
    intro hs
    cases e : bad F n s with
    | nil => rw [settle_nil e]; exact ⟨hs, fun _ h => h, e, fun u _ h _ => h⟩
    | cons p r =>
      have q := ih p r e (hs.wo p)
      rw [settle_cons e]
      refine ⟨q.lot, fun k hk => (mem_wo.mp (q.sub k hk)).1, q.st, fun u hu su st => q.most u hu (fun k hk => mem_wo.mpr ⟨su k hk, fun z => ?_⟩) st⟩
      exact bad_out W hs hu su st (by rw [e]; exact List.mem_cons_self) (by rw [← z]; exact hk)
theorem rise_ext {l r : Int} : ∀ {s t : List Int}, Rise l r s → Rise l r t → (∀ k, k ∈ s ↔ k ∈ t) → s = t := by
  intro s
  induction s with
  | nil =>
    intro t _ _ h
    cases t with
    | nil => rfl
    | cons q t => exact absurd ((h q).mpr List.mem_cons_self) (by simp)
  | cons p s ih =>
    intro t hs ht h
    cases t with
    | nil => exact absurd ((h p).mp List.mem_cons_self) (by simp)
    | cons q t =>
      have e : p = q := by
        have h1 := (h p).mp List.mem_cons_self
        have h2 := (h q).mpr List.mem_cons_self
        rcases List.mem_cons.mp h1 with e | h1
        · exact e
        · rcases List.mem_cons.mp h2 with e | h2
          · exact e.symm
          · have := (List.pairwise_cons.mp hs.1).1 q h2
            have := (List.pairwise_cons.mp ht.1).1 p h1
            omega
      subst e
      have hs' : Rise l r s := ⟨(List.pairwise_cons.mp hs.1).2, fun k hk => hs.2 k (List.mem_cons_of_mem _ hk)⟩
      have ht' : Rise l r t := ⟨(List.pairwise_cons.mp ht.1).2, fun k hk => ht.2 k (List.mem_cons_of_mem _ hk)⟩
      rw [ih hs' ht' fun k => ?_]
      constructor
      · intro hk
        rcases List.mem_cons.mp ((h k).mp (List.mem_cons_of_mem _ hk)) with e | z
        · have := (List.pairwise_cons.mp hs.1).1 k hk; omega
        · exact z
      · intro hk
        rcases List.mem_cons.mp ((h k).mpr (List.mem_cons_of_mem _ hk)) with e | z
        · have := (List.pairwise_cons.mp ht.1).1 k hk; omega
        · exact z
theorem Left.uniq {F : Fail} {n : Int} {s t u : List Int} (a : Left F n s t) (b : Left F n s u) : t = u :=
  rise_ext a.lot b.lot fun k => ⟨fun h => b.most t a.lot a.sub a.st k h, fun h => a.most u b.lot b.sub b.st k h⟩

/-! all props -/
def allP (n : Nat) : List Int := (List.range n).map fun k : Nat => (k : Int)
theorem allP_lot (n : Nat) : Lot (n : Int) (allP n) := by
  refine ⟨?_, fun k hk => ?_⟩
  · unfold allP
    rw [List.pairwise_map]
    exact (List.pairwise_lt_range (n := n)).imp fun h => by omega
  · unfold allP at hk
    obtain ⟨j, hj, rfl⟩ := List.mem_map.mp hk
    have := List.mem_range.mp hj
    omega
theorem mem_allP {n : Nat} {k : Int} : k ∈ allP n ↔ 0 ≤ k ∧ k < n := by
  unfold allP
  rw [List.mem_map]
  constructor
  · rintro ⟨j, hj, rfl⟩
    have := List.mem_range.mp hj
    omega
  · rintro ⟨h1, h2⟩
    exact ⟨k.toNat, List.mem_range.mpr (by omega), by omega⟩
theorem lot_sub_all {n : Nat} {s : List Int} (h : Lot (n : Int) s) : ∀ k ∈ s, k ∈ allP n := fun k hk => mem_allP.mpr (by have := h.2 k hk; omega)

/-! the lot of a number, bit by bit -/
def bitsOf (n : Nat) (m : Nat) : List Int := (allP n).filter fun k => m / 2 ^ k.toNat % 2 == 1
theorem bits_lot (n m : Nat) : Lot (n : Int) (bitsOf n m) := (allP_lot n).filter _
theorem bits_any (f : Nat → Bool) : ∀ n : Nat, ∃ m, m < 2 ^ n ∧ ∀ k, k < n → (m / 2 ^ k % 2 == 1) = f k
  | 0 => ⟨0, by decide, fun k h => absurd h (Nat.not_lt_zero _)⟩
  | n + 1 => by
    obtain ⟨m, hm, h⟩ := bits_any f n
    refine ⟨m + (if f n then 2 ^ n else 0), ?_, fun k hk => ?_⟩
    · rw [Nat.pow_succ]; split <;> omega
    · have hp : 0 < 2 ^ k := Nat.pow_pos (by decide)
      by_cases e : k = n
      · subst e
        split
        · rename_i hf
          rw [hf, Nat.add_div_right _ hp, Nat.div_eq_of_lt hm]
          rfl
        · rename_i hf
          rw [Nat.add_zero, Nat.div_eq_of_lt hm]
          simp at hf
          rw [hf]
          rfl
      · have hlt : k < n := by omega
        rw [← h k hlt]
        split
        · obtain ⟨d, hd⟩ : ∃ d, n = k + 1 + d := ⟨n - k - 1, by omega⟩
          have e2 : 2 ^ n = 2 ^ k * (2 * 2 ^ d) := by rw [hd, Nat.pow_add, Nat.pow_succ]; rw [Nat.mul_assoc]
          rw [e2, Nat.add_mul_div_left _ _ hp, Nat.add_mul_mod_self_left]
        · rw [Nat.add_zero]
theorem bits_of_lot {n : Nat} {s : List Int} (h : Lot (n : Int) s) : ∃ m, m < 2 ^ n ∧ bitsOf n m = s := by
  obtain ⟨m, hm, hb⟩ := bits_any (fun k => decide ((k : Int) ∈ s)) n
  refine ⟨m, hm, rise_ext (bits_lot n m) h fun k => ?_⟩
  unfold bitsOf
  rw [List.mem_filter]
  constructor
  · rintro ⟨h1, h2⟩
    have := mem_allP.mp h1
    rw [hb k.toNat (by omega)] at h2
    have e : ((k.toNat : Nat) : Int) = k := by omega
    rw [e] at h2
    exact of_decide_eq_true h2
  · intro hk
    have := h.2 k hk
    refine ⟨lot_sub_all h k hk, ?_⟩
    rw [hb k.toNat (by omega)]
    have e : ((k.toNat : Nat) : Int) = k := by omega
    rw [e]
    exact decide_eq_true hk
/-- the union of all lots that stand, by their numbers -/
structure Union (F : Fail) (n : Nat) (m : Nat) (t : List Int) : Prop where
  lot : Lot (n : Int) t
  mem : ∀ k, k ∈ t ↔ ∃ j, j < m ∧ bad F n (bitsOf n j) = [] ∧ k ∈ bitsOf n j
theorem Union.zero {F : Fail} {n : Nat} : Union F n 0 [] := by
  refine ⟨Rise.nil, fun k => ?_⟩
  constructor
  · intro h
    nomatch h
  · rintro ⟨_, h, _⟩
    exact absurd h (Nat.not_lt_zero _)
theorem Union.skip {F : Fail} {n m : Nat} {t : List Int} (u : Union F n m t) (h : bad F n (bitsOf n m) ≠ []) : Union F n (m + 1) t := by
  refine ⟨u.lot, fun k => ?_⟩
  rw [u.mem k]
  constructor
  · rintro ⟨j, h1, h2⟩
    exact ⟨j, by omega, h2⟩
  · rintro ⟨j, h1, h2, h3⟩
    rcases Nat.lt_or_ge j m with z | z
    · exact ⟨j, z, h2, h3⟩
    · have e : j = m := by omega
      subst e
      exact absurd h2 h
theorem Union.step {F : Fail} {n m : Nat} {t t' : List Int} (u : Union F n m t) (h : bad F n (bitsOf n m) = []) (hs : t'.Pairwise (· < ·)) (hm : ∀ k, k ∈ t' ↔ k ∈ t ∨ k ∈ bitsOf n m) : Union F n (m + 1) t' := by
  refine ⟨⟨hs, fun k hk => ?_⟩, fun k => ?_⟩
  · rcases (hm k).mp hk with z | z
    · exact u.lot.2 k z
    · exact (bits_lot n m).2 k z
  · rw [hm k, u.mem k]
    constructor
    · rintro (⟨j, h1, h2⟩ | z)
      · exact ⟨j, by omega, h2⟩
      · exact ⟨m, Nat.lt_succ_self _, h, z⟩
    · rintro ⟨j, h1, h2, h3⟩
      rcases Nat.lt_or_ge j m with z | z
      · exact .inl ⟨j, z, h2, h3⟩
      · have e : j = m := by omega
        subst e
        exact .inr h3
theorem Union.left {F : Fail} {n : Nat} {t : List Int} (W : Wider (n : Int) F) (u : Union F n (2 ^ n) t) : t = (settle F n (allP n)).2 := by
  have L := settle_left W (allP n) (allP_lot n)
  refine rise_ext u.lot L.lot fun k => ?_
  rw [u.mem k]
  constructor
  · rintro ⟨j, h1, h2, h3⟩
    exact L.most _ (bits_lot n j) (lot_sub_all (bits_lot n j)) h2 k h3
  · intro hk
    obtain ⟨m, h1, h2⟩ := bits_of_lot L.lot
    exact ⟨m, h1, by rw [h2]; exact L.st, by rw [h2]; exact hk⟩
end Pf
end

section
/-! For all further weights at once: what the program tells, part by part, is what the law reckons, threshold by threshold. -/
namespace Pf

theorem rlt_or_eq {a b : Rat} (h : a ≤ b) : a < b ∨ a = b := by grind
/-- a prop between two rests of a plank of n props -/
structure Key3 (n : Nat) (a p b : Int) : Prop where
  lo : -1 ≤ a
  ap : a < p
  pb : p < b
  hi : b ≤ n
theorem key_of_sides {n : Nat} {s : List Int} {a p b : Int} (h : Lot (n : Int) s) (m : (a, p, b) ∈ sides (-1) s n) : Key3 n a p b := by
  obtain ⟨_, h1, _, h2, _, _, h3, h4, _⟩ := sides_spec h m
  exact ⟨h1, h2, h3, h4⟩

theorem bad_congr {F G : Fail} {n : Nat} {s : List Int} (h : ∀ a p b, Key3 n a p b → F a p b = G a p b) (hs : Lot (n : Int) s) : bad F n s = bad G n s := by
  unfold bad
  congr 1
  exact List.filter_congr fun t ht => h _ _ _ (key_of_sides hs ht)
theorem settle_congr {F G : Fail} {n : Nat} (h : ∀ a p b, Key3 n a p b → F a p b = G a p b) (s : List Int) : Lot (n : Int) s → settle F n s = settle G n s := by
  induction s using settle_ind (F := F) (n := n) with
  | h s ih =>
    intro hs
    have e := bad_congr h hs
    cases q : bad F n s with
    | nil => rw [settle_nil q, settle_nil (e.symm.trans q)]
    | cons p r => rw [settle_cons q, settle_cons (e.symm.trans q), ih p r q (hs.wo p)]
theorem settle_len {F : Fail} {n : Int} (s : List Int) : (settle F n s).2.length ≤ s.length := by
  induction s using settle_ind (F := F) (n := n) with
  | h s ih =>
    cases q : bad F n s with
    | nil => rw [settle_nil q]; exact Nat.le_refl _
    | cons p r =>
      rw [settle_cons q]
      have h1 := ih p r q
      have h2 := wo_lt (bad_sub (F := F) (n := n) (s := s) (p := p) (by rw [q]; exact List.mem_cons_self))
      show (settle F n (wo s p)).2.length ≤ s.length
      omega
theorem settle_len_lt {F : Fail} {n : Int} {s : List Int} (h : bad F n s ≠ []) : (settle F n s).2.length < s.length := by
  cases q : bad F n s with
  | nil => exact absurd q h
  | cons p r =>
    rw [settle_cons q]
    have h1 := settle_len (F := F) (n := n) (wo s p)
    have h2 := wo_lt (bad_sub (F := F) (n := n) (s := s) (p := p) (by rw [q]; exact List.mem_cons_self))
    show (settle F n (wo s p)).2.length < s.length
    omega
theorem Left.congr {F G : Fail} {n : Nat} {s t : List Int} (h : ∀ a p b, Key3 n a p b → F a p b = G a p b) (l : Left F (n : Int) s t) : Left G (n : Int) s t :=
  ⟨l.lot, l.sub, by rw [← bad_congr h l.lot]; exact l.st, fun u hu su st => l.most u hu su (by rw [bad_congr h hu]; exact st)⟩

/-! the numbers -/
structure Nums (n : Nat) (sp hs : Int → Int → Int → Rat) : Prop where
  nn : ∀ a p b, Key3 n a p b → 0 ≤ hs a p b
  hm : ∀ a a' p b b', Key3 n a p b → -1 ≤ a' → a' ≤ a → b ≤ b' → b' ≤ n → hs a p b ≤ hs a' p b'
  sm : ∀ a a' p b b', Key3 n a p b → -1 ≤ a' → a' ≤ a → b ≤ b' → b' ≤ n → sp a' p b' ≤ sp a p b

section
variable (sp hs : Int → Int → Int → Rat)
/-- who fails by a further weight w -/
def Fw (w : Rat) : Fail := fun a p b => decide (sp a p b < w * hs a p b)
/-- who fails by each one above u -/
def Gu (u : Rat) : Fail := fun a p b => decide (sp a p b - u * hs a p b < 0 ∨ sp a p b - u * hs a p b = 0 ∧ hs a p b ≠ 0)
def leastO : List Rat → Option Rat
  | [] => none
  | q :: t => some (t.foldl (fun f o => if o < f then o else f) q)
def most (n : Nat) (s : List Int) : Option Rat := leastO (((sides (-1) s n).filter fun t => decide (hs t.1 t.2.1 t.2.2 ≠ 0)).map fun t => sp t.1 t.2.1 t.2.2 / hs t.1 t.2.1 t.2.2)
abbrev Part := List Int × List Int × Option Rat
/-- what the program tells -/
def parts (n : Nat) (row s : List Int) : List Part :=
  match most sp hs n s with
  | none => [(row, s, none)]
  | some u => (row, s, some u) :: (if h : (settle (Gu sp hs u) n s).2.length < s.length then parts n (settle (Gu sp hs u) n s).1 (settle (Gu sp hs u) n s).2 else [])
termination_by s.length
/-- what the law reckons, from the thresholds -/
def dueG (n : Nat) : List (Rat × Rat) → List Int → List Int → List Part
  | [], row, s => [(row, s, none)]
  | (t, t') :: r, row, s =>
    if (settle (Fw sp hs ((t + t') / 2)) n (allP n)).2 ≠ s then (row, s, some t) :: dueG n r (settle (Gu sp hs t) n s).1 (settle (Fw sp hs ((t + t') / 2)) n (allP n)).2
    else dueG n r row s
end
/-- each with the next, the last with one more by 2 -/
def nexts : List Rat → List (Rat × Rat)
  | [] => []
  | [t] => [(t, t + 2)]
  | t :: t' :: r => (t, t') :: nexts (t' :: r)

theorem foldl_least : ∀ (t : List Rat) (q : Rat), (t.foldl (fun f o => if o < f then o else f) q ∈ q :: t) ∧ ∀ x ∈ q :: t, t.foldl (fun f o => if o < f then o else f) q ≤ x
  | [], q => ⟨List.mem_cons_self, fun x h => by
      have e : x = q := by simpa using h
      rw [e]; exact Rat.le_refl⟩
  | y :: t, q => by
    have ih := foldl_least t (if y < q then y else q)
    show (t.foldl (fun f o => if o < f then o else f) (if y < q then y else q) ∈ q :: y :: t) ∧ ∀ x ∈ q :: y :: t, t.foldl (fun f o => if o < f then o else f) (if y < q then y else q) ≤ x
    generalize t.foldl (fun f o => if o < f then o else f) (if y < q then y else q) = z at ih
    by_cases c : y < q
    · rw [if_pos c] at ih
      refine ⟨List.mem_cons_of_mem _ ih.1, fun x hx => ?_⟩
      rcases List.mem_cons.mp hx with e | hx
      · have := ih.2 y List.mem_cons_self
        rw [e]; grind
      · exact ih.2 x hx
    · rw [if_neg c] at ih
      refine ⟨?_, fun x hx => ?_⟩
      · rcases List.mem_cons.mp ih.1 with e | h
        · rw [e]; exact List.mem_cons_self
        · exact List.mem_cons_of_mem _ (List.mem_cons_of_mem _ h)
      · rcases List.mem_cons.mp hx with e | hx
        · rw [e]; exact ih.2 q List.mem_cons_self
        · rcases List.mem_cons.mp hx with e | hx
          · have := ih.2 q List.mem_cons_self
            rw [e]; grind
          · exact ih.2 x (List.mem_cons_of_mem _ hx)
theorem leastO_some {l : List Rat} {u : Rat} (h : leastO l = some u) : u ∈ l ∧ ∀ x ∈ l, u ≤ x := by
  cases l with
  | nil => cases h
  | cons q t =>
    have e : t.foldl (fun f o => if o < f then o else f) q = u := Option.some.inj h
    rw [← e]
    exact foldl_least t q
theorem leastO_none {l : List Rat} (h : leastO l = none) : l = [] := by
  cases l with
  | nil => rfl
  | cons q t => cases h

section
variable {n : Nat} {sp hs : Int → Int → Int → Rat}
theorem most_none {s : List Int} (h : most sp hs n s = none) {a p b : Int} (m : (a, p, b) ∈ sides (-1) s n) : hs a p b = 0 := by
  have e := leastO_none h
  rw [List.map_eq_nil_iff] at e
  have := List.filter_eq_nil_iff.mp e _ m
  simpa using this
theorem most_some {s : List Int} {u : Rat} (h : most sp hs n s = some u) :
    (∃ a p b, (a, p, b) ∈ sides (-1) s n ∧ hs a p b ≠ 0 ∧ u = sp a p b / hs a p b) ∧ ∀ a p b, (a, p, b) ∈ sides (-1) s n → hs a p b ≠ 0 → u ≤ sp a p b / hs a p b := by
  obtain ⟨h1, h2⟩ := leastO_some h
  constructor
  · obtain ⟨⟨a, p, b⟩, h3, h4⟩ := List.mem_map.mp h1
    obtain ⟨h5, h6⟩ := List.mem_filter.mp h3
    exact ⟨a, p, b, h5, of_decide_eq_true h6, h4.symm⟩
  · intro a p b hm hn
    exact h2 _ (List.mem_map.mpr ⟨(a, p, b), List.mem_filter.mpr ⟨hm, decide_eq_true hn⟩, rfl⟩)

theorem wider_Fw (N : Nums n sp hs) {w : Rat} (hw : 0 ≤ w) : Wider (n : Int) (Fw sp hs w) := fun a a' p b b' h1 h2 h3 h4 h5 h6 q => by
  have k : Key3 n a p b := ⟨by omega, h3, h4, by omega⟩
  have e1 := N.hm a a' p b b' k h1 h2 h5 h6
  have e2 := N.sm a a' p b b' k h1 h2 h5 h6
  have e3 := Rat.mul_le_mul_of_nonneg_left e1 hw
  have q' := of_decide_eq_true q
  exact decide_eq_true (by grind)
theorem wider_Gu (N : Nums n sp hs) {u : Rat} (hu : 0 ≤ u) : Wider (n : Int) (Gu sp hs u) := fun a a' p b b' h1 h2 h3 h4 h5 h6 q => by
  have k : Key3 n a p b := ⟨by omega, h3, h4, by omega⟩
  have e1 := N.hm a a' p b b' k h1 h2 h5 h6
  have e2 := N.sm a a' p b b' k h1 h2 h5 h6
  have e3 := Rat.mul_le_mul_of_nonneg_left e1 hu
  have e4 := N.nn a p b k
  have q' := of_decide_eq_true q
  refine decide_eq_true ?_
  rcases q' with q | ⟨q1, q2⟩
  · left; grind
  · by_cases z : sp a' p b' - u * hs a' p b' < 0
    · exact .inl z
    · right
      have : 0 < hs a p b := by grind
      constructor <;> grind
/-- stands above u: stands by u -/
theorem Gu_of_Fw {u : Rat} {a p b : Int} (h : Fw sp hs u a p b = true) : Gu sp hs u a p b = true := by
  have := of_decide_eq_true h
  exact decide_eq_true (.inl (by grind))
theorem st_Fw_of_Gu {u : Rat} {s : List Int} (h : bad (Gu sp hs u) n s = []) : bad (Fw sp hs u) n s = [] := by
  rw [bad_nil] at h ⊢
  intro a p b m
  cases e : Fw sp hs u a p b with
  | false => rfl
  | true => rw [← Gu_of_Fw e, h a p b m]
/-- no threshold above t up to w: to fail by w is to fail above t -/
theorem Fw_eq_Gu (N : Nums n sp hs) {t w : Rat} (h0 : 0 ≤ t) (hw : t < w) (hn : ∀ a p b, Key3 n a p b → 0 < hs a p b → 0 ≤ sp a p b → sp a p b / hs a p b ≤ t ∨ w ≤ sp a p b / hs a p b) {a p b : Int} (k : Key3 n a p b) :
    Fw sp hs w a p b = Gu sp hs t a p b := by
  have e4 := N.nn a p b k
  unfold Fw Gu
  congr 1
  apply propext
  by_cases z : hs a p b = 0
  · rw [z]
    constructor
    · intro q; left; grind
    · intro q; rcases q with q | q
      · grind
      · exact absurd rfl q.2
  · have hp : 0 < hs a p b := by grind
    by_cases ns : sp a p b < 0
    · have g1 := Rat.mul_nonneg h0 e4
      have g2 := Rat.mul_nonneg (show 0 ≤ w by grind) e4
      constructor
      · intro _; left; grind
      · intro _; grind
    · have e5 := hn a p b k hp (by grind)
      rw [rdiv_le hp, le_rdiv hp] at e5
      have g1 : t * hs a p b < w * hs a p b := Rat.mul_lt_mul_of_pos_right hw hp
      constructor
      · intro q
        rcases e5 with e | e
        · rcases rlt_or_eq e with y | y
          · left; grind
          · right; exact ⟨by grind, z⟩
        · grind
      · intro q
        rcases e5 with e | e
        · grind
        · rcases q with q | q
          · grind
          · grind

/-- thresholds -/
def Thr (n : Nat) (sp hs : Int → Int → Int → Rat) (x : Rat) : Prop := ∃ a p b, Key3 n a p b ∧ 0 < hs a p b ∧ 0 ≤ sp a p b ∧ x = sp a p b / hs a p b

theorem most_thr (N : Nums n sp hs) {s : List Int} {t u : Rat} (h0 : 0 ≤ t) (hl : Lot (n : Int) s) (st : bad (Fw sp hs t) n s = []) (h : most sp hs n s = some u) : t ≤ u ∧ Thr n sp hs u := by
  obtain ⟨⟨a, p, b, m, hn, e⟩, _⟩ := most_some h
  have k := key_of_sides hl m
  have nn := N.nn a p b k
  have hp : 0 < hs a p b := by grind
  have q := bad_nil.mp st a p b m
  have q' := of_decide_eq_false q
  have g := Rat.mul_nonneg h0 nn
  refine ⟨?_, a, p, b, k, hp, by grind, e⟩
  rw [e, le_rdiv hp]
  grind
theorem st_stays (N : Nums n sp hs) {s : List Int} {t : Rat} (hl : Lot (n : Int) s) (st : bad (Fw sp hs t) n s = []) (h : ∀ u, most sp hs n s = some u → t < u) : bad (Gu sp hs t) n s = [] := by
  rw [bad_nil] at st ⊢
  intro a p b m
  have k := key_of_sides hl m
  have nn := N.nn a p b k
  have q' := of_decide_eq_false (st a p b m)
  refine decide_eq_false ?_
  cases e : most sp hs n s with
  | none =>
    have z := most_none e m
    rw [z] at q' ⊢
    rintro (q | q)
    · grind
    · exact q.2 rfl
  | some u =>
    have g := h u e
    obtain ⟨_, g2⟩ := most_some e
    by_cases z : hs a p b = 0
    · rw [z] at q' ⊢
      rintro (q | q)
      · grind
      · exact q.2 rfl
    · have hp : 0 < hs a p b := by grind
      have g3 := g2 a p b m z
      rw [le_rdiv hp] at g3
      have g4 : t * hs a p b < u * hs a p b := Rat.mul_lt_mul_of_pos_right g hp
      rintro (q | q)
      · grind
      · grind
theorem most_bad (N : Nums n sp hs) {s : List Int} {u : Rat} (hl : Lot (n : Int) s) (h : most sp hs n s = some u) : bad (Gu sp hs u) n s ≠ [] := by
  obtain ⟨⟨a, p, b, m, hn, e⟩, _⟩ := most_some h
  have k := key_of_sides hl m
  have nn := N.nn a p b k
  have hp : hs a p b ≠ 0 := hn
  intro z
  have q := of_decide_eq_false (bad_nil.mp z a p b m)
  refine q (.inr ⟨?_, hn⟩)
  rw [e, Rat.div_mul_cancel hp]
  grind
/-- above t: the greatest lot -/
theorem left_Gu {s x : List Int} {t : Rat} (ht : 0 ≤ t) (L : Left (Fw sp hs t) (n : Int) (allP n) s) (X : Left (Gu sp hs t) (n : Int) s x) : Left (Gu sp hs t) (n : Int) (allP n) x :=
  ⟨X.lot, lot_sub_all X.lot, X.st, fun u hu su st => X.most u hu (L.most u hu su (st_Fw_of_Gu st)) st⟩

theorem parts_due_from (N : Nums n sp hs) : ∀ (ts : List Rat) (row s : List Int) (t : Rat), 0 ≤ t → (t :: ts).Pairwise (· < ·) → (∀ x, Thr n sp hs x → x ≤ t ∨ x ∈ ts) → Left (Fw sp hs t) (n : Int) (allP n) s →
    dueG sp hs n (nexts (t :: ts)) row s = parts sp hs n row s := by
  intro ts
  induction ts with
  | nil =>
    intro row s t h0 _ hth L
    show dueG sp hs n [(t, t + 2)] row s = _
    have am : t < (t + (t + 2)) / 2 := by grind
    have fg : ∀ a p b, Key3 n a p b → Fw sp hs ((t + (t + 2)) / 2) a p b = Gu sp hs t a p b := fun a p b k => Fw_eq_Gu N h0 am (fun a p b k h1 h2 => (hth _ ⟨a, p, b, k, h1, h2, rfl⟩).imp id fun z => nomatch z) k
    have e1 : (settle (Fw sp hs ((t + (t + 2)) / 2)) n (allP n)) = settle (Gu sp hs t) n (allP n) := settle_congr fg _ (allP_lot n)
    have LG := settle_left (wider_Gu N h0) (allP n) (allP_lot n)
    unfold dueG
    rw [e1]
    cases em : most sp hs n s with
    | none =>
      have LS : Left (Gu sp hs t) (n : Int) (allP n) s := left_Gu h0 L ⟨L.lot, fun _ h => h, st_stays N L.lot L.st (by rw [em]; intro u h; cases h), fun u _ su _ => su⟩
      rw [if_neg (by rw [LG.uniq LS]; exact fun z => z rfl), parts, em]
      rfl
    | some m =>
      obtain ⟨g1, g2⟩ := most_thr N h0 L.lot L.st em
      have hm : m = t := by
        rcases hth m g2 with z | z
        · grind
        · nomatch z
      subst hm
      have nb := most_bad N L.lot em
      have LX := settle_left (wider_Gu N h0) s L.lot
      have LA := left_Gu h0 L LX
      have eq := LG.uniq LA
      rw [if_pos (by rw [eq]; intro z; exact nb (by rw [← z]; exact LX.st)), parts, em]
      simp only []
      rw [dif_pos (settle_len_lt nb), eq]
      congr 1
      -- the last one
      unfold dueG
      have L2 : Left (Fw sp hs ((m + (m + 2)) / 2)) (n : Int) (allP n) (settle (Gu sp hs m) n s).2 := LA.congr fun a p b k => (fg a p b k).symm
      cases em2 : most sp hs n (settle (Gu sp hs m) n s).2 with
      | none => rw [parts, em2]
      | some m2 =>
        obtain ⟨g3, g4⟩ := most_thr N (by grind) L2.lot L2.st em2
        rcases hth m2 g4 with z | z
        · exfalso; grind
        · nomatch z
  | cons t' ts ih =>
    intro row s t h0 hpw hth L
    show dueG sp hs n ((t, t') :: nexts (t' :: ts)) row s = _
    have hlt : t < t' := (List.pairwise_cons.mp hpw).1 t' List.mem_cons_self
    have hpw' := (List.pairwise_cons.mp hpw).2
    have nxt : ∀ x, Thr n sp hs x → x ≤ t ∨ t' ≤ x := fun x hx => by
      rcases hth x hx with z | z
      · exact .inl z
      · rcases List.mem_cons.mp z with e | z
        · right; rw [e]; exact Rat.le_refl
        · right; exact Rat.le_of_lt ((List.pairwise_cons.mp hpw').1 x z)
    have am1 : t < (t + t') / 2 := by grind
    have am2 : (t + t') / 2 < t' := by grind
    have fg : ∀ w, t < w → w ≤ t' → ∀ a p b, Key3 n a p b → Fw sp hs w a p b = Gu sp hs t a p b := fun w h1 h2 a p b k =>
      Fw_eq_Gu N h0 h1 (fun a p b k h1 h3 => (nxt _ ⟨a, p, b, k, h1, h3, rfl⟩).imp id fun z => Rat.le_trans h2 z) k
    have e1 : (settle (Fw sp hs ((t + t') / 2)) n (allP n)) = settle (Gu sp hs t) n (allP n) := settle_congr (fg _ am1 (Rat.le_of_lt am2)) _ (allP_lot n)
    have LG := settle_left (wider_Gu N h0) (allP n) (allP_lot n)
    have hth' : ∀ x, Thr n sp hs x → x ≤ t' ∨ x ∈ ts := fun x hx => by
      rcases hth x hx with z | z
      · left; grind
      · rcases List.mem_cons.mp z with e | z
        · left; rw [e]; exact Rat.le_refl
        · exact .inr z
    unfold dueG
    rw [e1]
    have stay : (∀ u, most sp hs n s = some u → t < u) → (if (settle (Gu sp hs t) n (allP n)).2 ≠ s then (row, s, some t) :: dueG sp hs n (nexts (t' :: ts)) (settle (Gu sp hs t) n s).1 (settle (Gu sp hs t) n (allP n)).2 else dueG sp hs n (nexts (t' :: ts)) row s) = parts sp hs n row s := fun hu => by
      have LS : Left (Gu sp hs t) (n : Int) (allP n) s := left_Gu h0 L ⟨L.lot, fun _ h => h, st_stays N L.lot L.st hu, fun u _ su _ => su⟩
      rw [if_neg (by rw [LG.uniq LS]; exact fun z => z rfl)]
      exact ih row s t' (by grind) hpw' hth' (LS.congr fun a p b k => (fg t' hlt Rat.le_refl a p b k).symm)
    cases em : most sp hs n s with
    | none => exact stay (by rw [em]; intro u h; cases h)
    | some m =>
      obtain ⟨g1, g2⟩ := most_thr N h0 L.lot L.st em
      rcases rlt_or_eq g1 with z | z
      · exact stay (by rw [em]; intro u h; cases h; exact z)
      · subst z
        have nb := most_bad N L.lot em
        have LX := settle_left (wider_Gu N h0) s L.lot
        have LA := left_Gu h0 L LX
        have eq := LG.uniq LA
        rw [if_pos (by rw [eq]; intro z; exact nb (by rw [← z]; exact LX.st)), parts, em]
        simp only []
        rw [dif_pos (settle_len_lt nb), eq]
        congr 1
        exact ih _ _ t' (by grind) hpw' hth' (LA.congr fun a p b k => (fg t' hlt Rat.le_refl a p b k).symm)
end
end Pf
end

section
/-! The text by places: printed by gen_head.py out of the linked T.py. -/
namespace Pf
open PySem PySem.Spec PyProof.Rows L2
def top (i : Nat) : Stmt := PySem.Challenge.pw_propfall_k41_whole_all_further_weights_b.main.body.getD i (.Pass ⟨0, 0, 0, 0⟩)
abbrev s_is_whole : Stmt := top 12
abbrev s_divisor : Stmt := top 13
abbrev s_cut : Stmt := top 14
abbrev s_is_fraction : Stmt := top 15
abbrev s_whole : Stmt := top 16
abbrev s_plus : Stmt := top 17
abbrev s_less : Stmt := top 18
abbrev s_times : Stmt := top 19
abbrev s_over : Stmt := top 20
abbrev s_is_below : Stmt := top 21
abbrev s_sum_of : Stmt := top 22
abbrev s_least : Stmt := top 23
abbrev s_is_measure : Stmt := top 28
abbrev s_is_prop : Stmt := top 29
abbrev s_are_props : Stmt := top 30
abbrev s_Plank_init : Stmt := inClass (top 31) 0
abbrev s_Plank_length : Stmt := inClass (top 31) 2
abbrev s_Plank_props : Stmt := inClass (top 31) 3
abbrev s_Plank_count : Stmt := inClass (top 31) 5
abbrev s_Plank_place_of : Stmt := inClass (top 31) 6
abbrev s_is_lot : Stmt := top 32
abbrev s_lot_of : Stmt := top 33
abbrev s_check_prop : Stmt := top 34
abbrev s_rests_of : Stmt := top 35
abbrev s_is_spot : Stmt := top 37
abbrev s_check_spot : Stmt := top 38
abbrev s_is_weight : Stmt := top 39
abbrev s_check_weights : Stmt := top 40
abbrev s_slope : Stmt := top 41
abbrev s_Loads_init : Stmt := inClass (top 42) 0
abbrev s_Loads_share : Stmt := inClass (top 42) 1
abbrev s_Loads_lies_on : Stmt := inClass (top 42) 2
abbrev s_Loads_is_overlaid : Stmt := inClass (top 42) 3
abbrev s_loads_of : Stmt := top 43
abbrev s_overlaid_between : Stmt := top 45
abbrev s_without : Stmt := top 46
abbrev s_settled_between : Stmt := top 47
abbrev s_settled : Stmt := top 48
abbrev s_overlaid : Stmt := top 49
abbrev s_are_unlike_props : Stmt := top 50
abbrev s_with_sides : Stmt := top 52
abbrev s_spare_at : Stmt := top 53
abbrev s_going : Stmt := top 54
abbrev s_most_at : Stmt := top 55
abbrev s_falls_of : Stmt := top 56
abbrev s_further : Stmt := top 57
abbrev s_goes_so : Stmt := top 58
abbrev s_is_part : Stmt := top 59
abbrev s_is_further : Stmt := top 60
abbrev s_felled : Stmt := top 61
abbrev s_law_cell : Stmt := top 63
abbrev s_law_digits : Stmt := top 64
abbrev s_law_cut : Stmt := top 65
abbrev s_law_plus : Stmt := top 66
abbrev s_law_minus : Stmt := top 67
abbrev s_law_by : Stmt := top 68
abbrev s_law_part_of : Stmt := top 69
abbrev s_law_is_below : Stmt := top 70
abbrev s_law_share : Stmt := top 71
abbrev s_law_load : Stmt := top 72
abbrev s_law_keys : Stmt := top 73
abbrev s_law_heavy : Stmt := top 74
abbrev s_law_world : Stmt := top 75
abbrev s_law_made : Stmt := top 76
abbrev s_law_spares : Stmt := top 77
abbrev s_law_greatest : Stmt := top 78
abbrev s_law_left : Stmt := top 79
abbrev s_law_rising : Stmt := top 80
abbrev s_law_amid : Stmt := top 81
abbrev s_law_fine : Stmt := top 82
abbrev s_law_row : Stmt := top 83
abbrev s_law_due : Stmt := top 84
abbrev s_law_right : Stmt := top 85
abbrev s_law_bare_right : Stmt := top 86
abbrev s_law : Stmt := top 87
/-! ### the data of the head -/
def d_is_whole : He.DefD := ⟨("is_whole", none), "is_whole", "is_whole", defArgs s_is_whole, defBody s_is_whole, defScope s_is_whole, [], []⟩
def d_divisor : He.DefD := ⟨("divisor", none), "divisor", "divisor", defArgs s_divisor, defBody s_divisor, defScope s_divisor, [], []⟩
def d_cut : He.DefD := ⟨("cut", none), "cut", "cut", defArgs s_cut, defBody s_cut, defScope s_cut, [], []⟩
def d_is_fraction : He.DefD := ⟨("is_fraction", none), "is_fraction", "is_fraction", defArgs s_is_fraction, defBody s_is_fraction, defScope s_is_fraction, [], []⟩
def d_whole : He.DefD := ⟨("whole", none), "whole", "whole", defArgs s_whole, defBody s_whole, defScope s_whole, [], []⟩
def d_plus : He.DefD := ⟨("plus", none), "plus", "plus", defArgs s_plus, defBody s_plus, defScope s_plus, [], []⟩
def d_less : He.DefD := ⟨("less", none), "less", "less", defArgs s_less, defBody s_less, defScope s_less, [], []⟩
def d_times : He.DefD := ⟨("times", none), "times", "times", defArgs s_times, defBody s_times, defScope s_times, [], []⟩
def d_over : He.DefD := ⟨("over", none), "over", "over", defArgs s_over, defBody s_over, defScope s_over, [], []⟩
def d_is_below : He.DefD := ⟨("is_below", none), "is_below", "is_below", defArgs s_is_below, defBody s_is_below, defScope s_is_below, [], []⟩
def d_sum_of : He.DefD := ⟨("sum_of", none), "sum_of", "sum_of", defArgs s_sum_of, defBody s_sum_of, defScope s_sum_of, [], []⟩
def d_least : He.DefD := ⟨("least", none), "least", "least", defArgs s_least, defBody s_least, defScope s_least, [], []⟩
def d_is_measure : He.DefD := ⟨("is_measure", none), "is_measure", "is_measure", defArgs s_is_measure, defBody s_is_measure, defScope s_is_measure, [], []⟩
def d_is_prop : He.DefD := ⟨("is_prop", none), "is_prop", "is_prop", defArgs s_is_prop, defBody s_is_prop, defScope s_is_prop, [], []⟩
def d_are_props : He.DefD := ⟨("are_props", none), "are_props", "are_props", defArgs s_are_props, defBody s_are_props, defScope s_are_props, [], []⟩
def d_Plank_init : He.DefD := ⟨("Plank", some "__init__"), "__init__", "Plank.__init__", defArgs s_Plank_init, defBody s_Plank_init, defScope s_Plank_init, [], [("bend", .non)]⟩
def d_Plank_length : He.DefD := ⟨("Plank", some "length"), "length", "Plank.length", defArgs s_Plank_length, defBody s_Plank_length, defScope s_Plank_length, [], []⟩
def d_Plank_props : He.DefD := ⟨("Plank", some "props"), "props", "Plank.props", defArgs s_Plank_props, defBody s_Plank_props, defScope s_Plank_props, [], []⟩
def d_Plank_count : He.DefD := ⟨("Plank", some "count"), "count", "Plank.count", defArgs s_Plank_count, defBody s_Plank_count, defScope s_Plank_count, [], []⟩
def d_Plank_place_of : He.DefD := ⟨("Plank", some "place_of"), "place_of", "Plank.place_of", defArgs s_Plank_place_of, defBody s_Plank_place_of, defScope s_Plank_place_of, [], []⟩
def d_is_lot : He.DefD := ⟨("is_lot", none), "is_lot", "is_lot", defArgs s_is_lot, defBody s_is_lot, defScope s_is_lot, [], []⟩
def d_lot_of : He.DefD := ⟨("lot_of", none), "lot_of", "lot_of", defArgs s_lot_of, defBody s_lot_of, defScope s_lot_of, [], []⟩
def d_check_prop : He.DefD := ⟨("check_prop", none), "check_prop", "check_prop", defArgs s_check_prop, defBody s_check_prop, defScope s_check_prop, [], []⟩
def d_rests_of : He.DefD := ⟨("rests_of", none), "rests_of", "rests_of", defArgs s_rests_of, defBody s_rests_of, defScope s_rests_of, [], []⟩
def d_is_spot : He.DefD := ⟨("is_spot", none), "is_spot", "is_spot", defArgs s_is_spot, defBody s_is_spot, defScope s_is_spot, [], []⟩
def d_check_spot : He.DefD := ⟨("check_spot", none), "check_spot", "check_spot", defArgs s_check_spot, defBody s_check_spot, defScope s_check_spot, [], []⟩
def d_is_weight : He.DefD := ⟨("is_weight", none), "is_weight", "is_weight", defArgs s_is_weight, defBody s_is_weight, defScope s_is_weight, [], []⟩
def d_check_weights : He.DefD := ⟨("check_weights", none), "check_weights", "check_weights", defArgs s_check_weights, defBody s_check_weights, defScope s_check_weights, [], []⟩
def d_slope : He.DefD := ⟨("slope", none), "slope", "slope", defArgs s_slope, defBody s_slope, defScope s_slope, [], []⟩
def d_Loads_init : He.DefD := ⟨("Loads", some "__init__"), "__init__", "Loads.__init__", defArgs s_Loads_init, defBody s_Loads_init, defScope s_Loads_init, [], []⟩
def d_Loads_share : He.DefD := ⟨("Loads", some "share"), "share", "Loads.share", defArgs s_Loads_share, defBody s_Loads_share, defScope s_Loads_share, [], []⟩
def d_Loads_lies_on : He.DefD := ⟨("Loads", some "lies_on"), "lies_on", "Loads.lies_on", defArgs s_Loads_lies_on, defBody s_Loads_lies_on, defScope s_Loads_lies_on, [], []⟩
def d_Loads_is_overlaid : He.DefD := ⟨("Loads", some "is_overlaid"), "is_overlaid", "Loads.is_overlaid", defArgs s_Loads_is_overlaid, defBody s_Loads_is_overlaid, defScope s_Loads_is_overlaid, [], []⟩
def d_loads_of : He.DefD := ⟨("loads_of", none), "loads_of", "loads_of", defArgs s_loads_of, defBody s_loads_of, defScope s_loads_of, [], []⟩
def d_overlaid_between : He.DefD := ⟨("overlaid_between", none), "overlaid_between", "overlaid_between", defArgs s_overlaid_between, defBody s_overlaid_between, defScope s_overlaid_between, [], []⟩
def d_without : He.DefD := ⟨("without", none), "without", "without", defArgs s_without, defBody s_without, defScope s_without, [], []⟩
def d_settled_between : He.DefD := ⟨("settled_between", none), "settled_between", "settled_between", defArgs s_settled_between, defBody s_settled_between, defScope s_settled_between, [], []⟩
def d_settled : He.DefD := ⟨("settled", none), "settled", "settled", defArgs s_settled, defBody s_settled, defScope s_settled, [], []⟩
def d_overlaid : He.DefD := ⟨("overlaid", none), "overlaid", "overlaid", defArgs s_overlaid, defBody s_overlaid, defScope s_overlaid, [], []⟩
def d_are_unlike_props : He.DefD := ⟨("are_unlike_props", none), "are_unlike_props", "are_unlike_props", defArgs s_are_unlike_props, defBody s_are_unlike_props, defScope s_are_unlike_props, [], []⟩
def d_with_sides : He.DefD := ⟨("with_sides", none), "with_sides", "with_sides", defArgs s_with_sides, defBody s_with_sides, defScope s_with_sides, [], []⟩
def d_spare_at : He.DefD := ⟨("spare_at", none), "spare_at", "spare_at", defArgs s_spare_at, defBody s_spare_at, defScope s_spare_at, [], []⟩
def d_going : He.DefD := ⟨("going", none), "going", "going", defArgs s_going, defBody s_going, defScope s_going, [], []⟩
def d_most_at : He.DefD := ⟨("most_at", none), "most_at", "most_at", defArgs s_most_at, defBody s_most_at, defScope s_most_at, [], []⟩
def d_falls_of : He.DefD := ⟨("falls_of", none), "falls_of", "falls_of", defArgs s_falls_of, defBody s_falls_of, defScope s_falls_of, [], []⟩
def d_further : He.DefD := ⟨("further", none), "further", "further", defArgs s_further, defBody s_further, defScope s_further, [], []⟩
def d_goes_so : He.DefD := ⟨("goes_so", none), "goes_so", "goes_so", defArgs s_goes_so, defBody s_goes_so, defScope s_goes_so, [], []⟩
def d_is_part : He.DefD := ⟨("is_part", none), "is_part", "is_part", defArgs s_is_part, defBody s_is_part, defScope s_is_part, [], []⟩
def d_is_further : He.DefD := ⟨("is_further", none), "is_further", "is_further", defArgs s_is_further, defBody s_is_further, defScope s_is_further, [], []⟩
def d_felled : He.DefD := ⟨("felled", none), "felled", "felled", defArgs s_felled, defBody s_felled, defScope s_felled, [], []⟩
def d_law_cell : He.DefD := ⟨("_law_cell", none), "_law_cell", "_law_cell", defArgs s_law_cell, defBody s_law_cell, defScope s_law_cell, [], []⟩
def d_law_digits : He.DefD := ⟨("_law_digits", none), "_law_digits", "_law_digits", defArgs s_law_digits, defBody s_law_digits, defScope s_law_digits, [], []⟩
def d_law_cut : He.DefD := ⟨("_law_cut", none), "_law_cut", "_law_cut", defArgs s_law_cut, defBody s_law_cut, defScope s_law_cut, [], []⟩
def d_law_plus : He.DefD := ⟨("_law_plus", none), "_law_plus", "_law_plus", defArgs s_law_plus, defBody s_law_plus, defScope s_law_plus, [], []⟩
def d_law_minus : He.DefD := ⟨("_law_minus", none), "_law_minus", "_law_minus", defArgs s_law_minus, defBody s_law_minus, defScope s_law_minus, [], []⟩
def d_law_by : He.DefD := ⟨("_law_by", none), "_law_by", "_law_by", defArgs s_law_by, defBody s_law_by, defScope s_law_by, [], []⟩
def d_law_part_of : He.DefD := ⟨("_law_part_of", none), "_law_part_of", "_law_part_of", defArgs s_law_part_of, defBody s_law_part_of, defScope s_law_part_of, [], []⟩
def d_law_is_below : He.DefD := ⟨("_law_is_below", none), "_law_is_below", "_law_is_below", defArgs s_law_is_below, defBody s_law_is_below, defScope s_law_is_below, [], []⟩
def d_law_share : He.DefD := ⟨("_law_share", none), "_law_share", "_law_share", defArgs s_law_share, defBody s_law_share, defScope s_law_share, [], []⟩
def d_law_load : He.DefD := ⟨("_law_load", none), "_law_load", "_law_load", defArgs s_law_load, defBody s_law_load, defScope s_law_load, [], []⟩
def d_law_keys : He.DefD := ⟨("_law_keys", none), "_law_keys", "_law_keys", defArgs s_law_keys, defBody s_law_keys, defScope s_law_keys, [], []⟩
def d_law_heavy : He.DefD := ⟨("_law_heavy", none), "_law_heavy", "_law_heavy", defArgs s_law_heavy, defBody s_law_heavy, defScope s_law_heavy, [], []⟩
def d_law_world : He.DefD := ⟨("_law_world", none), "_law_world", "_law_world", defArgs s_law_world, defBody s_law_world, defScope s_law_world, [], []⟩
def d_law_made : He.DefD := ⟨("_law_made", none), "_law_made", "_law_made", defArgs s_law_made, defBody s_law_made, defScope s_law_made, [], []⟩
def d_law_spares : He.DefD := ⟨("_law_spares", none), "_law_spares", "_law_spares", defArgs s_law_spares, defBody s_law_spares, defScope s_law_spares, [], []⟩
def d_law_greatest : He.DefD := ⟨("_law_greatest", none), "_law_greatest", "_law_greatest", defArgs s_law_greatest, defBody s_law_greatest, defScope s_law_greatest, [], []⟩
def d_law_left : He.DefD := ⟨("_law_left", none), "_law_left", "_law_left", defArgs s_law_left, defBody s_law_left, defScope s_law_left, [], []⟩
def d_law_rising : He.DefD := ⟨("_law_rising", none), "_law_rising", "_law_rising", defArgs s_law_rising, defBody s_law_rising, defScope s_law_rising, [], []⟩
def d_law_amid : He.DefD := ⟨("_law_amid", none), "_law_amid", "_law_amid", defArgs s_law_amid, defBody s_law_amid, defScope s_law_amid, [], []⟩
def d_law_fine : He.DefD := ⟨("_law_fine", none), "_law_fine", "_law_fine", defArgs s_law_fine, defBody s_law_fine, defScope s_law_fine, [], []⟩
def d_law_row : He.DefD := ⟨("_law_row", none), "_law_row", "_law_row", defArgs s_law_row, defBody s_law_row, defScope s_law_row, [], []⟩
def d_law_due : He.DefD := ⟨("_law_due", none), "_law_due", "_law_due", defArgs s_law_due, defBody s_law_due, defScope s_law_due, [], []⟩
def d_law_right : He.DefD := ⟨("_law_right", none), "_law_right", "_law_right", defArgs s_law_right, defBody s_law_right, defScope s_law_right, [], []⟩
def d_law_bare_right : He.DefD := ⟨("_law_bare_right", none), "_law_bare_right", "_law_bare_right", defArgs s_law_bare_right, defBody s_law_bare_right, defScope s_law_bare_right, [], []⟩
def d_law : He.DefD := ⟨("law", none), "law", "law", defArgs s_law, defBody s_law, defScope s_law, [], []⟩
def fns0 : List He.DefD := [d_is_whole, d_divisor, d_cut, d_is_fraction, d_whole, d_plus, d_less, d_times, d_over, d_is_below, d_sum_of, d_least, d_is_measure, d_is_prop, d_are_props, d_Plank_init, d_Plank_length, d_Plank_props, d_Plank_count, d_Plank_place_of, d_is_lot, d_lot_of, d_check_prop, d_rests_of, d_is_spot, d_check_spot, d_is_weight, d_check_weights, d_slope, d_Loads_init]
def fns1 : List He.DefD := [d_Loads_share, d_Loads_lies_on, d_Loads_is_overlaid, d_loads_of, d_overlaid_between, d_without, d_settled_between, d_settled, d_overlaid, d_are_unlike_props, d_with_sides, d_spare_at, d_going, d_most_at, d_falls_of, d_further, d_goes_so, d_is_part, d_is_further, d_felled, d_law_cell, d_law_digits, d_law_cut, d_law_plus, d_law_minus, d_law_by, d_law_part_of, d_law_is_below, d_law_share, d_law_load]
def fns2 : List He.DefD := [d_law_keys, d_law_heavy, d_law_world, d_law_made, d_law_spares, d_law_greatest, d_law_left, d_law_rising, d_law_amid, d_law_fine, d_law_row, d_law_due, d_law_right, d_law_bare_right, d_law]
def fns : List He.DefD := fns0 ++ fns1 ++ fns2
def cCls : List (Str × List Str) := [("Plank", ["long", "stakes", "limit"]), ("Loads", ["plank", "weights", "known", "over"])]
def cInts : List (Str × Int) := [("MOST_LENGTH", 1000), ("MOST_PROPS", 12), ("LEFT_WALL", -1)]
def cTups : List (Str × List V) := [("NOUGHT", [.int 0, .int 1]), ("ONE", [.int 1, .int 1])]
def cFrees : List Str := ["abs", "all", "any", "bool", "dict", "enumerate", "int", "isinstance", "len", "list", "max", "min", "range", "set", "sorted", "sum", "tuple", "zip"]
def loose0 : List Str := ["_wall", "FallError", "NoPlank", "NoWeights", "NoPlace", "NoLot", "NoProp", "NoRest", "NOUGHT", "ONE", "is_whole", "divisor", "cut", "is_fraction", "whole", "plus", "less", "times", "over", "is_below", "sum_of", "least", "MOST_LENGTH", "MOST_PROPS", "LEFT_WALL", "is_measure", "is_prop", "are_props", "Plank", "is_lot"]
def loose1 : List Str := ["lot_of", "check_prop", "rests_of", "is_spot", "check_spot", "is_weight", "check_weights", "slope", "Loads", "loads_of", "overlaid_between", "without", "settled_between", "settled", "overlaid", "are_unlike_props", "with_sides", "spare_at", "going", "most_at", "falls_of", "further", "goes_so", "is_part", "is_further", "felled", "_law_cell", "_law_digits", "_law_cut", "_law_plus"]
def loose2 : List Str := ["_law_minus", "_law_by", "_law_part_of", "_law_is_below", "_law_share", "_law_load", "_law_keys", "_law_heavy", "_law_world", "_law_made", "_law_spares", "_law_greatest", "_law_left", "_law_rising", "_law_amid", "_law_fine", "_law_row", "_law_due", "_law_right", "_law_bare_right"]
def loose : List Str := loose0 ++ loose1 ++ loose2
end Pf
end

section
/-! The head: what stands behind the top, each def looked up once. -/
namespace Pf
open PySem PySem.Spec PyProof.Rows L2
def gaO (K : PySem.W.Frag) (x : Str) : Option Addr := match PySem.W.nsIn K mainGlobals x with
  | some (some (.ref a)) => some a
  | _ => none
def adO (K : PySem.W.Frag) (p : Str × Option Str) : Option Addr := match gaO K p.1 with
  | some c => (match p.2 with
    | some m => (match PySem.W.findIn K (.ref c) m with
      | some (some (.ref a)) => some a
      | _ => none)
    | none => some c)
  | none => none
def fnY (K : PySem.W.Frag) (d : He.DefD) : Bool × He.FnW := match adO K d.at_ with
  | some a => (match K.lookup a with
    | some ⟨_, _, .func fd, _⟩ => (PySem.W.isFn K (.ref a) && (PySem.W.codeIn K fd.code d.qual && (He.dflB K fd.defaults (d.dvs K) && He.kwdB K fd.kwdefaults (d.kws K))), some (fd.name, fd.qualname, fd.params, fd.body, fd.scope, fd.globals, fd.closure, fd.builtins))
    | _ => (false, none))
  | none => (false, none)
def clY (K : PySem.W.Frag) (q : Str × List Str) : Bool := match gaO K q.1 with
  | some c => PySem.W.plainGet K c Str.empty && (PySem.W.hasDictIn K c && (PySem.W.plainOver K c && (He.eqO (PySem.W.findIn K (.ref c) "__setattr__") (some (some (.builtin "object.__setattr__"))) && (PySem.W.makesIn K c && (PySem.W.keepIn K (.ref c) && q.2.all fun f => He.eqO (PySem.W.findIn K (.ref c) f) (some none))))))
  | none => false
def inY (K : PySem.W.Frag) (q : Str × Int) : Bool := match PySem.W.nsIn K mainGlobals q.1 with
  | some (some (.int j _)) => decide (j = q.2)
  | _ => false
def tuY (K : PySem.W.Frag) (q : Str × List V) : Bool := match gaO K q.1 with
  | some a => (match K.lookup a with
    | some ⟨.type c, _, .seq its _, _⟩ => decide (c = "tuple") && (decide (its.size ≤ sizeLine) && He.relAll q.2 its.toList)
    | _ => false)
  | none => false
def frY (K : PySem.W.Frag) (x : Str) : Bool := He.eqO (PySem.W.nsIn K mainGlobals x) (some none)
abbrev AlY : Type := List (Bool × He.FnW) × Bool
def obsK (K : PySem.W.Frag) : AlY := (fns.map (fnY K), cCls.all (clY K) && (cInts.all (inY K) && (cTups.all (tuY K) && cFrees.all (frY K))))
def lev (g : Addr → Option Obj) (as : List Addr) : List Addr := as.flatMap fun a => match g a with
  | some o => He.refsD o
  | none => []
def KY (g : Addr → Option Obj) : PySem.W.Frag := He.frG g ([mainGlobals] ++ lev g [mainGlobals] ++ lev g (lev g [mainGlobals]) ++ lev g (lev g (lev g [mainGlobals])) ++ lev g (lev g (lev g (lev g [mainGlobals]))))
def obsY (g : Addr → Option Obj) : AlY := obsK (KY g)
def valY : AlY := (fns.map fun d => (true, d.val), true)
def hkY : PySem.W.Hook where
  α := AlY
  obs := fun s => obsY s.heap.get?
  val := fun _ => valY
  says := fun _ h => ∃ K : PySem.W.Frag, K.In h ∧ obsK K = valY
  of := fun _ _ e => ⟨_, He.frG_in, e⟩
  keeps := fun _ _ _ ⟨K, hK, c⟩ k => ⟨K, PySem.W.Frag.In.keeps hK k, c⟩
abbrev R : PySem.W.OpenRow := PySem.W.OpenLaw.row PySem.Challenge.rw_propfall_k41_whole_all_further_weights_b
def ob (s : PySem.W.SharedT) : AlY := obsY (HandSHeadRun.getT s)
theorem ob_eq (s : PySem.W.SharedT) : ob s = hkY.obs s.abs := by
  have e : HandSHeadRun.getT s = s.abs.heap.get? := funext (HandSHeadRun.getT_eq s)
  show obsY (HandSHeadRun.getT s) = obsY s.abs.heap.get?
  rw [e]
theorem run (w : World) : HandSHeadRun.RunEq R (PySem.W.view R.prog [87]) hkY ob 6000 loose w := by
  intro os
  kernel_rfl
end Pf
end

section
/-! Words of our own over the hand layer. -/
namespace Pf
open PySem PySem.Spec PyProof.Rows L2

/-! ### a def of the top, its promise -/
/-- the def st stands at the module's name x -/
def Gd (K : PySem.W.Frag) (mg : Str → Option Value) (x : Str) (st : Stmt) : Prop := ∃ f fd, mg x = some (.ref f) ∧ FunD K x x (defArgs st) (defBody st) (defScope st) [] [] f fd
structure Df (P : Program) (w : World) (K : PySem.W.Frag) (mg : Str → Option Value) (base : Heap) (x : Str) (ps : List Str) (k : Nat) (sp : Sp) : Prop where
  ex : ∃ f fd, mg x = some (.ref f) ∧ PySem.W.keepIn K (.ref f) = true ∧ Binds K fd ps [] ∧ FnOk P w K mg base CX0 k f fd ps sp
section
variable {P : Program} {w : World} {K : PySem.W.Frag} {mg : Str → Option Value} {base : Heap}
theorem df_mk {x : Str} {st : Stmt} {N ps : List Str} {k : Nat} {sp : Sp} (G : Gd K mg x st) (S : FnScope N ps (defScope st)) (len : ∀ vs H Q E, sp vs H Q E → vs.length = ps.length)
    (hb : ∀ (kV doc pm : Value) (an : Option Addr) (cdv ct : Value) (us : List Value), us.length = ps.length → bindArgs (PySem.W.fnOf x x (defArgs st) (defBody st) (defScope st) .none kV doc pm an cdv ct) ⟨us, []⟩ = pure (ps.zip us))
    (hbody : ∀ (f : Addr) (cdv : Value) (A : Around) (outer : List Env) (s : Shared) (H : Hp) (vs : List V) (Q : VK) (E : XK), Room k (A.deeper (envOfC x (defScope st) s.heap.objs.size f cdv)) → sp vs H Q E →
      ∃ t, PSs (cxOf CX0 P w K mg base N x (defScope st) f cdv A outer s H E).nox (defBody st) t ∧ t { nx := fun _ H' => Q .non H', rt := Q } (start N vs) H) : Df P w K mg base x ps (k + 1) sp := by
  obtain ⟨f, fd, hm, F⟩ := G
  refine ⟨f, fd, hm, F.kp, F.bindsN hb, F.ok S len fun cdv A outer s H vs Q E hr h => ?_⟩
  obtain ⟨t, h1, h2⟩ := hbody f cdv A outer s H vs Q E hr h
  exact ⟨t, h1.nox, h2⟩
theorem Df.imp {x : Str} {ps : List Str} {k : Nat} {sp sp' : Sp} (D : Df P w K mg base x ps k sp) (h : ∀ vs H Q E, sp' vs H Q E → sp vs H Q E) : Df P w K mg base x ps k sp' := by
  obtain ⟨f, fd, h1, h2, h3, h4⟩ := D.ex
  exact ⟨f, fd, h1, h2, h3, h4.imp h⟩
end
section
variable {X : Cx} {x : Str} {ps : List Str} {k k' : Nat} {sp : Sp} {e : Expr} {es : List Expr} {t : TA} {p pos : Pos}
/-- a call of such a def -/
theorem pcall (D : Df X.prog X.w X.K X.mg X.base x ps k sp) (hr : Room k' X.A) (hk : k ≤ k') (hg : Gl X x) (ha : PA X (e :: es) t) (hdb : (x == ("__debug__" : Str)) = false := by decide)
    (he : starEach (e :: es) X.env = (false, eval e X.env) :: starEach es X.env := by rfl) (hpl : (backTo pos (starEach es X.env)).any (·.1) = false := by rfl) : PE X (.Call (.Name x p) (e :: es) [] pos) (tCall sp [] E0 t) := by
  obtain ⟨f, fd, h1, h2, h3, h4⟩ := D.ex
  exact pe_call h4 (hr.mono hk) hg h1 h2 h3 .nil pass0 ha hdb he hpl
theorem PE.imp {e : Expr} {t t' : TE} (h : PE X e t) (i : ∀ σ H Q, t' σ H Q → t σ H Q) : PE X e t' := ⟨fun pins s σ H Q I q => h.run pins s σ H Q I (i σ H Q q)⟩
theorem PT.imp {e : Expr} {t t' : TT} (h : PT X e t) (i : ∀ σ H Q, t' σ H Q → t σ H Q) : PT X e t' := ⟨fun pins s σ H Q I q => h.run pins s σ H Q I (i σ H Q q)⟩
end

/-! ### heaps -/
theorem same_new {H : Hp} {p : Addr} {o : HO} (h : H p = none) : Same H (upd H p o) := fun b x e => by
  rw [upd_ne (ne_of_none e h)]
  exact e
theorem rd_same {H H' : Hp} {a : Addr} {u : HO} (e : Same H H') (h : Rd H a u) : Rd H' a u := by
  rcases h with h | ⟨o, h⟩
  · exact .inl (e a _ h)
  · exact .inr ⟨o, e a _ h⟩
theorem sqt_same {K : PySem.W.Frag} {H H' : Hp} {a : Addr} {xs : List V} (e : Same H H') (h : SqT K H a xs) : SqT K H' a xs := by
  rcases h with h | h
  · exact .inl (rd_same e h)
  · exact .inr h

/-! ### fractions -/
/-- v is the fraction q: a tuple of its top and its bottom -/
def Fr (K : PySem.W.Frag) (H : Hp) (v : V) (q : Rat) : Prop := ∃ p, v = .ref p ∧ SqT K H p [.int q.num, .int (q.den : Int)]
theorem Fr.same {K : PySem.W.Frag} {H H' : Hp} {v : V} {q : Rat} (e : Same H H') (h : Fr K H v q) : Fr K H' v q := by
  obtain ⟨p, rfl, h⟩ := h
  exact ⟨p, rfl, sqt_same e h⟩
theorem Fr.new {K : PySem.W.Frag} {H : Hp} {p : Addr} {q : Rat} {a b : Int} (ha : a = q.num) (hb : b = (q.den : Int)) : Fr K (upd H p (.tup [.int a, .int b])) (.ref p) q := ⟨p, rfl, by subst ha hb; exact .inl (.inl upd_same)⟩
/-- top and bottom of at most n bits -/
def Sz (n : Nat) (q : Rat) : Prop := q.num.natAbs < 2 ^ n ∧ q.den < 2 ^ n
theorem pow_le {m n : Nat} (h : m ≤ n) : 2 ^ m ≤ 2 ^ n := Nat.pow_le_pow_right (by decide) h
theorem Sz.mono {m n : Nat} {q : Rat} (h : m ≤ n) (s : Sz m q) : Sz n q := ⟨Nat.lt_of_lt_of_le s.1 (pow_le h), Nat.lt_of_lt_of_le s.2 (pow_le h)⟩
theorem Sz.pos {n : Nat} {q : Rat} (s : Sz n q) : 0 < n := by
  rcases Nat.eq_zero_or_pos n with h | h
  · subst h
    have := s.2
    have := q.den_pos
    omega
  · exact h
/-- a top over a bottom, cut -/
theorem cut_num (t : Int) (b : Int) (hb : 0 < b) : ((t : Rat) / (b : Rat)).num = t / ((Nat.gcd t.natAbs b.natAbs : Nat) : Int) ∧ ((((t : Rat) / (b : Rat)).den : Nat) : Int) = b / ((Nat.gcd t.natAbs b.natAbs : Nat) : Int) := by
  obtain ⟨n, rfl⟩ : ∃ n : Nat, b = (n : Int) := ⟨b.toNat, by omega⟩
  have hn : n ≠ 0 := by omega
  have e : ((t : Rat) / (((n : Nat) : Int) : Rat)) = Rat.normalize t n hn := by
    rw [Rat.normalize_eq_mkRat, Rat.mkRat_eq_div]
    rfl
  rw [e, Rat.normalize_eq]
  refine ⟨rfl, ?_⟩
  show (((n / Nat.gcd t.natAbs n : Nat)) : Int) = _
  rw [Int.natAbs_natCast]
  exact Int.natCast_ediv _ _
theorem cut_sz {t b : Int} {n : Nat} (hb : 0 < b) (h1 : t.natAbs < 2 ^ n) (h2 : b.natAbs < 2 ^ n) : Sz n ((t : Rat) / (b : Rat)) := by
  obtain ⟨e1, e2⟩ := cut_num t b hb
  have g : 0 < Nat.gcd t.natAbs b.natAbs := Nat.gcd_pos_of_pos_right _ (by omega)
  constructor
  · rw [e1, Int.natAbs_ediv_of_dvd (Int.ofNat_dvd_left.mpr (Nat.gcd_dvd_left _ _)), Int.natAbs_natCast]
    exact Nat.lt_of_le_of_lt (Nat.div_le_self _ _) h1
  · have e3 : ((t : Rat) / (b : Rat)).den = b.natAbs / Nat.gcd t.natAbs b.natAbs := by
      have : (((((t : Rat) / (b : Rat)).den : Nat)) : Int) = ((b.natAbs / Nat.gcd t.natAbs b.natAbs : Nat) : Int) := by
        rw [e2, Int.natCast_ediv]
        congr 1
        omega
      omega
    rw [e3]
    exact Nat.lt_of_le_of_lt (Nat.div_le_self _ _) h2
theorem rat_eq (q : Rat) : q = (q.num : Rat) / (((q.den : Nat) : Int) : Rat) := by
  have := Rat.mkRat_self q
  rw [Rat.mkRat_eq_div] at this
  exact this.symm
end Pf
end

section
namespace Pf
open PySem PySem.Spec PyProof.Rows L2
/-! ### what the module's names are -/
structure Bt (mg : Str → Option Value) : Prop where
  abs : mg "abs" = none
  all_ : mg "all" = none
  any_ : mg "any" = none
  bool : mg "bool" = none
  dict : mg "dict" = none
  enumerate : mg "enumerate" = none
  int : mg "int" = none
  isinstance : mg "isinstance" = none
  len : mg "len" = none
  list_ : mg "list" = none
  max : mg "max" = none
  min : mg "min" = none
  range : mg "range" = none
  set_ : mg "set" = none
  sorted : mg "sorted" = none
  sum : mg "sum" = none
  tuple : mg "tuple" = none
  zip : mg "zip" = none
/-- the classes' and constants' addresses -/
structure Ad where
  no : Addr
  on : Addr
  P : Addr
  L : Addr
  Pi : Addr
  Li : Addr
structure Ct (K : PySem.W.Frag) (mg : Str → Option Value) (a : Ad) : Prop where
  NOUGHT : mg "NOUGHT" = some (.ref a.no)
  nought : ∀ H, SqT K H a.no [.int 0, .int 1]
  ONE : mg "ONE" = some (.ref a.on)
  one : ∀ H, SqT K H a.on [.int 1, .int 1]
  MOST_LENGTH : ∃ t, mg "MOST_LENGTH" = some (.int 1000 t)
  MOST_PROPS : ∃ t, mg "MOST_PROPS" = some (.int 12 t)
  LEFT_WALL : ∃ t, mg "LEFT_WALL" = some (.int (-1) t)
  gP : mg "Plank" = some (.ref a.P)
  clP : Cls K a.P
  mkP : Mk K a.P a.Pi
  nPl : NoAttr K a.P "long"
  nPs : NoAttr K a.P "stakes"
  nPm : NoAttr K a.P "limit"
  gL : mg "Loads" = some (.ref a.L)
  clL : Cls K a.L
  mkL : Mk K a.L a.Li
  nLp : NoAttr K a.L "plank"
  nLw : NoAttr K a.L "weights"
  nLk : NoAttr K a.L "known"
  nLo : NoAttr K a.L "over"

/-! ### methods -/
structure Mf (P : Program) (w : World) (K : PySem.W.Frag) (mg : Str → Option Value) (base : Heap) (C : Addr) (m : Str) (ps : List Str) (k : Nat) (sp : Sp) : Prop where
  ex : ∃ f fd, Meth K C m f ∧ Binds K fd ps [] ∧ FnOk P w K mg base CX0 k f fd ps sp
/-- the method st stands at the class C -/
def Md (K : PySem.W.Frag) (C : Addr) (m q : Str) (st : Stmt) : Prop := ∃ f fd, Meth K C m f ∧ FunD K m q (defArgs st) (defBody st) (defScope st) [] [] f fd
section
variable {P : Program} {w : World} {K : PySem.W.Frag} {mg : Str → Option Value} {base : Heap}
theorem mf_mk {C : Addr} {m q : Str} {st : Stmt} {N ps : List Str} {k : Nat} {sp : Sp} (G : Md K C m q st) (S : FnScope N ps (defScope st)) (len : ∀ vs H Q E, sp vs H Q E → vs.length = ps.length)
    (hb : ∀ (kV doc pm : Value) (an : Option Addr) (cdv ct : Value) (us : List Value), us.length = ps.length → bindArgs (PySem.W.fnOf m q (defArgs st) (defBody st) (defScope st) .none kV doc pm an cdv ct) ⟨us, []⟩ = pure (ps.zip us))
    (hbody : ∀ (f : Addr) (cdv : Value) (A : Around) (outer : List Env) (s : Shared) (H : Hp) (vs : List V) (Q : VK) (E : XK), Room k (A.deeper (envOfC q (defScope st) s.heap.objs.size f cdv)) → sp vs H Q E →
      ∃ t, PSs (cxOf CX0 P w K mg base N q (defScope st) f cdv A outer s H E).nox (defBody st) t ∧ t { nx := fun _ H' => Q .non H', rt := Q } (start N vs) H) : Mf P w K mg base C m ps (k + 1) sp := by
  obtain ⟨f, fd, hm, F⟩ := G
  refine ⟨f, fd, hm, F.bindsN hb, F.ok S len fun cdv A outer s H vs Q E hr h => ?_⟩
  obtain ⟨t, h1, h2⟩ := hbody f cdv A outer s H vs Q E hr h
  exact ⟨t, h1.nox, h2⟩
/-- an __init__: the values of what lacks at the call -/
structure If (P : Program) (w : World) (K : PySem.W.Frag) (mg : Str → Option Value) (base : Heap) (f : Addr) (ps : List Str) (dvs : List V) (k : Nat) (sp : Sp) : Prop where
  ex : ∃ fd ds, Vals dvs ds ∧ Binds K fd ps ds ∧ FnOk P w K mg base CX0 k f fd ps sp
end
section
variable {X : Cx} {C : Addr} {m x : Str} {ps : List Str} {k k' : Nat} {sp : Sp} {o e : Expr} {es : List Expr} {ta : TE} {t : TA} {p apos pos : Pos} {f : Addr} {dvs : List V}
theorem pmeth {pl : Sem Bool} (D : Mf X.prog X.w X.K X.mg X.base C m ps k sp) (c : Cls X.K C) (hr : Room k' X.A) (hk : k ≤ k') (he : PE X o ta) (ha : PA X (e :: es) t)
    (hst : starEach (e :: es) X.env = (false, eval e X.env) :: starEach es X.env := by rfl) (hpl : (backTo pos (starEach es X.env)).any (·.1) = false := by rfl)
    (ht : eval (.Call (.Attribute o m apos) (e :: es) [] pos) X.env = (do
      let ov ← eval o X.env
      standAt apos.atName
      let (f, first) ← holding [ov] (getMethod ov m pl)
      callWith pos f first (backTo pos (starEach (e :: es) X.env)) (backToKw pos (keywordEach [] X.env))) := by rfl) :
    PE X (.Call (.Attribute o m apos) (e :: es) [] pos) (tMeth C m sp [] E0 ta t) := by
  obtain ⟨f, fd, h1, h2, h3⟩ := D.ex
  exact pe_meth he c h1 h3 (hr.mono hk) h2 .nil pass0 ha hst hpl ht
theorem pmeth0 {pl : Sem Bool} (D : Mf X.prog X.w X.K X.mg X.base C m ps k sp) (c : Cls X.K C) (hr : Room k' X.A) (hk : k ≤ k') (he : PE X o ta)
    (ht : eval (.Call (.Attribute o m apos) [] [] pos) X.env = (do
      let ov ← eval o X.env
      standAt apos.atName
      let (f, first) ← holding [ov] (getMethod ov m pl)
      callWith pos f first (backTo pos (starEach [] X.env)) (backToKw pos (keywordEach [] X.env))) := by rfl) :
    PE X (.Call (.Attribute o m apos) [] [] pos) (tMeth C m sp [] E0 ta tNil) := by
  obtain ⟨f, fd, h1, h2, h3⟩ := D.ex
  exact pe_meth0 he c h1 h3 (hr.mono hk) h2 .nil pass0 ht
theorem pmake (D : If X.prog X.w X.K X.mg X.base f ps dvs k sp) (M : Mk X.K C f) (hr : Room k' X.A) (hk : k + 1 ≤ k') (hg : Gl X x) (hm : X.mg x = some (.ref C)) (ha : PA X (e :: es) t) (hdb : (x == ("__debug__" : Str)) = false := by decide)
    (he : starEach (e :: es) X.env = (false, eval e X.env) :: starEach es X.env := by rfl) (hpl : (backTo pos (starEach es X.env)).any (·.1) = false := by rfl) :
    PE X (.Call (.Name x p) (e :: es) [] pos) (tMake C sp dvs E0 t) := by
  obtain ⟨fd, ds, h1, h2, h3⟩ := D.ex
  exact pe_make M h3 (hr.mono hk) hg hm h2 h1 pass0 ha hdb he hpl
/-- a module's whole number -/
theorem pe_gint {i : Int} {pos : Pos} (hg : Gl X x) (hm : ∃ t, X.mg x = some (.int i t)) (hd : (x == ("__debug__" : Str)) = false := by decide) : PE X (.Name x pos) (tC (.int i)) := by
  obtain ⟨t, h⟩ := hm
  exact pe_glob hg h ⟨_, rfl⟩ hd
end
theorem _root_.L2.Room.units65 {k : Nat} {A : Around} (r : Room k A) : A.units + 65 < cLine := by have := r.un; omega
section
variable {X : Cx}
/-- y = [..] -/
theorem ps_setLcX {i : Nat} {y : Str} {py : Pos} {elt tg iter : Expr} {ifs : List Expr} {scope : Scope} {own : List (Str × Nat)} {pos spos : Pos} {wi : TI} {g : TG} {tt : TT} {te : TE} (hc : X.calm = true) (hN : X.N.Nodup) (hy : X.N[i]? = some y)
    (hi : PI X tg iter wi) (ok : BlkOk X.N X.env.scope scope own)
    (hg : ∀ (s : Shared) (H : Hp) (C : Addr) (cl : List (Str × Addr)) (fp : List Addr), PG (X.blk s H scope (compEnvC scope cl C X.env) fp) tg g) (ht : ∀ (s : Shared) (H : Hp) (C : Addr) (cl : List (Str × Addr)) (fp : List Addr), PTs (X.blk s H scope (compEnvC scope cl C X.env) fp) ifs tt)
    (he : ∀ (s : Shared) (H : Hp) (C : Addr) (cl : List (Str × Addr)) (fp : List Addr), PE (X.blk s H scope (compEnvC scope cl C X.env) fp) elt te) (hyl : X.env.scope.names.lookup y = some .local := by rfl)
    (hk : X.env.scope.kind = .function := by rfl) (hl : (py.line == pos.line) = true := by rfl) (ha : (scope.names.any fun (n, k) => n == y && (k == .local || k == .cell)) = false := by decide +kernel) (hs : ∀ x, foldedSetIterable iter X.env x = pure x := by intro _; rfl) :
    PS X (.Assign [.Name y py] (.ListComp elt [⟨tg, iter, ifs, 0⟩] scope pos) spos) (tAsg (tLc wi g tt te (own.map (·.2))) (gName i)) :=
  ps_setLc hc hN hy hyl (sw_true hk hyl hl ha) hi ok hg ht he hs
end
end Pf
end

section
/-! Sums, differences, products, quotients of fractions as the program reckons them; their sizes. -/
namespace Pf
open PySem PySem.Spec PyProof.Rows L2
theorem den_ne (a : Rat) : ((((a.den : Nat) : Int)) : Rat) ≠ 0 := by
  intro h
  have : ((a.den : Nat) : Int) = 0 := Rat.intCast_inj.mp (by simpa using h)
  have := a.den_pos
  omega
theorem div_num_den (a : Rat) : (a.num : Rat) = a * (((a.den : Nat) : Int) : Rat) := by
  have h := rat_eq a
  have d := den_ne a
  have : (a.num : Rat) / (((a.den : Nat) : Int) : Rat) * (((a.den : Nat) : Int) : Rat) = a.num := Rat.div_mul_cancel d
  grind
theorem q_mk {t b : Int} {q : Rat} (hb : b ≠ 0) (h : (t : Rat) = q * (b : Rat)) : (t : Rat) / (b : Rat) = q := by
  have : (b : Rat) ≠ 0 := by
    intro z
    exact hb (Rat.intCast_inj.mp (by simpa using z))
  rw [h, Rat.div_def, Rat.mul_assoc, Rat.mul_inv_cancel _ this, Rat.mul_one]
theorem mul_den_ne (a b : Rat) : ((a.den : Nat) : Int) * ((b.den : Nat) : Int) ≠ 0 := by
  have h1 := a.den_pos
  have h2 := b.den_pos
  have := Int.mul_pos (show (0 : Int) < ((a.den : Nat) : Int) by omega) (show (0 : Int) < ((b.den : Nat) : Int) by omega)
  omega
theorem mul_den_pos (a b : Rat) : 0 < ((a.den : Nat) : Int) * ((b.den : Nat) : Int) := by
  have h1 := a.den_pos
  have h2 := b.den_pos
  exact Int.mul_pos (by omega) (by omega)
theorem q_add (a b : Rat) : ((a.num * ((b.den : Nat) : Int) + b.num * ((a.den : Nat) : Int) : Int) : Rat) / ((((a.den : Nat) : Int) * ((b.den : Nat) : Int) : Int) : Rat) = a + b := by
  refine q_mk (mul_den_ne a b) ?_
  rw [Rat.intCast_add, Rat.intCast_mul, Rat.intCast_mul, Rat.intCast_mul, div_num_den a, div_num_den b]
  grind
theorem q_sub (a b : Rat) : ((a.num * ((b.den : Nat) : Int) - b.num * ((a.den : Nat) : Int) : Int) : Rat) / ((((a.den : Nat) : Int) * ((b.den : Nat) : Int) : Int) : Rat) = a - b := by
  refine q_mk (mul_den_ne a b) ?_
  rw [Rat.intCast_sub, Rat.intCast_mul, Rat.intCast_mul, Rat.intCast_mul, div_num_den a, div_num_den b]
  grind
theorem q_mul (a b : Rat) : ((a.num * b.num : Int) : Rat) / ((((a.den : Nat) : Int) * ((b.den : Nat) : Int) : Int) : Rat) = a * b := by
  refine q_mk (mul_den_ne a b) ?_
  rw [Rat.intCast_mul, Rat.intCast_mul, div_num_den a, div_num_den b]
  grind
theorem num_pos {b : Rat} (h : 0 < b) : 0 < b.num := by
  have := (Rat.lt_iff 0 b).mp h
  simpa using this
theorem num_neg {b : Rat} : b.num < 0 ↔ b < 0 := by
  have := Rat.lt_iff b 0
  simp at this
  exact this.symm
theorem num_nonneg {b : Rat} : 0 ≤ b.num ↔ 0 ≤ b := by
  constructor
  · intro h
    exact Rat.not_lt.mp fun z => absurd (num_neg.mpr z) (by omega)
  · intro h
    rcases (by omega : b.num < 0 ∨ 0 ≤ b.num) with z | z
    · exact absurd (num_neg.mp z) (Rat.not_lt.mpr h)
    · exact z
theorem num_zero {b : Rat} : b.num = 0 ↔ b = 0 := Rat.num_eq_zero
theorem num_pos_iff {b : Rat} : 0 < b.num ↔ 0 < b := by
  constructor
  · intro h
    exact Rat.not_le.mp fun z => by
      rcases rlt_or_eq z with y | y
      · have := num_neg.mpr y; omega
      · rw [y] at h; exact absurd h (by decide)
  · exact num_pos
theorem q_div {a b : Rat} (h : 0 < b) : ((a.num * ((b.den : Nat) : Int) : Int) : Rat) / ((((a.den : Nat) : Int) * b.num : Int) : Rat) = a / b := by
  have hb := num_pos h
  have ha := a.den_pos
  have p : 0 < ((a.den : Nat) : Int) * b.num := Int.mul_pos (by omega) hb
  refine q_mk (by omega) ?_
  have nb : b ≠ 0 := by grind
  rw [Rat.intCast_mul, Rat.intCast_mul, div_num_den a, div_num_den b]
  have : a / b * b = a := Rat.div_mul_cancel nb
  grind
theorem div_den_pos {a b : Rat} (h : 0 < b) : 0 < ((a.den : Nat) : Int) * b.num := by
  have hb := num_pos h
  have ha := a.den_pos
  exact Int.mul_pos (by omega) hb
theorem lt_num (a b : Rat) : a < b ↔ a.num * ((b.den : Nat) : Int) < b.num * ((a.den : Nat) : Int) := Rat.lt_iff a b
/-! sizes -/
theorem Sz.num {n : Nat} {q : Rat} (s : Sz n q) : q.num.natAbs < 2 ^ n := s.1
theorem Sz.den {n : Nat} {q : Rat} (s : Sz n q) : (((q.den : Nat) : Int)).natAbs < 2 ^ n := by rw [Int.natAbs_natCast]; exact s.2
theorem add_lt_pow {a b : Int} {n : Nat} (ha : a.natAbs < 2 ^ n) (hb : b.natAbs < 2 ^ n) : (a + b).natAbs < 2 ^ (n + 1) := by
  rw [Nat.pow_succ]; omega
theorem sub_lt_pow {a b : Int} {n : Nat} (ha : a.natAbs < 2 ^ n) (hb : b.natAbs < 2 ^ n) : (a - b).natAbs < 2 ^ (n + 1) := by
  rw [Nat.pow_succ]; omega
theorem pow_up {a : Int} {m n : Nat} (h : m ≤ n) (ha : a.natAbs < 2 ^ m) : a.natAbs < 2 ^ n := Nat.lt_of_lt_of_le ha (pow_le h)
theorem Sz.add {m n : Nat} {a b : Rat} (ha : Sz m a) (hb : Sz n b) : Sz (m + n + 1) (a + b) := by
  rw [← q_add]
  refine cut_sz (mul_den_pos a b) (add_lt_pow (wide_lt ha.num hb.den) ?_) (pow_up (Nat.le_succ _) (wide_lt ha.den hb.den))
  rw [Nat.add_comm]
  exact wide_lt hb.num ha.den
theorem Sz.sub {m n : Nat} {a b : Rat} (ha : Sz m a) (hb : Sz n b) : Sz (m + n + 1) (a - b) := by
  rw [← q_sub]
  refine cut_sz (mul_den_pos a b) (sub_lt_pow (wide_lt ha.num hb.den) ?_) (pow_up (Nat.le_succ _) (wide_lt ha.den hb.den))
  rw [Nat.add_comm]
  exact wide_lt hb.num ha.den
theorem Sz.mul {m n : Nat} {a b : Rat} (ha : Sz m a) (hb : Sz n b) : Sz (m + n) (a * b) := by
  rw [← q_mul]
  exact cut_sz (mul_den_pos a b) (wide_lt ha.num hb.num) (wide_lt ha.den hb.den)
theorem Sz.div {m n : Nat} {a b : Rat} (ha : Sz m a) (hb : Sz n b) (h : 0 < b) : Sz (m + n) (a / b) := by
  rw [← q_div h]
  exact cut_sz (div_den_pos h) (wide_lt ha.num hb.den) (wide_lt ha.den hb.num)
theorem Sz.int {n : Nat} {i : Int} (h : i.natAbs < 2 ^ n) (h0 : 0 < n) : Sz n (i : Rat) := by
  refine ⟨h, ?_⟩
  have : ((i : Rat)).den = 1 := rfl
  rw [this]
  exact Nat.one_lt_two_pow (by omega)
theorem int_num (i : Int) : ((i : Rat)).num = i := rfl
theorem int_den (i : Int) : ((((i : Rat)).den : Nat) : Int) = 1 := rfl
end Pf
end

section
namespace Pf
open PySem PySem.Spec PyProof.Rows L2
variable {P : Program} {w : World} {K : PySem.W.Frag} {mg : Str → Option Value} {base : Heap} {A : Ad}

/-! ### divisor -/
def spDivisor : Sp := fun vs H Q _ => ∃ a b : Nat, vs = [.int (a : Int), .int (b : Int)] ∧ Q (.int (Nat.gcd a b : Nat)) H
abbrev N_divisor : List Str := ["one", "other"]
theorem sc_divisor : FnScope N_divisor ["one", "other"] (defScope s_divisor) := ⟨rfl, rfl, rfl, by decide +kernel, rfl, by decide +kernel, by decide +kernel⟩
theorem ok_divisor (G : Gd K mg "divisor" s_divisor) : Df P w K mg base "divisor" ["one", "other"] 1 spDivisor := by
  refine df_mk G sc_divisor (fun vs H Q E h => by obtain ⟨a, b, rfl, _⟩ := h; rfl) (fun _ _ _ _ _ _ us hl => match us, hl with | [_, _], _ => rfl) (fun f cdv A outer s H vs Q E hr h => ?_)
  obtain ⟨a, b, rfl, q⟩ := h
  refine ⟨_, (pss_cons (ps_while PassesOwn.never (pt_cmpR op_ne (pv 1) pe_int (nomark _))
    (pss_one (ps_par (i := 0) (j := 1) (by rfl) sc_divisor.nd rfl rfl (by decide) rfl rfl (pa_cons (pv 1) (pa_cons (pe_op op_mod (pv 0) (pv 1)) pa_nil)) (by rfl))))
    (pss_one (ps_ret (pv 0)))), ?_⟩
  refine ⟨fun m σ H' => H' = H ∧ ∃ c d : Nat, σ = [some (.int (c : Int)), some (.int (d : Int))] ∧ Nat.gcd c d = Nat.gcd a b ∧ m = d, ⟨b, rfl, a, b, rfl, rfl, rfl⟩, fun m σ H' I => ?_⟩
  obtain ⟨rfl, c, d, rfl, e, rfl⟩ := I
  refine ⟨_, rfl, rfl, _, rfl, ?_⟩
  by_cases hd : m = 0
  · subst hd
    rw [Nat.gcd_zero_right] at e
    refine iteF ⟨_, rfl, ?_⟩
    rw [e]
    exact q
  · have ne : (!decide (V.int (m : Int) = V.int 0)) = true := by
      have : ¬ V.int (m : Int) = V.int 0 := fun z => hd (by have := V.int.inj z; omega)
      simp [this]
    rw [ne]
    refine iteT ⟨_, fun _ _ z => z, ?_⟩
    refine ⟨_, rfl, _, rfl, _, rfl, _, _, rfl, rfl, (by omega), _, _, rfl, c % m, ?_, rfl, m, c % m, ?_, ?_, rfl⟩
    · exact Nat.mod_lt _ (by omega)
    · show [some (V.int (m : Int)), some (V.int ((c : Int) % (m : Int)))] = _
      rw [Int.natCast_emod]
    · rw [Nat.gcd_comm m, ← Nat.gcd_rec, Nat.gcd_comm]
      exact e

/-! ### cut, and what is reckoned by it -/
def spCut (K : PySem.W.Frag) : Sp := fun vs H Q _ => ∃ t b : Int, vs = [.int t, .int b] ∧ 0 < b ∧ b.natAbs < 2 ^ 9000 ∧ ∀ H' v, Same H H' → Fr K H' v ((t : Rat) / (b : Rat)) → Q v H'
theorem gcd_facts {t b : Int} (hb : 0 < b) (h9 : b.natAbs < 2 ^ 9000) : CDivW t ((Nat.gcd t.natAbs b.natAbs : Nat) : Int) := by
  have g : 0 < Nat.gcd t.natAbs b.natAbs := Nat.gcd_pos_of_pos_right _ (by omega)
  have le : Nat.gcd t.natAbs b.natAbs ≤ b.natAbs := Nat.gcd_le_right _ (by omega)
  exact wide_div (b := 9000) (by omega) (by rw [Int.natAbs_natCast]; exact Nat.lt_of_le_of_lt le h9) (by decide) (by decide)
theorem abs_is (t : Int) : (if t < 0 then -t else t) = ((t.natAbs : Nat) : Int) := by
  split <;> omega
theorem cut_body {t b : Int} {H : Hp} {Q : VK} (hb : 0 < b) (q : ∀ H' v, Same H H' → Fr K H' v ((t : Rat) / (b : Rat)) → Q v H') (p : Addr) (hp : H p = none) :
    Q (.ref p) (upd H p (.tup [.int (t / ((Nat.gcd t.natAbs b.natAbs : Nat) : Int)), .int (b / ((Nat.gcd t.natAbs b.natAbs : Nat) : Int))])) := by
  obtain ⟨e1, e2⟩ := cut_num t b hb
  exact q _ _ (same_new hp) (Fr.new e1.symm e2.symm)
abbrev N_cut : List Str := ["top", "bottom", "common"]
theorem sc_cut : FnScope N_cut ["top", "bottom"] (defScope s_cut) := ⟨rfl, rfl, rfl, by decide +kernel, rfl, by decide +kernel, by decide +kernel⟩
theorem ok_cut (G : Gd K mg "cut" s_cut) (B : Bt mg) (D_divisor : Df P w K mg base "divisor" ["one", "other"] 1 spDivisor) : Df P w K mg base "cut" ["top", "bottom"] 2 (spCut K) := by
  refine df_mk G sc_cut (fun vs H Q E h => by obtain ⟨a, b, rfl, _⟩ := h; rfl) (fun _ _ _ _ _ _ us hl => match us, hl with | [_, _], _ => rfl) (fun f cdv A outer s H vs Q E hr h => ?_)
  obtain ⟨t, b, rfl, hb, h9, q⟩ := h
  refine ⟨_, (pss_cons (ps_set (i := 2) sc_cut.nd rfl (by first | exact Or.inl rfl | exact Or.inr rfl) (pcall D_divisor hr (by decide) (by rfl) (pa_cons (pe_callB call_abs (by rfl) B.abs (by decide +kernel) (pa_cons (pv 0) pa_nil)) (pa_cons (pv 1) pa_nil))))
    (pss_one (ps_ret (pe_tup (pa_cons (pe_op op_fdivW (pv 0) (pv 2)) (pa_cons (pe_op op_fdivW (pv 1) (pv 2)) pa_nil)))))), ?_⟩
  have eb : b = ((b.natAbs : Nat) : Int) := by omega
  refine ⟨_, rfl, _, rfl, _, rfl, t.natAbs, b.natAbs, (by rw [abs_is, ← eb] <;> rfl), ?_⟩
  have c1 : CDivW t ((Nat.gcd t.natAbs b.natAbs : Nat) : Int) := gcd_facts hb h9
  exact ⟨_, rfl, _, rfl, _, _, rfl, rfl, c1, _, rfl, _, rfl, _, _, rfl, rfl, c1, by show 2 ≤ sizeLine; decide, cut_body hb q⟩
/-- two fractions in, one out -/
def sp2 (K : PySem.W.Frag) (f : Rat → Rat → Rat) (pre : Rat → Rat → Prop) : Sp := fun vs H Q _ => ∃ x y a b, vs = [x, y] ∧ Fr K H x a ∧ Fr K H y b ∧ (∃ m n, Sz m a ∧ Sz n b ∧ m + n ≤ 8990) ∧ pre a b ∧ ∀ H' v, Same H H' → Fr K H' v (f a b) → Q v H'
abbrev any2 : Rat → Rat → Prop := fun _ _ => True
theorem mulW {i j : Int} {m n : Nat} (h1 : i.natAbs < 2 ^ m) (h2 : j.natAbs < 2 ^ n) (h : m + n ≤ 8990) : CMulW i j :=
  wide_mul (a := m + 1) (b := n + 1) (pow_up (Nat.le_succ _) h1) (pow_up (Nat.le_succ _) h2) (Nat.succ_pos _) (Nat.succ_pos _) (by omega)
theorem den9 {a b : Int} {m n : Nat} (ha : a.natAbs < 2 ^ m) (hb : b.natAbs < 2 ^ n) (h : m + n ≤ 8990) : (a * b).natAbs < 2 ^ 9000 := pow_up (by omega) (wide_lt ha hb)
abbrev N_plus : List Str := ["one", "other"]
theorem sc_plus : FnScope N_plus ["one", "other"] (defScope s_plus) := ⟨rfl, rfl, rfl, by decide +kernel, rfl, by decide +kernel, by decide +kernel⟩
theorem ok_plus (G : Gd K mg "plus" s_plus) (D_cut : Df P w K mg base "cut" ["top", "bottom"] 2 (spCut K)) : Df P w K mg base "plus" ["one", "other"] 3 (sp2 K (· + ·) any2) := by
  refine df_mk G sc_plus (fun vs H Q E h => by obtain ⟨x, y, a, b, rfl, _⟩ := h; rfl) (fun _ _ _ _ _ _ us hl => match us, hl with | [_, _], _ => rfl) (fun f cdv A outer s H vs Q E hr h => ?_)
  obtain ⟨x, y, a, b, rfl, ⟨p, rfl, h1⟩, ⟨p', rfl, h2⟩, ⟨m, n, s1, s2, hs⟩, _, q⟩ := h
  refine ⟨_, (pss_one (ps_ret (pcall D_cut hr (by decide) (by rfl) (pa_cons (pe_op op_add (pe_op op_mulW (pe_ix ix_tup (pv 0) pe_int (fun _ _ => rfl)) (pe_ix ix_tup (pv 1) pe_int (fun _ _ => rfl))) (pe_op op_mulW (pe_ix ix_tup (pv 1) pe_int (fun _ _ => rfl)) (pe_ix ix_tup (pv 0) pe_int (fun _ _ => rfl)))) (pa_cons (pe_op op_mulW (pe_ix ix_tup (pv 0) pe_int (fun _ _ => rfl)) (pe_ix ix_tup (pv 1) pe_int (fun _ _ => rfl))) pa_nil))))), ?_⟩
  have hs' : n + m ≤ 8990 := by omega
  refine ⟨_, rfl, _, _, _, _, rfl, rfl, h1, rfl, _, rfl, _, _, _, _, rfl, rfl, h2, rfl, _, _, rfl, rfl, mulW s1.num s2.den hs, _, rfl, _, _, _, _, rfl, rfl, h2, rfl, _, rfl, _, _, _, _, rfl, rfl, h1, rfl, _, _, rfl, rfl, mulW s2.num s1.den hs', _, _, rfl, rfl, _, rfl, _, _, _, _, rfl, rfl, h1, rfl, _, rfl, _, _, _, _, rfl, rfl, h2, rfl, _, _, rfl, rfl, mulW s1.den s2.den hs, _, _, rfl, mul_den_pos a b, den9 s1.den s2.den hs, ?_⟩
  rw [q_add]
  exact q
abbrev N_less : List Str := ["one", "other"]
theorem sc_less : FnScope N_less ["one", "other"] (defScope s_less) := ⟨rfl, rfl, rfl, by decide +kernel, rfl, by decide +kernel, by decide +kernel⟩
theorem ok_less (G : Gd K mg "less" s_less) (D_cut : Df P w K mg base "cut" ["top", "bottom"] 2 (spCut K)) : Df P w K mg base "less" ["one", "other"] 3 (sp2 K (· - ·) any2) := by
  refine df_mk G sc_less (fun vs H Q E h => by obtain ⟨x, y, a, b, rfl, _⟩ := h; rfl) (fun _ _ _ _ _ _ us hl => match us, hl with | [_, _], _ => rfl) (fun f cdv A outer s H vs Q E hr h => ?_)
  obtain ⟨x, y, a, b, rfl, ⟨p, rfl, h1⟩, ⟨p', rfl, h2⟩, ⟨m, n, s1, s2, hs⟩, _, q⟩ := h
  refine ⟨_, (pss_one (ps_ret (pcall D_cut hr (by decide) (by rfl) (pa_cons (pe_op op_sub (pe_op op_mulW (pe_ix ix_tup (pv 0) pe_int (fun _ _ => rfl)) (pe_ix ix_tup (pv 1) pe_int (fun _ _ => rfl))) (pe_op op_mulW (pe_ix ix_tup (pv 1) pe_int (fun _ _ => rfl)) (pe_ix ix_tup (pv 0) pe_int (fun _ _ => rfl)))) (pa_cons (pe_op op_mulW (pe_ix ix_tup (pv 0) pe_int (fun _ _ => rfl)) (pe_ix ix_tup (pv 1) pe_int (fun _ _ => rfl))) pa_nil))))), ?_⟩
  have hs' : n + m ≤ 8990 := by omega
  refine ⟨_, rfl, _, _, _, _, rfl, rfl, h1, rfl, _, rfl, _, _, _, _, rfl, rfl, h2, rfl, _, _, rfl, rfl, mulW s1.num s2.den hs, _, rfl, _, _, _, _, rfl, rfl, h2, rfl, _, rfl, _, _, _, _, rfl, rfl, h1, rfl, _, _, rfl, rfl, mulW s2.num s1.den hs', _, _, rfl, rfl, _, rfl, _, _, _, _, rfl, rfl, h1, rfl, _, rfl, _, _, _, _, rfl, rfl, h2, rfl, _, _, rfl, rfl, mulW s1.den s2.den hs, _, _, rfl, mul_den_pos a b, den9 s1.den s2.den hs, ?_⟩
  rw [q_sub]
  exact q
abbrev N_times : List Str := ["one", "other"]
theorem sc_times : FnScope N_times ["one", "other"] (defScope s_times) := ⟨rfl, rfl, rfl, by decide +kernel, rfl, by decide +kernel, by decide +kernel⟩
theorem ok_times (G : Gd K mg "times" s_times) (D_cut : Df P w K mg base "cut" ["top", "bottom"] 2 (spCut K)) : Df P w K mg base "times" ["one", "other"] 3 (sp2 K (· * ·) any2) := by
  refine df_mk G sc_times (fun vs H Q E h => by obtain ⟨x, y, a, b, rfl, _⟩ := h; rfl) (fun _ _ _ _ _ _ us hl => match us, hl with | [_, _], _ => rfl) (fun f cdv A outer s H vs Q E hr h => ?_)
  obtain ⟨x, y, a, b, rfl, ⟨p, rfl, h1⟩, ⟨p', rfl, h2⟩, ⟨m, n, s1, s2, hs⟩, _, q⟩ := h
  refine ⟨_, (pss_one (ps_ret (pcall D_cut hr (by decide) (by rfl) (pa_cons (pe_op op_mulW (pe_ix ix_tup (pv 0) pe_int (fun _ _ => rfl)) (pe_ix ix_tup (pv 1) pe_int (fun _ _ => rfl))) (pa_cons (pe_op op_mulW (pe_ix ix_tup (pv 0) pe_int (fun _ _ => rfl)) (pe_ix ix_tup (pv 1) pe_int (fun _ _ => rfl))) pa_nil))))), ?_⟩
  refine ⟨_, rfl, _, _, _, _, rfl, rfl, h1, rfl, _, rfl, _, _, _, _, rfl, rfl, h2, rfl, _, _, rfl, rfl, mulW s1.num s2.num hs, _, rfl, _, _, _, _, rfl, rfl, h1, rfl, _, rfl, _, _, _, _, rfl, rfl, h2, rfl, _, _, rfl, rfl, mulW s1.den s2.den hs, _, _, rfl, mul_den_pos a b, den9 s1.den s2.den hs, ?_⟩
  rw [q_mul]
  exact q
abbrev pos2 : Rat → Rat → Prop := fun _ b => 0 < b
abbrev N_over : List Str := ["one", "other"]
theorem sc_over : FnScope N_over ["one", "other"] (defScope s_over) := ⟨rfl, rfl, rfl, by decide +kernel, rfl, by decide +kernel, by decide +kernel⟩
theorem ok_over (G : Gd K mg "over" s_over) (D_cut : Df P w K mg base "cut" ["top", "bottom"] 2 (spCut K)) : Df P w K mg base "over" ["one", "other"] 3 (sp2 K (· / ·) pos2) := by
  refine df_mk G sc_over (fun vs H Q E h => by obtain ⟨x, y, a, b, rfl, _⟩ := h; rfl) (fun _ _ _ _ _ _ us hl => match us, hl with | [_, _], _ => rfl) (fun f cdv A outer s H vs Q E hr h => ?_)
  obtain ⟨x, y, a, b, rfl, ⟨p, rfl, h1⟩, ⟨p', rfl, h2⟩, ⟨m, n, s1, s2, hs⟩, hb, q⟩ := h
  refine ⟨_, (pss_cons (ps_if (pt_cmpR op_lt (pe_ix ix_tup (pv 1) pe_int (fun _ _ => rfl)) pe_int (nomark _))
    (pss_one (ps_ret (pcall D_cut hr (by decide) (by rfl) (pa_cons (pe_op op_mulW (pe_un un_neg (pe_ix ix_tup (pv 0) pe_int (fun _ _ => rfl))) (pe_ix ix_tup (pv 1) pe_int (fun _ _ => rfl))) (pa_cons (pe_op op_mulW (pe_un un_neg (pe_ix ix_tup (pv 0) pe_int (fun _ _ => rfl))) (pe_ix ix_tup (pv 1) pe_int (fun _ _ => rfl))) pa_nil)))))
    pss_nil)
    (pss_one (ps_ret (pcall D_cut hr (by decide) (by rfl) (pa_cons (pe_op op_mulW (pe_ix ix_tup (pv 0) pe_int (fun _ _ => rfl)) (pe_ix ix_tup (pv 1) pe_int (fun _ _ => rfl))) (pa_cons (pe_op op_mulW (pe_ix ix_tup (pv 0) pe_int (fun _ _ => rfl)) (pe_ix ix_tup (pv 1) pe_int (fun _ _ => rfl))) pa_nil)))))), ?_⟩
  refine ⟨_, rfl, _, _, _, _, rfl, rfl, h2, rfl, _, _, rfl, rfl, _, rfl, ?_⟩
  have hp := num_pos hb
  rw [decide_eq_false (show ¬ b.num < 0 by omega)]
  refine iteF ?_
  refine ⟨_, rfl, _, _, _, _, rfl, rfl, h1, rfl, _, rfl, _, _, _, _, rfl, rfl, h2, rfl, _, _, rfl, rfl, mulW s1.num s2.den hs, _, rfl, _, _, _, _, rfl, rfl, h1, rfl, _, rfl, _, _, _, _, rfl, rfl, h2, rfl, _, _, rfl, rfl, mulW s1.den s2.num hs, _, _, rfl, div_den_pos hb, den9 s1.den s2.num hs, ?_⟩
  rw [q_div hb]
  exact q
def spBelow (K : PySem.W.Frag) : Sp := fun vs H Q _ => ∃ x y a b, vs = [x, y] ∧ Fr K H x a ∧ Fr K H y b ∧ (∃ m n, Sz m a ∧ Sz n b ∧ m + n ≤ 900000) ∧ Q (.bl (decide (a < b))) H
theorem mulX {i j : Int} {m n : Nat} (h1 : i.natAbs < 2 ^ m) (h2 : j.natAbs < 2 ^ n) (h : m + n ≤ 900000) : CMulW i j :=
  wide_mul (a := m + 1) (b := n + 1) (pow_up (Nat.le_succ _) h1) (pow_up (Nat.le_succ _) h2) (Nat.succ_pos _) (Nat.succ_pos _) (by omega)
theorem dec_lt (a b : Rat) : decide (a.num * ((b.den : Nat) : Int) < b.num * ((a.den : Nat) : Int)) = decide (a < b) := by
  apply decide_eq_decide.mpr
  exact (lt_num a b).symm
abbrev N_is_below : List Str := ["one", "other"]
theorem sc_is_below : FnScope N_is_below ["one", "other"] (defScope s_is_below) := ⟨rfl, rfl, rfl, by decide +kernel, rfl, by decide +kernel, by decide +kernel⟩
theorem ok_is_below (G : Gd K mg "is_below" s_is_below) : Df P w K mg base "is_below" ["one", "other"] 1 (spBelow K) := by
  refine df_mk G sc_is_below (fun vs H Q E h => by obtain ⟨x, y, a, b, rfl, _⟩ := h; rfl) (fun _ _ _ _ _ _ us hl => match us, hl with | [_, _], _ => rfl) (fun f cdv A outer s H vs Q E hr h => ?_)
  obtain ⟨x, y, a, b, rfl, ⟨p, rfl, h1⟩, ⟨p', rfl, h2⟩, ⟨m, n, s1, s2, hs⟩, q⟩ := h
  refine ⟨_, (pss_one (ps_ret (pe_cmpR op_lt (pe_op op_mulW (pe_ix ix_tup (pv 0) pe_int (fun _ _ => rfl)) (pe_ix ix_tup (pv 1) pe_int (fun _ _ => rfl))) (pe_op op_mulW (pe_ix ix_tup (pv 1) pe_int (fun _ _ => rfl)) (pe_ix ix_tup (pv 0) pe_int (fun _ _ => rfl))) (nomark _)))), ?_⟩
  have hs' : n + m ≤ 900000 := by omega
  rw [← dec_lt] at q
  exact ⟨_, rfl, _, _, _, _, rfl, rfl, h1, rfl, _, rfl, _, _, _, _, rfl, rfl, h2, rfl, _, _, rfl, rfl, mulX s1.num s2.den hs, _, rfl, _, _, _, _, rfl, rfl, h2, rfl, _, rfl, _, _, _, _, rfl, rfl, h1, rfl, _, _, rfl, rfl, mulX s2.num s1.den hs', _, _, rfl, rfl, q⟩
def spWhole (K : PySem.W.Frag) : Sp := fun vs H Q _ => ∃ i : Int, vs = [.int i] ∧ ∀ H' v, Same H H' → Fr K H' v (i : Rat) → Q v H'
abbrev N_whole : List Str := ["number"]
theorem sc_whole : FnScope N_whole ["number"] (defScope s_whole) := ⟨rfl, rfl, rfl, by decide +kernel, rfl, by decide +kernel, by decide +kernel⟩
theorem ok_whole (G : Gd K mg "whole" s_whole) : Df P w K mg base "whole" ["number"] 1 (spWhole K) := by
  refine df_mk G sc_whole (fun vs H Q E h => by obtain ⟨i, rfl, _⟩ := h; rfl) (fun _ _ _ _ _ _ us hl => match us, hl with | [_], _ => rfl) (fun f cdv A outer s H vs Q E hr h => ?_)
  obtain ⟨i, rfl, q⟩ := h
  refine ⟨_, (pss_one (ps_ret (pe_tup (pa_cons (pv 0) (pa_cons pe_int pa_nil))))), ?_⟩
  exact ⟨_, rfl, by show 2 ≤ sizeLine; decide, fun p hp => q _ _ (same_new hp) (Fr.new rfl rfl)⟩
/-! ### is it one -/
def spIsWhole : Sp := fun vs H Q _ => ∃ i : Int, vs = [.int i] ∧ Q (.bl true) H
abbrev N_is_whole : List Str := ["thing"]
theorem sc_is_whole : FnScope N_is_whole ["thing"] (defScope s_is_whole) := ⟨rfl, rfl, rfl, by decide +kernel, rfl, by decide +kernel, by decide +kernel⟩
theorem ok_is_whole (G : Gd K mg "is_whole" s_is_whole) (B : Bt mg) : Df P w K mg base "is_whole" ["thing"] 1 spIsWhole := by
  refine df_mk G sc_is_whole (fun vs H Q E h => by obtain ⟨i, rfl, _⟩ := h; rfl) (fun _ _ _ _ _ _ us hl => match us, hl with | [_], _ => rfl) (fun f cdv A outer s H vs Q E hr h => ?_)
  obtain ⟨i, rfl, q⟩ := h
  refine ⟨_, (pss_one (ps_ret (pe_and (pe_callB call_isi (by rfl) B.isinstance (by decide +kernel) (pa_cons (pv 0) (pa_cons (pe_bltn (v := .ty "int") (by rfl) B.int (by decide +kernel) rfl) pa_nil))) (pe_one (pe_not (pe_callB call_isi (by rfl) B.isinstance (by decide +kernel) (pa_cons (pv 0) (pa_cons (pe_bltn (v := .ty "bool") (by rfl) B.bool (by decide +kernel) rfl) pa_nil)))))))), ?_⟩
  refine ⟨_, rfl, _, _, .type "int", _, true, rfl, .ty "int", .base (.int i), kit_ty (by decide +kernel), _, rfl, ?_⟩
  refine iteT ?_
  exact ⟨_, rfl, _, _, .type "int", _, false, rfl, .ty "bool", .base (.int i), kit_ty (by decide +kernel), _, rfl, q⟩
end Pf
end

section
/-! Comprehensions and loops over data that stands. -/
namespace Pf
open PySem PySem.Spec PyProof.Rows L2
/-- what never changes is as it was -/
def Keep (H H' : Hp) : Prop := ∀ b o, H b = some o → ¬ Mut (some o) → H' b = some o
theorem Same.keep {H H' : Hp} (s : Same H H') : Keep H H' := fun b o e _ => s b o e
theorem Keep.refl (H : Hp) : Keep H H := fun _ _ e _ => e
theorem Keep.trans {H H1 H2 : Hp} (a : Keep H H1) (b : Keep H1 H2) : Keep H H2 := fun c o e m => b c o (a c o e m) m
theorem Keep.upd {H : Hp} {a : Addr} {o : HO} (h : Mut (H a)) : Keep H (upd H a o) := fun b u e m => by
  by_cases z : b = a
  · rw [z] at e
    rw [e] at h
    exact absurd h m
  · rw [upd_ne z]; exact e
theorem Keep.upd' {H H' : Hp} {a : Addr} {o : HO} (k : Keep H H') (h : Mut (H a)) : Keep H (L2.upd H' a o) := fun b u e m => by
  by_cases z : b = a
  · rw [z] at e
    rw [e] at h
    exact absurd h m
  · rw [upd_ne z]; exact k b u e m
theorem Keep.new {H H' : Hp} {a : Addr} {o : HO} (k : Keep H H') (h : H a = none) : Keep H (L2.upd H' a o) := fun b u e m => by
  have z : b ≠ a := ne_of_none e h
  rw [upd_ne z]; exact k b u e m
theorem rd_keep {H H' : Hp} {a : Addr} {xs : List V} (e : Keep H H') (h : Rd H a (.tup xs)) : Rd H' a (.tup xs) := by
  rcases h with h | ⟨o, h⟩
  · exact .inl (e a _ h (fun z => z))
  · exact .inr ⟨o, e a _ h (fun z => z)⟩
theorem sqt_keep {K : PySem.W.Frag} {H H' : Hp} {a : Addr} {xs : List V} (e : Keep H H') (h : SqT K H a xs) : SqT K H' a xs := by
  rcases h with h | h
  · exact .inl (rd_keep e h)
  · exact .inr h
theorem Fr.keep {K : PySem.W.Frag} {H H' : Hp} {v : V} {q : Rat} (e : Keep H H') (h : Fr K H v q) : Fr K H' v q := by
  obtain ⟨p, rfl, h⟩ := h
  exact ⟨p, rfl, sqt_keep e h⟩
/-- lists of such -/
def Frs (K : PySem.W.Frag) (H : Hp) (vs : List V) (qs : List Rat) : Prop := Paired (Fr K H) vs qs
theorem Frs.keep {K : PySem.W.Frag} {H H' : Hp} {vs : List V} {qs : List Rat} (e : Keep H H') (h : Frs K H vs qs) : Frs K H' vs qs := Paired.mapP h fun _ _ z => z.keep e
theorem Paired.get? {α β : Type} {F : α → β → Prop} : ∀ {xs : List α} {ys : List β}, Paired F xs ys → ∀ {i : Nat} {x : α}, xs[i]? = some x → ∃ y, ys[i]? = some y ∧ F x y
  | _, _, .nil, i, x, h => by cases h
  | _, _, .cons r t, 0, x, h => by
    have e := Option.some.inj h
    subst e
    exact ⟨_, rfl, r⟩
  | _, _, .cons r t, i + 1, x, h => Paired.get? t h
theorem Paired.get2 {α β : Type} {F : α → β → Prop} : ∀ {xs : List α} {ys : List β}, Paired F xs ys → ∀ {i : Nat} {y : β}, ys[i]? = some y → ∃ x, xs[i]? = some x ∧ F x y
  | _, _, .nil, i, x, h => by cases h
  | _, _, .cons r t, 0, x, h => by
    have e := Option.some.inj h
    subst e
    exact ⟨_, rfl, r⟩
  | _, _, .cons r t, i + 1, x, h => Paired.get2 t h
theorem paired_of {α β : Type} {F : α → β → Prop} : ∀ {xs : List α} {ys : List β}, xs.length = ys.length → (∀ (i : Nat) (x : α) (y : β), xs[i]? = some x → ys[i]? = some y → F x y) → Paired F xs ys
  | [], [], _, _ => .nil
  | [], _ :: _, h, _ => by cases h
  | _ :: _, [], h, _ => by cases h
  | x :: xs, y :: ys, h, f => .cons (f 0 x y rfl rfl) (paired_of (Nat.succ.inj h) fun i a b e1 e2 => f (i + 1) a b e1 e2)
theorem Paired.snoc {α β : Type} {F : α → β → Prop} {x : α} {y : β} (h : F x y) : ∀ {xs : List α} {ys : List β}, Paired F xs ys → Paired F (xs ++ [x]) (ys ++ [y])
  | _, _, .nil => .cons h .nil
  | _, _, .cons r t => .cons r (Paired.snoc h t)
theorem Paired.app {α β : Type} {F : α → β → Prop} : ∀ {xs xs' : List α} {ys ys' : List β}, Paired F xs ys → Paired F xs' ys' → Paired F (xs ++ xs') (ys ++ ys')
  | _, _, _, _, .nil, h => h
  | _, _, _, _, .cons r t, h => .cons r (Paired.app t h)
theorem small {n : Nat} (h : n ≤ 100000) : n ≤ sizeLine := Nat.le_trans h (by decide)
theorem small_lt {n : Nat} (h : n < 100000) : n < sizeLine := Nat.lt_of_lt_of_le h (by decide)
/-- a new list at D, its items told one by one -/
structure Grown (R : Nat → V → Hp → Prop) (H1 : Hp) (D : Addr) (n : Nat) (H : Hp) : Prop where
  same : Same H1 H
  ex : ∃ ys : List V, H D = some (.lst ys) ∧ ys.length = n ∧ ∀ k y, ys[k]? = some y → R k y H
theorem grown_nil {R : Nat → V → Hp → Prop} {H1 : Hp} {D : Addr} (hD : H1 D = none) : Grown R H1 D 0 (upd H1 D (.lst [])) :=
  ⟨same_new hD, [], upd_same, rfl, fun _ _ h => by cases h⟩
theorem same_mut {H1 H : Hp} {D : Addr} {o : HO} (s : Same H1 H) (hD : H1 D = none) : Same H1 (upd H D o) := fun b u e => by
  rw [upd_ne (ne_of_none e hD)]
  exact s b u e
theorem Grown.step {R : Nat → V → Hp → Prop} (Rs : ∀ i y H H', Keep H H' → R i y H → R i y H') {H1 H H' : Hp} {D : Addr} {n : Nat} {y : V} (hD : H1 D = none) (g : Grown R H1 D n H) (s : Same H H') (r : R n y H') (hn : n < sizeLine) :
    ∃ acc, H' D = some (.lst acc) ∧ acc.length < sizeLine ∧ Grown R H1 D (n + 1) (upd H' D (.lst (acc ++ [y]))) := by
  obtain ⟨ys, e, l, a⟩ := g.ex
  have e' := s D _ e
  refine ⟨ys, e', by omega, same_mut (g.same.trans s) hD, ys ++ [y], upd_same, by rw [List.length_append, l]; rfl, fun k z hk => ?_⟩
  have mu : Mut (H' D) := by rw [e']; exact trivial
  rw [List.getElem?_append] at hk
  split at hk
  · exact Rs _ _ _ _ ((Same.keep s).trans (Keep.upd mu)) (a k z hk)
  · have ek : k = n := by
      have := List.getElem?_eq_some_iff.mp hk
      obtain ⟨h1, _⟩ := this
      simp at h1
      omega
    subst ek
    rw [l, Nat.sub_self] at hk
    have ez : y = z := Option.some.inj hk
    subst ez
    exact Rs _ _ _ _ (Keep.upd mu) r
/-- [e for x in xs]: what each item gives -/
theorem lc_each {J : It} {n : Nat} {G : Hp → Prop} {Y : Nat → Hp → V → Hp → Prop} {g : TG} {te : TE} {vs : List Nat} {σ : L2.St} {H1 : Hp} {D : Addr} {Qd : Hp → Prop} (w : Walk J n G Y) (hD : H1 D = none) (hz : n ≤ 100000)
    (R : Nat → V → Hp → Prop) (Rs : ∀ i y H H', Keep H H' → R i y H → R i y H') (hG : ∀ H', Same H1 H' → G H')
    (he : ∀ i x H H', i < n → Same H1 H → Y i H x H' → ∀ Q : VK, (∀ y H'', Same H H'' → R i y H'' → Q y H'') → g x (wipe σ vs) H' fun σ2 H2 => wipe σ2 vs = wipe σ vs ∧ te σ2 H2 Q)
    (hd : ∀ H', Grown R H1 D n H' → Qd H') :
    ∃ W : Nat → Nat → Hp → Prop, (∃ m, W 0 m (upd H1 D (.lst []))) ∧ ∀ i m H, W i m H →
      (J.stop i H ∧ Qd H) ∨ (J.go i H ∧ ∃ Nx : Hp → Prop, (∀ H', Nx H' → ∃ m', m' < m ∧ W (i + 1) m' H') ∧ ∀ x H', J.yld i H x H' → g x (wipe σ vs) H' fun σ2 H2 => wipe σ2 vs = wipe σ vs ∧ tYes σ2 H2 fun b H3 =>
        if b = true then te σ2 H3 fun y H4 => ∃ acc, H4 D = some (.lst acc) ∧ acc.length < sizeLine ∧ Nx (upd H4 D (.lst (acc ++ [y]))) else Nx H3) := by
  refine lc_it w (Grown R H1 D) (grown_nil hD) (fun i H _ p => hG H p.same) (fun i x H H' hi p y => ?_) hd
  have q := he i x H H' hi p.same y (fun y H4 => ∃ acc, H4 D = some (.lst acc) ∧ acc.length < sizeLine ∧ Grown R H1 D (i + 1) (upd H4 D (.lst (acc ++ [y])))) fun y H'' s r => p.step Rs hD s r (small_lt (by omega))
  exact q
end Pf
namespace Pf
open PySem PySem.Spec PyProof.Rows L2
theorem grown_fn {f : Nat → V} {H1 : Hp} {D : Addr} {n : Nat} {H : Hp} (g : Grown (fun k y _ => y = f k) H1 D n H) : H D = some (.lst ((List.range n).map f)) := by
  obtain ⟨ys, e, l, a⟩ := g.ex
  rw [e]
  congr 2
  apply List.ext_getElem?
  intro k
  rw [List.getElem?_map]
  rcases Nat.lt_or_ge k n with h | h
  · have h1 : k < ys.length := by omega
    rw [List.getElem?_eq_getElem h1, List.getElem?_range h, a k _ (List.getElem?_eq_getElem h1)]
    rfl
  · rw [List.getElem?_eq_none (by omega), List.getElem?_eq_none (by simp; omega)]
    rfl
theorem grown_true {K : PySem.W.Frag} {H1 : Hp} {D : Addr} {n : Nat} {H : Hp} (g : Grown (fun _ y _ => y = V.bl true) H1 D n H) : SqL K H D ((List.replicate n true).map V.bl) := by
  have e := grown_fn (f := fun _ => V.bl true) g
  refine SqL.of ?_
  rw [e]
  congr 2
  rw [List.map_replicate]
  apply List.ext_getElem?
  intro k
  rw [List.getElem?_map, List.getElem?_replicate]
  split
  · rename_i h; rw [List.getElem?_range h]; rfl
  · rename_i h; rw [List.getElem?_eq_none (by simp; omega)]; rfl
theorem all_true (n : Nat) : (List.replicate n true).all id = true := by simp
theorem tyx_tup {K : PySem.W.Frag} {H : Hp} {p : Addr} {xs : List V} (h : SqT K H p xs) : TyX K H (.ref p) (.type "tuple") := by
  rcases h with (h | ⟨o, h⟩) | ⟨o, its, n, h, hc, _⟩
  · exact .base (.tup h)
  · exact .fTuple h
  · exact .kTuple h hc
theorem tyx_lst {K : PySem.W.Frag} {H : Hp} {p : Addr} {xs : List V} (h : SqL K H p xs) : TyX K H (.ref p) (.type "list") := by
  rcases h with (h | ⟨o, h⟩) | ⟨o, its, n, h, hc, _⟩
  · exact .base (.lst h)
  · exact .base (.frz h)
  · exact .kList h hc
theorem sql_same {K : PySem.W.Frag} {H H' : Hp} {a : Addr} {xs : List V} (e : Same H H') (h : SqL K H a xs) : SqL K H' a xs := e.seq h
end Pf
end

section
namespace Pf
open PySem PySem.Spec PyProof.Rows L2
variable {P : Program} {w : World} {K : PySem.W.Frag} {mg : Str → Option Value} {base : Heap} {a : Ad}
def spIsFr (K : PySem.W.Frag) : Sp := fun vs H Q _ => ∃ v q, vs = [v] ∧ Fr K H v q ∧ ∀ H', Same H H' → Q (.bl true) H'
abbrev N_is_fraction : List Str := ["thing", "one"]
theorem sc_is_fraction : FnScope N_is_fraction ["thing"] (defScope s_is_fraction) := ⟨rfl, rfl, rfl, by decide +kernel, rfl, by decide +kernel, by decide +kernel⟩
theorem ok_is_fraction (G : Gd K mg "is_fraction" s_is_fraction) (B : Bt mg) (D_divisor : Df P w K mg base "divisor" ["one", "other"] 1 spDivisor) (D_is_whole : Df P w K mg base "is_whole" ["thing"] 1 spIsWhole) :
    Df P w K mg base "is_fraction" ["thing"] 2 (spIsFr K) := by
  refine df_mk G sc_is_fraction (fun vs H Q E h => by obtain ⟨v, q, rfl, _⟩ := h; rfl) (fun _ _ _ _ _ _ us hl => match us, hl with | [_], _ => rfl) (fun f cdv A outer s H vs Q E hr h => ?_)
  obtain ⟨v, q, rfl, ⟨p, rfl, h⟩, k⟩ := h
  refine ⟨_, (pss_cons (ps_if (PW.pt (pw_or (pt_not (pt_val (pe_callB call_isi (by rfl) B.isinstance (by decide +kernel) (pa_cons (pv 0) (pa_cons (pe_bltn (v := .ty "tuple") (by rfl) B.tuple (by decide +kernel) rfl) pa_nil))))) (pw_or (pt_cmpR op_ne (pe_callB call_len_seq (by rfl) B.len (by decide +kernel) (pa_cons (pv 0) pa_nil)) pe_int (nomark _)) (pw_or1 (pt_not (pt_val (pe_callB (cr_all rfl) (by rfl) B.all_ (by decide +kernel) (pa_cons (pe_lc (own := [("one", 1)]) (g := gName 1) rfl sc_is_fraction.nd (pi_tup (pv 0)) (blkOk_by (N := N_is_fraction) (sc := defScope s_is_fraction) (by decide +kernel)) (fun _ _ _ _ _ => (pg_name (i := 1) sc_is_fraction.nd rfl (by first | exact Or.inl rfl | exact Or.inr rfl))) (fun _ _ _ _ _ => pts_nil) (fun _ _ _ _ _ => (pcall D_is_whole hr (by decide) (by rfl) (pa_cons (pv 1) pa_nil)))) pa_nil))))))))
    (pss_one (ps_ret pe_bl))
    pss_nil)
    (pss_one (ps_ret (pe_and (pe_cmpR op_gt (pe_ix ix_tup (pv 0) pe_int (fun _ _ => rfl)) pe_int (nomark _)) (pe_one (pe_cmpR op_eq (pcall D_divisor hr (by decide) (by rfl) (pa_cons (pe_callB call_abs (by rfl) B.abs (by decide +kernel) (pa_cons (pe_ix ix_tup (pv 0) pe_int (fun _ _ => rfl)) pa_nil)) (pa_cons (pe_ix ix_tup (pv 0) pe_int (fun _ _ => rfl)) pa_nil))) pe_int (nomark _))))))), ?_⟩
  refine ⟨_, rfl, _, _, .type "tuple", _, true, rfl, .ty "tuple", tyx_tup h, kit_ty (by decide +kernel), _, rfl, ?_⟩
  refine iteF ⟨_, rfl, _, _, rfl, .inr h, rfl, _, rfl, ?_⟩
  refine iteF ⟨_, rfl, _, rfl, ⟨_, h⟩, fun D hD => ?_⟩
  refine lc_each (w := walk_tup (K := K) (xs := [.int q.num, .int (q.den : Int)])) hD (by show 2 ≤ 100000; decide) (fun _ y _ => y = V.bl true) (fun _ _ _ _ _ z => z) (fun H' s => sqt_same s h) (fun i x H1 H2 hi s hy Q' k' => ?_) (fun H' g => ?_)
  · obtain ⟨rfl, hx⟩ := hy
    have : ∃ j, x = V.int j := by
      match i, hx with
      | 0, hx => exact ⟨_, (Option.some.inj hx).symm⟩
      | 1, hx => exact ⟨_, (Option.some.inj hx).symm⟩
    obtain ⟨j, rfl⟩ := this
    exact ⟨rfl, _, rfl, _, rfl, k' _ _ (Same.refl _) rfl⟩
  · refine ⟨_, _, rfl, grown_true g, _, rfl, ?_⟩
    refine iteF ?_
    have h' := sqt_same g.same h
    have dp : ((q.den : Nat) : Int) > 0 := by have := q.den_pos; omega
    refine ⟨_, rfl, _, _, _, _, rfl, rfl, h', rfl, _, _, rfl, rfl, _, rfl, ?_⟩
    rw [decide_eq_true dp]
    refine iteT ?_
    refine ⟨_, rfl, _, _, _, _, rfl, rfl, h', rfl, _, rfl, _, rfl, _, _, _, _, rfl, rfl, h', rfl, q.num.natAbs, q.den, (by rw [abs_is] <;> rfl), rfl, ?_⟩
    have e : q.num.natAbs.gcd q.den = 1 := q.reduced
    rw [e]
    exact k _ g.same
theorem fr_no (C : Ct K mg a) (H : Hp) : Fr K H (.ref a.no) 0 := ⟨_, rfl, C.nought H⟩
theorem fr_on (C : Ct K mg a) (H : Hp) : Fr K H (.ref a.on) 1 := ⟨_, rfl, C.one H⟩
def sumQ (qs : List Rat) : Rat := qs.foldl (· + ·) 0
theorem sumQ_snoc (qs : List Rat) (q : Rat) : sumQ (qs ++ [q]) = sumQ qs + q := by unfold sumQ; rw [List.foldl_append]; rfl
theorem sumQ_take {qs : List Rat} {i : Nat} {q : Rat} (h : qs[i]? = some q) : sumQ (qs.take (i + 1)) = sumQ (qs.take i) + q := by
  rw [List.take_add_one, h]
  exact sumQ_snoc _ _
theorem sz_zero : Sz 1 (0 : Rat) := by constructor <;> decide
theorem sz_one : Sz 1 (1 : Rat) := by constructor <;> decide
theorem sumQ_sz {n : Nat} : ∀ {qs : List Rat}, (∀ q ∈ qs, Sz n q) → ∀ i, i ≤ qs.length → Sz ((n + 1) * i + 1) (sumQ (qs.take i))
  | qs, h, 0, _ => by simpa [sumQ] using sz_zero
  | qs, h, i + 1, hi => by
    have e : qs[i]? = some qs[i] := List.getElem?_eq_getElem (by omega)
    rw [sumQ_take e]
    have h1 := sumQ_sz h i (by omega)
    have h2 := h qs[i] (List.getElem_mem _)
    refine (h1.add h2).mono ?_
    rw [Nat.mul_succ]
    omega
def spSum (K : PySem.W.Frag) : Sp := fun vs H Q _ => ∃ (p : Addr) (ys : List V) (qs : List Rat) (n : Nat), vs = [.ref p] ∧ SqL K H p ys ∧ Frs K H ys qs ∧ (∀ q ∈ qs, Sz n q) ∧ (n + 1) * (qs.length + 2) ≤ 8900 ∧ ∀ H' v, Same H H' → Fr K H' v (sumQ qs) → Q v H'
abbrev N_sum_of : List Str := ["some", "found", "one"]
theorem sc_sum_of : FnScope N_sum_of ["some"] (defScope s_sum_of) := ⟨rfl, rfl, rfl, by decide +kernel, rfl, by decide +kernel, by decide +kernel⟩
theorem ok_sum_of (G : Gd K mg "sum_of" s_sum_of) (C : Ct K mg a) (D_plus : Df P w K mg base "plus" ["one", "other"] 3 (sp2 K (· + ·) any2)) : Df P w K mg base "sum_of" ["some"] 4 (spSum K) := by
  refine df_mk G sc_sum_of (fun vs H Q E h => by obtain ⟨v, q, _, _, rfl, _⟩ := h; rfl) (fun _ _ _ _ _ _ us hl => match us, hl with | [_], _ => rfl) (fun f cdv A outer s H vs Q E hr h => ?_)
  obtain ⟨p, ys, qs, n, rfl, h, fs, hs, hn, k⟩ := h
  refine ⟨_, (pss_cons (ps_set (i := 1) sc_sum_of.nd rfl (by first | exact Or.inl rfl | exact Or.inr rfl) (pe_glob (v := .ref _) (by rfl) C.NOUGHT rfl))
    (pss_cons (ps_for PassesOwn.never rfl (pi_list (pv 0)) (pg_name (i := 2) sc_sum_of.nd rfl (by first | exact Or.inl rfl | exact Or.inr rfl))
    (pss_one (ps_set (i := 1) sc_sum_of.nd rfl (by first | exact Or.inl rfl | exact Or.inr rfl) (pcall D_plus hr (by decide) (by rfl) (pa_cons (pv 1) (pa_cons (pv 2) pa_nil))))))
    (pss_one (ps_ret (pv 1))))), ?_⟩
  refine ⟨_, rfl, _, rfl, ⟨_, h⟩, for_list (K := K) (a := p) (xs := ys) (fun i σ H' => Same H H' ∧ ∃ v x, σ = [some (.ref p), some v, x] ∧ Fr K H' v (sumQ (qs.take i)))
    ⟨Same.refl _, _, _, rfl, by simpa [sumQ] using fr_no C H⟩ (fun i σ H' _ I => sql_same I.1 h) (fun i x σ H' hx I => ?_) (fun σ H' I => ?_)⟩
  · obtain ⟨s, v, y, rfl, fv⟩ := I
    obtain ⟨q, hq, fx⟩ := Paired.get? fs hx
    have hi : i < qs.length := (List.getElem?_eq_some_iff.mp hq).1
    have z1 := sumQ_sz hs i (by omega)
    have z2 := hs q (List.mem_of_getElem? hq)
    have m1 : (n + 1) * i ≤ (n + 1) * qs.length := Nat.mul_le_mul_left _ (by omega)
    have m2 : (n + 1) * (qs.length + 2) = (n + 1) * qs.length + (n + 1) * 2 := Nat.mul_add _ _ _
    refine ⟨_, rfl, _, rfl, _, _, _, q, rfl, fv, fx.same s, ⟨_, _, z1, z2, by omega⟩, trivial, fun H2 v2 s2 f2 => ?_⟩
    refine ⟨s.trans s2, v2, some x, rfl, ?_⟩
    rw [sumQ_take hq]
    exact f2
  · obtain ⟨s, v, y, rfl, fv⟩ := I
    refine ⟨_, rfl, k _ _ s ?_⟩
    rw [Paired.length fs, List.take_length] at fv
    exact fv
def spLeast (K : PySem.W.Frag) : Sp := fun vs H Q _ => ∃ (p : Addr) (ys : List V) (q : Rat) (qs : List Rat) (n : Nat), vs = [.ref p] ∧ SqL K H p ys ∧ Frs K H ys (q :: qs) ∧ (∀ x ∈ q :: qs, Sz n x) ∧ n ≤ 8900 ∧
  ∀ v, Fr K H v (qs.foldl (fun f o => if o < f then o else f) q) → Q v H
theorem foldl_mem_sz {n : Nat} : ∀ {qs : List Rat} {q : Rat}, Sz n q → (∀ x ∈ qs, Sz n x) → Sz n (qs.foldl (fun f o => if o < f then o else f) q)
  | [], q, h, _ => h
  | y :: t, q, h, hs => by
    refine foldl_mem_sz (qs := t) ?_ fun x hx => hs x (List.mem_cons_of_mem _ hx)
    show Sz n (if y < q then y else q)
    split
    · exact hs y List.mem_cons_self
    · exact h
abbrev N_least : List Str := ["some", "found", "one"]
theorem sc_least : FnScope N_least ["some"] (defScope s_least) := ⟨rfl, rfl, rfl, by decide +kernel, rfl, by decide +kernel, by decide +kernel⟩
theorem ok_least (G : Gd K mg "least" s_least) (D_is_below : Df P w K mg base "is_below" ["one", "other"] 1 (spBelow K)) : Df P w K mg base "least" ["some"] 2 (spLeast K) := by
  refine df_mk G sc_least (fun vs H Q E h => by obtain ⟨v, q, _, _, _, rfl, _⟩ := h; rfl) (fun _ _ _ _ _ _ us hl => match us, hl with | [_], _ => rfl) (fun f cdv A outer s H vs Q E hr h => ?_)
  obtain ⟨p, ys, q, qs, n, rfl, h, fs, hs, hn, k⟩ := h
  refine ⟨_, (pss_cons (ps_set (i := 1) sc_least.nd rfl (by first | exact Or.inl rfl | exact Or.inr rfl) (pe_ix ix_list (pv 0) pe_int (fun _ _ => rfl)))
    (pss_cons (ps_for PassesOwn.never rfl (pi_list (pv 0)) (pg_name (i := 2) sc_least.nd rfl (by first | exact Or.inl rfl | exact Or.inr rfl))
    (pss_one (ps_set (i := 1) sc_least.nd rfl (by first | exact Or.inl rfl | exact Or.inr rfl) (pe_ifExp (pt_val (pcall D_is_below hr (by decide) (by rfl) (pa_cons (pv 2) (pa_cons (pv 1) pa_nil)))) (pv 2) (pv 1)))))
    (pss_one (ps_ret (pv 1))))), ?_⟩
  obtain ⟨y0, hy0, f0⟩ := Paired.get2 fs (i := 0) (y := q) rfl
  refine ⟨_, rfl, _, _, _, _, rfl, rfl, h, atI_nat (j := 0) hy0, _, rfl, _, rfl, ⟨_, h⟩, for_list (K := K) (a := p) (xs := ys) (fun i σ H' => H' = H ∧ ∃ v x, σ = [some (.ref p), some v, x] ∧ Fr K H v (((q :: qs).take i).foldl (fun f o => if o < f then o else f) q))
    ⟨rfl, _, _, rfl, f0⟩ (fun i σ H' _ I => by rw [I.1]; exact h) (fun i x σ H' hx I => ?_) (fun σ H' I => ?_)⟩
  · obtain ⟨rfl, v, y, rfl, fv⟩ := I
    obtain ⟨z, hz, fx⟩ := Paired.get? fs hx
    have z1 : Sz n (((q :: qs).take i).foldl (fun f o => if o < f then o else f) q) := foldl_mem_sz (hs q List.mem_cons_self) fun x hx => hs x (List.mem_of_mem_take hx)
    have z2 := hs z (List.mem_of_getElem? hz)
    have e : ((q :: qs).take (i + 1)).foldl (fun f o => if o < f then o else f) q = if z < ((q :: qs).take i).foldl (fun f o => if o < f then o else f) q then z else ((q :: qs).take i).foldl (fun f o => if o < f then o else f) q := by
      rw [List.take_add_one, hz, List.foldl_append]
      rfl
    refine ⟨_, rfl, _, rfl, _, _, _, _, rfl, fx, fv, ⟨_, _, z2, z1, by omega⟩, _, rfl, ?_⟩
    refine ite2 (fun c => ?_) (fun c => ?_)
    · refine ⟨_, rfl, rfl, _, _, rfl, ?_⟩
      rw [e, if_pos (of_decide_eq_true c)]
      exact fx
    · refine ⟨_, rfl, rfl, _, _, rfl, ?_⟩
      rw [e, if_neg (fun z => c (decide_eq_true z))]
      exact fv
  · obtain ⟨rfl, v, y, rfl, fv⟩ := I
    refine ⟨_, rfl, k _ ?_⟩
    rw [Paired.length fs, List.take_length] at fv
    have e : (q :: qs).foldl (fun f o => if o < f then o else f) q = qs.foldl (fun f o => if o < f then o else f) q := by
      show qs.foldl _ (if q < q then q else q) = _
      simp
    rw [e] at fv
    exact fv
/-! ### measures, spots -/
def spMeasure (K : PySem.W.Frag) : Sp := fun vs H Q _ => ∃ v q n, vs = [v] ∧ Fr K H v q ∧ Sz n q ∧ n ≤ 8900 ∧ 0 ≤ q ∧ ∀ H', Same H H' → Q (.bl true) H'
abbrev N_is_measure : List Str := ["thing"]
theorem sc_is_measure : FnScope N_is_measure ["thing"] (defScope s_is_measure) := ⟨rfl, rfl, rfl, by decide +kernel, rfl, by decide +kernel, by decide +kernel⟩
theorem ok_is_measure (G : Gd K mg "is_measure" s_is_measure) (C : Ct K mg a) (D_is_fraction : Df P w K mg base "is_fraction" ["thing"] 2 (spIsFr K)) (D_is_below : Df P w K mg base "is_below" ["one", "other"] 1 (spBelow K)) :
    Df P w K mg base "is_measure" ["thing"] 3 (spMeasure K) := by
  refine df_mk G sc_is_measure (fun vs H Q E h => by obtain ⟨v, q, n, rfl, _⟩ := h; rfl) (fun _ _ _ _ _ _ us hl => match us, hl with | [_], _ => rfl) (fun f cdv A outer s H vs Q E hr h => ?_)
  obtain ⟨v, q, n, rfl, h, hs, hn, h0, k⟩ := h
  refine ⟨_, (pss_one (ps_ret (pe_and (pcall D_is_fraction hr (by decide) (by rfl) (pa_cons (pv 0) pa_nil)) (pe_one (pe_not (pcall D_is_below hr (by decide) (by rfl) (pa_cons (pv 0) (pa_cons (pe_glob (v := .ref _) (by rfl) C.NOUGHT rfl) pa_nil)))))))), ?_⟩
  refine ⟨_, rfl, _, _, rfl, h, fun H1 s1 => ⟨_, rfl, ?_⟩⟩
  refine iteT ⟨_, rfl, _, _, _, _, rfl, h.same s1, fr_no C H1, ⟨_, _, hs, sz_zero, by omega⟩, _, rfl, ?_⟩
  rw [decide_eq_false (Rat.not_lt.mpr h0)]
  exact k _ s1
end Pf
end

section
namespace Pf
open PySem PySem.Spec PyProof.Rows L2
/-! ### planks and weights, as data -/
structure Wd where
  long : Int
  ps : List (Int × Rat)
  hv : List (Rat × Rat)
abbrev Wd.n (W : Wd) : Nat := W.ps.length
/-- the place of a rest -/
def Wd.pl (W : Wd) (r : Int) : Int := if r < 0 then 0 else if r < (W.n : Int) then (W.ps.getD r.toNat (0, 0)).1 else W.long
def Wd.st (W : Wd) (p : Int) : Rat := (W.ps.getD p.toNat (0, 0)).2
structure Wd.Ok (W : Wd) : Prop where
  l2 : 2 ≤ W.long
  lm : W.long ≤ 1000
  n12 : W.n ≤ 12
  inn : ∀ (i : Nat) x s, W.ps[i]? = some (x, s) → 0 < x ∧ x < W.long
  rise : ∀ (i j : Nat) x s y t, i < j → W.ps[i]? = some (x, s) → W.ps[j]? = some (y, t) → x < y
  st0 : ∀ (i : Nat) x s, W.ps[i]? = some (x, s) → 0 ≤ s ∧ Sz 2000 s
  h6 : W.hv.length ≤ 6
  hv0 : ∀ q ∈ W.hv, 0 ≤ q.1 ∧ q.1 ≤ (W.long : Rat) ∧ 0 < q.2 ∧ Sz 128 q.1 ∧ Sz 128 q.2
theorem getD_of {α : Type} {l : List α} {i : Nat} {x d : α} (h : l[i]? = some x) : l.getD i d = x := by
  rw [List.getD_eq_getElem?_getD, h]
  rfl
theorem Wd.pl_prop {W : Wd} {i : Nat} {x : Int} {s : Rat} (h : W.ps[i]? = some (x, s)) : W.pl (i : Int) = x := by
  unfold Wd.pl
  have hl : i < W.ps.length := (List.getElem?_eq_some_iff.mp h).1
  rw [if_neg (by omega), if_pos (by show (i : Int) < ((W.ps.length : Nat) : Int); omega), Int.toNat_natCast, getD_of h]
theorem Wd.pl_wall {W : Wd} : W.pl (W.n : Int) = W.long := by
  unfold Wd.pl
  rw [if_neg (show ¬ ((W.n : Nat) : Int) < 0 by omega), if_neg (show ¬ ((W.n : Nat) : Int) < ((W.n : Nat) : Int) by omega)]
theorem Wd.pl_left {W : Wd} : W.pl (-1) = 0 := by
  unfold Wd.pl
  rw [if_pos (by decide)]
theorem Wd.at {W : Wd} {p : Int} (h0 : 0 ≤ p) (h1 : p < W.n) : ∃ x s, W.ps[p.toNat]? = some (x, s) ∧ W.pl p = x ∧ W.st p = s := by
  have hl : p.toNat < W.ps.length := by show p.toNat < W.n; omega
  refine ⟨_, _, List.getElem?_eq_getElem hl, ?_, ?_⟩
  · have := Wd.pl_prop (W := W) (i := p.toNat) (List.getElem?_eq_getElem hl)
    rw [show ((p.toNat : Nat) : Int) = p by omega] at this
    exact this
  · exact congrArg Prod.snd (getD_of (List.getElem?_eq_getElem hl))
theorem Wd.Ok.pl_lt {W : Wd} (o : W.Ok) {r s : Int} (h0 : -1 ≤ r) (h1 : r < s) (h2 : s ≤ W.n) : W.pl r < W.pl s := by
  have l2 := o.l2
  rcases (by omega : r = -1 ∨ 0 ≤ r) with e | hr
  · subst e
    rw [Wd.pl_left]
    rcases (by omega : s = W.n ∨ s < W.n) with e | hs
    · rw [e, Wd.pl_wall]; omega
    · obtain ⟨x, t, hx, e1, _⟩ := Wd.at (W := W) (p := s) (by omega) hs
      rw [e1]
      exact (o.inn _ _ _ hx).1
  · obtain ⟨x, t, hx, e1, _⟩ := Wd.at (W := W) (p := r) hr (by omega)
    rw [e1]
    rcases (by omega : s = W.n ∨ s < W.n) with e | hs
    · rw [e, Wd.pl_wall]; exact (o.inn _ _ _ hx).2
    · obtain ⟨y, u, hy, e2, _⟩ := Wd.at (W := W) (p := s) (by omega) hs
      rw [e2]
      exact o.rise _ _ _ _ _ _ (by omega) hx hy
theorem Wd.Ok.pl_le {W : Wd} (o : W.Ok) {r s : Int} (h0 : -1 ≤ r) (h1 : r ≤ s) (h2 : s ≤ W.n) : W.pl r ≤ W.pl s := by
  rcases (by omega : r = s ∨ r < s) with e | h
  · rw [e]; exact Int.le_refl _
  · exact Int.le_of_lt (o.pl_lt h0 h h2)
theorem Wd.Ok.pl_bd {W : Wd} (o : W.Ok) {r : Int} (h0 : -1 ≤ r) (h2 : r ≤ W.n) : 0 ≤ W.pl r ∧ W.pl r ≤ 1000 := by
  have h1 := o.pl_le (r := -1) (s := r) (by omega) h0 h2
  have h3 := o.pl_le (r := r) (s := W.n) h0 h2 (Int.le_refl _)
  rw [Wd.pl_left] at h1
  rw [Wd.pl_wall] at h3
  have := o.lm
  omega

variable {P : Program} {w : World} {K : PySem.W.Frag} {mg : Str → Option Value} {base : Heap} {a : Ad}
/-- a stake: its place and strength -/
def Stk (K : PySem.W.Frag) (H : Hp) (r : V) (q : Int × Rat) : Prop := ∃ t sv, r = .ref t ∧ SqT K H t [.int q.1, sv] ∧ Fr K H sv q.2
theorem Stk.keep {H H' : Hp} {r : V} {q : Int × Rat} (e : Keep H H') (h : Stk K H r q) : Stk K H' r q := by
  obtain ⟨t, sv, rfl, h1, h2⟩ := h
  exact ⟨t, sv, rfl, sqt_keep e h1, h2.keep e⟩
/-- a place and a weight -/
def Wt (K : PySem.W.Frag) (H : Hp) (r : V) (q : Rat × Rat) : Prop := ∃ t xv mv, r = .ref t ∧ SqT K H t [xv, mv] ∧ Fr K H xv q.1 ∧ Fr K H mv q.2
theorem Wt.keep {H H' : Hp} {r : V} {q : Rat × Rat} (e : Keep H H') (h : Wt K H r q) : Wt K H' r q := by
  obtain ⟨t, xv, mv, rfl, h1, h2, h3⟩ := h
  exact ⟨t, xv, mv, rfl, sqt_keep e h1, h2.keep e, h3.keep e⟩
abbrev pfs (l : Int) (sk : Addr) : List (Str × V) := [("long", .int l), ("stakes", .ref sk), ("limit", .non)]
/-- the plank W at p -/
def Plk (K : PySem.W.Frag) (a : Ad) (H : Hp) (p : Addr) (W : Wd) : Prop := ∃ dx sk refs, H p = some (.ins a.P dx (pfs W.long sk)) ∧ SqT K H sk refs ∧ Paired (Stk K H) refs W.ps
theorem Plk.keep {H H' : Hp} {p : Addr} {W : Wd} (e : Keep H H') (hp : H' p = H p) (h : Plk K a H p W) : Plk K a H' p W := by
  obtain ⟨dx, sk, refs, h1, h2, h3⟩ := h
  exact ⟨dx, sk, refs, by rw [hp]; exact h1, sqt_keep e h2, Paired.mapP h3 fun _ _ z => z.keep e⟩
theorem Plk.same {H H' : Hp} {p : Addr} {W : Wd} (e : Same H H') (h : Plk K a H p W) : Plk K a H' p W := by
  have h' := h
  obtain ⟨dx, sk, refs, h1, h2, h3⟩ := h'
  exact h.keep (Same.keep e) (by rw [h1]; exact e _ _ h1)
theorem lk_long {l : Int} {sk : Addr} : (pfs l sk).lookup ("long" : Str) = some (.int l) := by rfl
theorem lk_stakes {l : Int} {sk : Addr} : (pfs l sk).lookup ("stakes" : Str) = some (.ref sk) := by rfl
theorem lk_length {l : Int} {sk : Addr} : (pfs l sk).lookup ("length" : Str) = none := by rfl
theorem lk_props {l : Int} {sk : Addr} : (pfs l sk).lookup ("props" : Str) = none := by rfl
theorem lk_count {l : Int} {sk : Addr} : (pfs l sk).lookup ("count" : Str) = none := by rfl
theorem lk_place {l : Int} {sk : Addr} : (pfs l sk).lookup ("place_of" : Str) = none := by rfl
theorem put_pfs (l : Int) (sk : Addr) : putF "limit" .non (putF "stakes" (.ref sk) (putF "long" (.int l) [])) = pfs l sk := by rfl

/-! ### Plank -/
def spLength (K : PySem.W.Frag) (a : Ad) : Sp := fun vs H Q _ => ∃ (p : Addr) (W : Wd), vs = [.ref p] ∧ Plk K a H p W ∧ Q (.int W.long) H
abbrev N_Plank_length : List Str := ["self"]
theorem sc_Plank_length : FnScope N_Plank_length ["self"] (defScope s_Plank_length) := ⟨rfl, rfl, rfl, by decide +kernel, rfl, by decide +kernel, by decide +kernel⟩
theorem ok_length (G : Md K a.P "length" "Plank.length" s_Plank_length) (C : Ct K mg a) : Mf P w K mg base a.P "length" ["self"] 1 (spLength K a) := by
  refine mf_mk G sc_Plank_length (fun vs H Q E h => by obtain ⟨v, q, rfl, _⟩ := h; rfl) (fun _ _ _ _ _ _ us hl => match us, hl with | [_], _ => rfl) (fun f cdv A outer s H vs Q E hr h => ?_)
  obtain ⟨p, W, rfl, ⟨dx, sk, refs, h1, h2, h3⟩, q⟩ := h
  exact ⟨_, (pss_one (ps_ret (pe_fld (pv 0) rfl))), _, rfl, p, _, dx, _, _, rfl, h1, C.clP, C.nPl, lk_long, q⟩
def spCount (K : PySem.W.Frag) (a : Ad) : Sp := fun vs H Q _ => ∃ (p : Addr) (W : Wd), vs = [.ref p] ∧ Plk K a H p W ∧ Q (.int (W.n : Int)) H
abbrev N_Plank_count : List Str := ["self"]
theorem sc_Plank_count : FnScope N_Plank_count ["self"] (defScope s_Plank_count) := ⟨rfl, rfl, rfl, by decide +kernel, rfl, by decide +kernel, by decide +kernel⟩
theorem ok_count (G : Md K a.P "count" "Plank.count" s_Plank_count) (C : Ct K mg a) (B : Bt mg) : Mf P w K mg base a.P "count" ["self"] 1 (spCount K a) := by
  refine mf_mk G sc_Plank_count (fun vs H Q E h => by obtain ⟨v, q, rfl, _⟩ := h; rfl) (fun _ _ _ _ _ _ us hl => match us, hl with | [_], _ => rfl) (fun f cdv A outer s H vs Q E hr h => ?_)
  obtain ⟨p, W, rfl, ⟨dx, sk, refs, h1, h2, h3⟩, q⟩ := h
  refine ⟨_, (pss_one (ps_ret (pe_callB call_len_seq (by rfl) B.len (by decide +kernel) (pa_cons (pe_fld (pv 0) rfl) pa_nil)))), _, rfl, p, _, dx, _, _, rfl, h1, C.clP, C.nPs, lk_stakes, _, _, rfl, .inr h2, ?_⟩
  rw [Paired.length h3]
  exact q
def spProps (K : PySem.W.Frag) (a : Ad) : Sp := fun vs H Q _ => ∃ (p : Addr) (W : Wd), vs = [.ref p] ∧ Plk K a H p W ∧ ∀ H' l refs, Same H H' → H l = none → H' l = some (.lst refs) → Paired (Stk K H') refs W.ps → Q (.ref l) H'
abbrev N_Plank_props : List Str := ["self"]
theorem sc_Plank_props : FnScope N_Plank_props ["self"] (defScope s_Plank_props) := ⟨rfl, rfl, rfl, by decide +kernel, rfl, by decide +kernel, by decide +kernel⟩
theorem ok_props (G : Md K a.P "props" "Plank.props" s_Plank_props) (C : Ct K mg a) (B : Bt mg) : Mf P w K mg base a.P "props" ["self"] 1 (spProps K a) := by
  refine mf_mk G sc_Plank_props (fun vs H Q E h => by obtain ⟨v, q, rfl, _⟩ := h; rfl) (fun _ _ _ _ _ _ us hl => match us, hl with | [_], _ => rfl) (fun f cdv A outer s H vs Q E hr h => ?_)
  obtain ⟨p, W, rfl, ⟨dx, sk, refs, h1, h2, h3⟩, q⟩ := h
  refine ⟨_, (pss_one (ps_ret (pe_callTy call_list_of (by rfl) B.list_ (by decide +kernel) (pa_cons (pe_fld (pv 0) rfl) pa_nil)))), _, rfl, p, _, dx, _, _, rfl, h1, C.clP, C.nPs, lk_stakes, _, _, rfl, .inr h2, fun l hl => ?_⟩
  exact q _ _ _ (same_new hl) hl upd_same (Paired.mapP h3 fun _ _ z => z.keep (Same.keep (same_new hl)))
def spPlace (K : PySem.W.Frag) (a : Ad) : Sp := fun vs H Q _ => ∃ (p : Addr) (W : Wd) (r : Int), vs = [.ref p, .int r] ∧ Plk K a H p W ∧ -1 ≤ r ∧ r ≤ W.n ∧ Q (.int (W.pl r)) H
abbrev N_Plank_place_of : List Str := ["self", "rest"]
theorem sc_Plank_place_of : FnScope N_Plank_place_of ["self", "rest"] (defScope s_Plank_place_of) := ⟨rfl, rfl, rfl, by decide +kernel, rfl, by decide +kernel, by decide +kernel⟩
theorem ok_place (G : Md K a.P "place_of" "Plank.place_of" s_Plank_place_of) (C : Ct K mg a) (B : Bt mg) (D_is_whole : Df P w K mg base "is_whole" ["thing"] 1 spIsWhole) (D_Plank_count : Mf P w K mg base a.P "count" ["self"] 1 (spCount K a)) :
    Mf P w K mg base a.P "place_of" ["self", "rest"] 2 (spPlace K a) := by
  refine mf_mk G sc_Plank_place_of (fun vs H Q E h => by obtain ⟨v, _, q, rfl, _⟩ := h; rfl) (fun _ _ _ _ _ _ us hl => match us, hl with | [_, _], _ => rfl) (fun f cdv A outer s H vs Q E hr h => ?_)
  obtain ⟨p, W, r, rfl, k, h0, h1, q⟩ := h
  obtain ⟨dx, sk, refs, e1, e2, e3⟩ := id k
  refine ⟨_, (pss_cons (ps_if (PW.pt (pw_or (pt_not (pt_val (pcall D_is_whole hr (by decide) (by rfl) (pa_cons (pv 1) pa_nil)))) (pw_or1 (pt_not (pt_chain op_le op_le (pe_gint (by rfl) C.LEFT_WALL) (pv 1) (pmeth0 D_Plank_count C.clP hr (by decide) (pv 0)))))))
    (pss_one (ps_never))
    pss_nil)
    (pss_cons (ps_if (pt_cmpR op_eq (pv 1) (pe_gint (by rfl) C.LEFT_WALL) (nomark _))
    (pss_one (ps_ret pe_int))
    pss_nil)
    (pss_one (ps_ret (pe_ifExp (pt_cmpR op_eq (pv 1) (pmeth0 D_Plank_count C.clP hr (by decide) (pv 0)) (nomark _)) (pe_fld (pv 0) rfl) (pe_ix ix_tup (pe_ix ix_tup (pe_fld (pv 0) rfl) (pv 1) (fun _ _ => rfl)) pe_int (fun _ _ => rfl))))))), ?_⟩
  refine ⟨_, rfl, r, rfl, _, rfl, ?_⟩
  refine iteF ⟨_, rfl, _, _, rfl, rfl, _, rfl, ?_⟩
  rw [decide_eq_true h0]
  refine iteT ⟨_, rfl, p, dx, _, rfl, e1, lk_count, p, W, rfl, k, _, _, rfl, rfl, _, rfl, ?_⟩
  rw [decide_eq_true h1]
  refine iteF ?_
  refine ⟨_, rfl, rfl, _, rfl, ?_⟩
  refine ite2 (fun c => ?_) (fun c => ?_)
  · have e : r = -1 := V.int.inj (of_decide_eq_true c)
    rw [e, Wd.pl_left] at q
    exact q
  · have e : r ≠ -1 := fun z => c (decide_eq_true (by rw [z]))
    refine ⟨_, rfl, _, rfl, p, dx, _, rfl, e1, lk_count, p, W, rfl, k, rfl, _, rfl, ?_⟩
    refine ite2 (fun c => ?_) (fun c => ?_)
    · have e : r = W.n := V.int.inj (of_decide_eq_true c)
      rw [e, Wd.pl_wall] at q
      exact ⟨_, rfl, p, _, dx, _, _, rfl, e1, C.clP, C.nPl, lk_long, q⟩
    · have e' : r ≠ W.n := fun z => c (decide_eq_true (by rw [z]))
      obtain ⟨x, s, hx, ex, _⟩ := Wd.at (W := W) (p := r) (by omega) (by omega)
      obtain ⟨rf, hrf, t, sv, rfl, ht, _⟩ := Paired.get2 e3 hx
      rw [ex] at q
      exact ⟨_, rfl, p, _, dx, _, _, rfl, e1, C.clP, C.nPs, lk_stakes, _, rfl, _, _, _, _, rfl, rfl, e2, at_of (j := r.toNat) (by omega) hrf, _, _, _, _, rfl, rfl, ht, rfl, q⟩
end Pf
end

section
namespace Pf
open PySem PySem.Spec PyProof.Rows L2
variable {P : Program} {w : World} {K : PySem.W.Frag} {mg : Str → Option Value} {base : Heap} {a : Ad}
theorem cut1 (xs : List V) : cutV xs (some 1) none = xs.drop 1 := by
  unfold cutV
  rw [show HT.sIx xs.length 0 (some 1) = min 1 xs.length from HT.sIx_nat xs.length 0 1, HT.sIx_none]
  cases xs with
  | nil => rfl
  | cons x r =>
    rw [show min 1 (x :: r).length = 1 by
      rw [List.length_cons]
      omega]
    show (List.take ((x :: r).length - 1) r) = r
    rw [List.length_cons, Nat.add_sub_cancel]
    exact List.take_length
def spIsProp (K : PySem.W.Frag) : Sp := fun vs H Q _ => ∃ (r : V) (x l : Int) (s : Rat), vs = [r, .int l] ∧ Stk K H r (x, s) ∧ 0 < x ∧ x < l ∧ 0 ≤ s ∧ Sz 2000 s ∧ ∀ H', Same H H' → Q (.bl true) H'
abbrev N_is_prop : List Str := ["thing", "length"]
theorem sc_is_prop : FnScope N_is_prop ["thing", "length"] (defScope s_is_prop) := ⟨rfl, rfl, rfl, by decide +kernel, rfl, by decide +kernel, by decide +kernel⟩
theorem ok_is_prop (G : Gd K mg "is_prop" s_is_prop) (B : Bt mg) (D_is_whole : Df P w K mg base "is_whole" ["thing"] 1 spIsWhole) (D_is_measure : Df P w K mg base "is_measure" ["thing"] 3 (spMeasure K)) : Df P w K mg base "is_prop" ["thing", "length"] 4 (spIsProp K) := by
  refine df_mk G sc_is_prop (fun vs H Q E h => by obtain ⟨v, x, l, q, rfl, _⟩ := h; rfl) (fun _ _ _ _ _ _ us hl => match us, hl with | [_, _], _ => rfl) (fun f cdv A outer s H vs Q E hr h => ?_)
  obtain ⟨r, x, l, s, rfl, ⟨t, sv, rfl, h, fs⟩, h0, h1, s0, sz, k⟩ := h
  refine ⟨_, (pss_cons (ps_if (PW.pt (pw_or (pt_not (pt_val (pe_callB call_isi (by rfl) B.isinstance (by decide +kernel) (pa_cons (pv 0) (pa_cons (pe_bltn (v := .ty "tuple") (by rfl) B.tuple (by decide +kernel) rfl) pa_nil))))) (pw_or (pt_cmpR op_ne (pe_callB call_len_seq (by rfl) B.len (by decide +kernel) (pa_cons (pv 0) pa_nil)) pe_int (nomark _)) (pw_or1 (pt_not (pt_val (pcall D_is_whole hr (by decide) (by rfl) (pa_cons (pe_ix (r := rIxT K) ix_tup (pv 0) pe_int (fun _ _ => rfl)) pa_nil))))))))
    (pss_one (ps_ret pe_bl))
    pss_nil)
    (pss_one (ps_ret (pe_and (pe_chain op_lt op_lt pe_int (pe_ix (r := rIxT K) ix_tup (pv 0) pe_int (fun _ _ => rfl)) (pv 1)) (pe_one (pcall D_is_measure hr (by decide) (by rfl) (pa_cons (pe_ix (r := rIxT K) ix_tup (pv 0) pe_int (fun _ _ => rfl)) pa_nil))))))), ?_⟩
  refine ⟨_, rfl, _, _, .type "tuple", _, true, rfl, .ty "tuple", tyx_tup h, kit_ty (by decide +kernel), _, rfl, ?_⟩
  refine iteF ⟨_, rfl, _, _, rfl, .inr h, rfl, _, rfl, ?_⟩
  refine iteF ⟨_, rfl, _, _, _, _, rfl, rfl, h, rfl, x, rfl, _, rfl, ?_⟩
  refine iteF ⟨_, rfl, _, _, _, _, rfl, rfl, h, rfl, _, _, rfl, rfl, _, rfl, ?_⟩
  rw [decide_eq_true h0]
  refine iteT ⟨_, rfl, _, _, rfl, rfl, _, rfl, ?_⟩
  rw [decide_eq_true h1]
  exact iteT ⟨_, rfl, _, _, _, _, rfl, rfl, h, rfl, sv, s, 2000, rfl, fs, sz, by decide, s0, k⟩
def spAreProps (K : PySem.W.Frag) : Sp := fun vs H Q _ => ∃ (p : Addr) (refs : List V) (W : Wd), vs = [.ref p, .int W.long] ∧ SqL K H p refs ∧ Paired (Stk K H) refs W.ps ∧ W.Ok ∧ ∀ H', Same H H' → Q (.bl true) H'
abbrev N_are_props : List Str := ["thing", "length", "one", "other"]
theorem sc_are_props : FnScope N_are_props ["thing", "length"] (defScope s_are_props) := ⟨rfl, rfl, rfl, by decide +kernel, rfl, by decide +kernel, by decide +kernel⟩
theorem ok_are_props (G : Gd K mg "are_props" s_are_props) (B : Bt mg) (C : Ct K mg a) (D_is_prop : Df P w K mg base "is_prop" ["thing", "length"] 4 (spIsProp K)) : Df P w K mg base "are_props" ["thing", "length"] 5 (spAreProps K) := by
  refine df_mk G sc_are_props (fun vs H Q E h => by obtain ⟨v, x, l, rfl, _⟩ := h; rfl) (fun _ _ _ _ _ _ us hl => match us, hl with | [_, _], _ => rfl) (fun f cdv A outer s H vs Q E hr h => ?_)
  obtain ⟨p, refs, W, rfl, h, hp, o, k⟩ := h
  have hl := Paired.length hp
  have n12 : refs.length ≤ 12 := by rw [hl]; exact o.n12
  refine ⟨_, (pss_cons (ps_if (PW.pt (pw_or (pt_not (pt_val (pe_callB call_isi (by rfl) B.isinstance (by decide +kernel) (pa_cons (pv 0) (pa_cons (pe_bltn (v := .ty "list") (by rfl) B.list_ (by decide +kernel) rfl) pa_nil))))) (pw_or (pt_cmpR op_gt (pe_callB call_len_seq (by rfl) B.len (by decide +kernel) (pa_cons (pv 0) pa_nil)) (pe_gint (by rfl) C.MOST_PROPS) (nomark _)) (pw_or1 (pt_not (pt_val (pe_callB (r := rAll K) (cr_all rfl) (by rfl) B.all_ (by decide +kernel) (pa_cons (pe_lc (own := [("one", 2)]) (g := gName 2) rfl sc_are_props.nd (pi_list (pv 0)) (blkOk_by (N := N_are_props) (sc := defScope s_are_props) (by decide +kernel)) (fun _ _ _ _ _ => (pg_name (i := 2) sc_are_props.nd rfl (by first | exact Or.inl rfl | exact Or.inr rfl))) (fun _ _ _ _ _ => pts_nil) (fun _ _ _ _ _ => (pcall D_is_prop hr (by decide) (by rfl) (pa_cons (pv 2) (pa_cons (pv 1) pa_nil))))) pa_nil))))))))
    (pss_one (ps_ret pe_bl))
    pss_nil)
    (pss_one (ps_ret (pe_callB (r := rAll K) (cr_all rfl) (by rfl) B.all_ (by decide +kernel) (pa_cons (pe_lc (own := [("one", 2), ("other", 3)]) (g := gTup K 2 (gCons (gName 2) (gCons (gName 3) gNil))) rfl sc_are_props.nd (RZ.pi_zipA (by rfl) B.zip (pa_cons (pv 0) (pa_cons (pe_slice (r := rSlL K) sl_list (pv 0) (po_some pe_int) po_none) pa_nil))) (blkOk_by (N := N_are_props) (sc := defScope s_are_props) (by decide +kernel)) (fun _ _ _ _ _ => (pg_tup (by rfl) (pgs_cons (pg_name (i := 2) sc_are_props.nd rfl (by first | exact Or.inl rfl | exact Or.inr rfl)) (pgs_cons (pg_name (i := 3) sc_are_props.nd rfl (by first | exact Or.inl rfl | exact Or.inr rfl)) pgs_nil)))) (fun _ _ _ _ _ => pts_nil) (fun _ _ _ _ _ => (pe_cmpR op_lt (pe_ix (r := rIxT K) ix_tup (pv 2) pe_int (fun _ _ => rfl)) (pe_ix (r := rIxT K) ix_tup (pv 3) pe_int (fun _ _ => rfl)) (nomark _)))) pa_nil))))), ?_⟩
  refine ⟨_, rfl, _, _, .type "list", _, true, rfl, .ty "list", tyx_lst h, kit_ty (by decide +kernel), _, rfl, ?_⟩
  refine iteF ⟨_, rfl, _, _, rfl, .inl h, _, _, rfl, rfl, _, rfl, ?_⟩
  rw [decide_eq_false (show ¬ (12 : Int) < (refs.length : Int) by omega)]
  refine iteF ⟨_, rfl, _, rfl, ⟨_, h⟩, fun D hD => ?_⟩
  refine lc_each (w := walk_list (K := K) (a := p) (xs := refs)) hD (by omega) (fun _ y _ => y = V.bl true) (fun _ _ _ _ _ z => z) (fun H' s => sql_same s h) (fun i x H1 H2 hi s hy Q' k' => ?_) (fun H' g => ?_)
  · obtain ⟨rfl, hx⟩ := hy
    obtain ⟨⟨y, st⟩, hq, sk⟩ := Paired.get? hp hx
    obtain ⟨i1, i2⟩ := o.inn _ _ _ hq
    obtain ⟨i3, i4⟩ := o.st0 _ _ _ hq
    exact ⟨rfl, _, rfl, _, rfl, x, y, W.long, st, rfl, sk.keep (Same.keep s), i1, i2, i3, i4, fun H' s' => k' _ _ s' rfl⟩
  · refine ⟨_, _, rfl, grown_true g, _, rfl, ?_⟩
    rw [all_true]
    refine iteF ?_
    have h' := sql_same g.same h
    refine ⟨_, rfl, _, rfl, 1, rfl, p, refs, rfl, h', fun c hc => ?_⟩
    rw [cut1]
    have sC := same_new (o := .lst (refs.drop 1)) hc
    refine ⟨_, _, _, _, rfl, .inl ⟨sql_same sC h', SqL.of upd_same, fun D2 hD2 => ?_⟩⟩
    have s2 : Same H (upd H' c (.lst (refs.drop 1))) := g.same.trans sC
    refine lc_each (w := walk_zip (K := K) (a := p) (b := c) (xs := refs) (ys := refs.drop 1) rfl) hD2 (by omega) (fun _ y _ => y = V.bl true) (fun _ _ _ _ _ z => z) (fun H' s => ⟨sql_same (sC.trans s) h', SqL.of (s _ _ upd_same)⟩) (fun i v H1 H2 hi s hy Q' k' => ?_) (fun H' g => ?_)
    · obtain ⟨T, x, y, rfl, hT, rfl, hx, hy⟩ := hy
      have hy : refs[1 + i]? = some y := by rw [← List.getElem?_drop]; exact hy
      obtain ⟨⟨x1, t1⟩, hq1, tt1, sv1, rfl, a1, _⟩ := Paired.get? hp hx
      obtain ⟨⟨x2, t2⟩, hq2, tt2, sv2, rfl, a2, _⟩ := Paired.get? hp hy
      have b1 := sqt_same (s2.trans (s.trans (same_new (o := .tup [.ref tt1, .ref tt2]) hT))) a1
      have b2 := sqt_same (s2.trans (s.trans (same_new (o := .tup [.ref tt1, .ref tt2]) hT))) a2
      refine ⟨T, _, rfl, SqT.of upd_same, rfl, _, _, rfl, _, _, rfl, rfl, rfl, _, rfl, _, _, _, _, rfl, rfl, b1, rfl, _, rfl, _, _, _, _, rfl, rfl, b2, rfl, _, _, rfl, rfl, ?_⟩
      exact k' _ _ (same_new hT) (congrArg V.bl (decide_eq_true (o.rise _ _ _ _ _ _ (by omega) hq1 hq2)))
    · refine ⟨_, _, rfl, grown_true g, ?_⟩
      rw [all_true]
      exact k _ (s2.trans g.same)
def spPlankInit (K : PySem.W.Frag) (a : Ad) : Sp := fun vs H Q _ => ∃ (p dx l : Addr) (refs : List V) (W : Wd), vs = [.ref p, .int W.long, .ref l, .non] ∧ H p = some (.ins a.P dx []) ∧ H l = some (.lst refs) ∧ Paired (Stk K H) refs W.ps ∧ W.Ok ∧
  ∀ H', (∀ b o, H b = some o → b ≠ p → H' b = some o) → Plk K a H' p W → Q .non H'
abbrev N_Plank_init : List Str := ["self", "length", "props", "bend"]
theorem sc_Plank_init : FnScope N_Plank_init ["self", "length", "props", "bend"] (defScope s_Plank_init) := ⟨rfl, rfl, rfl, by decide +kernel, rfl, by decide +kernel, by decide +kernel⟩
theorem ok_plank_init {fd : FuncData} {ds : List Value} (F : FunD K "__init__" "Plank.__init__" (defArgs s_Plank_init) (defBody s_Plank_init) (defScope s_Plank_init) [] [("bend", .non)] a.Pi fd) (B : Bt mg) (C : Ct K mg a) (D_is_whole : Df P w K mg base "is_whole" ["thing"] 1 spIsWhole)
    (D_is_measure : Df P w K mg base "is_measure" ["thing"] 3 (spMeasure K)) (D_are_props : Df P w K mg base "are_props" ["thing", "length"] 5 (spAreProps K)) : FnOk P w K mg base CX0 6 a.Pi fd ["self", "length", "props", "bend"] (spPlankInit K a) := by
  refine F.ok sc_Plank_init (fun vs H Q E h => by obtain ⟨v, x, l, rs, W, rfl, _⟩ := h; rfl) (fun cdv A outer s H vs Q E hr h => ?_)
  obtain ⟨p, dx, l, refs, W, rfl, hp, hl, hq, o, k⟩ := h
  refine ⟨_, PSs.nox (pss_cons (ps_if (PW.pt (pw_or (pt_not (pt_val (pcall D_is_whole hr (by decide) (by rfl) (pa_cons (pv 1) pa_nil)))) (pw_or1 (pt_not (pt_chain op_le op_le pe_int (pv 1) (pe_gint (by rfl) C.MOST_LENGTH))))))
    (pss_one (ps_never))
    pss_nil)
    (pss_cons (ps_if (pt_not (pt_val (pcall D_are_props hr (by decide) (by rfl) (pa_cons (pv 2) (pa_cons (pv 1) pa_nil)))))
    (pss_one (ps_never))
    pss_nil)
    (pss_cons (ps_if (PW.pt (pw_and (pt_cmpR op_notN (pv 3) pe_non (nomark _)) (pw_and1 (pt_not (pt_val (pcall D_is_measure hr (by decide) (by rfl) (pa_cons (pv 3) pa_nil)))))))
    (pss_one (ps_never))
    pss_nil)
    (pss_cons (ps_fld (pv 0) (pv 1) rfl)
    (pss_cons (ps_fld (pv 0) (pe_callTy call_tuple_of (by rfl) B.tuple (by decide +kernel) (pa_cons (pv 2) pa_nil)) rfl)
    (pss_one (ps_fld (pv 0) (pv 3) rfl))))))), ?_⟩
  refine ⟨_, rfl, _, rfl, _, rfl, ?_⟩
  refine iteF ⟨_, rfl, _, _, rfl, rfl, _, rfl, ?_⟩
  rw [decide_eq_true o.l2]
  refine iteT ⟨_, _, rfl, rfl, _, rfl, ?_⟩
  rw [decide_eq_true o.lm]
  refine iteF ?_
  refine ⟨_, rfl, _, rfl, l, refs, W, rfl, SqL.of hl, hq, o, fun H1 s1 => ⟨_, rfl, ?_⟩⟩
  refine iteF ⟨_, rfl, rfl, _, rfl, ?_⟩
  refine iteF ?_
  have e1 := s1 _ _ hp
  refine ⟨_, rfl, _, rfl, p, _, dx, _, rfl, e1, C.clP, C.nPl, by decide, ?_⟩
  have k1 : Keep H (upd H1 p (.ins a.P dx (putF "long" (.int W.long) []))) := (Same.keep s1).upd' (by rw [hp]; trivial)
  have nl : l ≠ p := ne_of hl hp (by intro z; cases z)
  have el : (upd H1 p (.ins a.P dx (putF "long" (.int W.long) []))) l = some (.lst refs) := by rw [upd_ne nl]; exact s1 _ _ hl
  refine ⟨_, rfl, _, _, rfl, .inl ⟨SqL.of el, fun t ht => ?_⟩⟩
  have ht1 : H1 t = none := by
    have : t ≠ p := by
      rintro rfl
      rw [upd_same] at ht
      cases ht
    rw [upd_ne this] at ht
    exact ht
  have nt : p ≠ t := ne_of_none e1 ht1
  refine ⟨_, rfl, p, _, dx, _, rfl, by rw [upd_ne nt]; exact upd_same, C.clP, C.nPs, by show 1 < 1000; decide, ?_⟩
  refine ⟨_, rfl, _, rfl, p, _, dx, _, rfl, upd_same, C.clP, C.nPm, by show 2 < 1000; decide, ?_⟩
  rw [put_pfs]
  have mu : Mut (H p) := by rw [hp]; trivial
  have ht0 : H t = none := by
    cases e : H t with
    | none => rfl
    | some o =>
      rw [s1 _ _ e] at ht1
      cases ht1
  have k4 : Keep H (upd (upd (upd (upd H1 p (.ins a.P dx (putF "long" (.int W.long) []))) t (.tup refs)) p (.ins a.P dx (putF "stakes" (.ref t) (putF "long" (.int W.long) [])))) p (.ins a.P dx (pfs W.long t))) := ((k1.new ht0).upd' mu).upd' mu
  refine k _ (fun b o' e nb => ?_) ⟨dx, t, refs, upd_same, SqT.of ?_, Paired.mapP hq fun _ _ z => z.keep k4⟩
  · rw [upd_ne nb, upd_ne nb, upd_ne (ne_of_none e ht0), upd_ne nb]
    exact s1 _ _ e
  · rw [upd_ne nt.symm, upd_ne nt.symm, upd_same]
end Pf
end

section
namespace Pf
open PySem PySem.Spec PyProof.Rows L2
variable {P : Program} {w : World} {K : PySem.W.Frag} {mg : Str → Option Value} {base : Heap} {a : Ad}
/-- a slice of a tuple, the whole one too -/
def rSlU (K : PySem.W.Frag) : V → Option Int → Option Int → Hp → VK → Prop := fun x lo hi H Q => ∃ a xs, x = .ref a ∧ SqT K H a xs ∧ ∀ p H', Same H H' → SqT K H' p (cutV xs lo hi) → Q (.ref p) H'
theorem sl_tupU {X : Cx} : SlR X (rSlU X.K) := by
  intro pins s σ H x v vl vu lo hi sl Q I rx hs pl pu h
  obtain ⟨a, xs, rfl, hx, q⟩ := h
  refine sl_tupA pins s σ H _ v vl vu lo hi sl Q I rx hs pl pu ⟨a, xs, rfl, hx, fun z => q a H (Same.refl H) ?_, fun _ p hp => q p _ (same_new hp) (SqT.of upd_same)⟩
  have e : cutV xs lo hi = xs := by
    unfold cutV
    rw [z.1, z.2]
    simp
  rw [e]
  exact hx
/-! ### lots -/
def LotV (K : PySem.W.Frag) (H : Hp) (v : V) (s : List Int) : Prop := ∃ p, v = .ref p ∧ SqT K H p (s.map V.int)
theorem LotV.keep {H H' : Hp} {v : V} {s : List Int} (e : Keep H H') (h : LotV K H v s) : LotV K H' v s := by
  obtain ⟨p, rfl, h⟩ := h
  exact ⟨p, rfl, sqt_keep e h⟩
theorem LotV.same {H H' : Hp} {v : V} {s : List Int} (e : Same H H') (h : LotV K H v s) : LotV K H' v s := h.keep (Same.keep e)
theorem allP_rgV (n : Nat) : rgV 0 (n : Int) = (allP n).map V.int := by
  unfold rgV allP
  rw [List.map_map]
  congr 1
  · funext i
    simp
theorem inV_ints (p : Int) (s : List Int) : inV (.int p) (s.map V.int) = decide (p ∈ s) := by
  unfold inV
  rw [List.any_map]
  induction s with
  | nil => simp
  | cons q t ih =>
    rw [List.any_cons, ih]
    show ((q == p) || decide (p ∈ t)) = decide (p ∈ q :: t)
    by_cases e : q = p
    · simp [e]
    · have e' : ¬ p = q := fun z => e z.symm
      simp [e, e']
theorem flat_ints (s : List Int) : (s.map V.int).all flatV = true := by
  rw [List.all_map]
  exact List.all_eq_true.mpr fun _ _ => rfl
def spLotOf (K : PySem.W.Frag) (a : Ad) : Sp := fun vs H Q _ => ∃ (p : Addr) (W : Wd), vs = [.ref p, .non] ∧ Plk K a H p W ∧ W.n ≤ 12 ∧ ∀ H' v, Same H H' → LotV K H' v (allP W.n) → Q v H'
def spIsLot (K : PySem.W.Frag) (a : Ad) : Sp := fun vs H Q _ => ∃ (p : Addr) (W : Wd) (v : V) (s : List Int), vs = [.ref p, v] ∧ Plk K a H p W ∧ LotV K H v s ∧ Lot (W.n : Int) s ∧ s.length ≤ 12 ∧ ∀ H', Same H H' → Q (.bl true) H'
abbrev N_is_lot : List Str := ["plank", "thing", "one", "other"]
theorem sc_is_lot : FnScope N_is_lot ["plank", "thing"] (defScope s_is_lot) := ⟨rfl, rfl, rfl, by decide +kernel, rfl, by decide +kernel, by decide +kernel⟩
theorem walk_zipT {c b : Addr} {xs ys : List V} {n : Nat} (hn : n = min xs.length ys.length) : Walk (RZ.ItzT K c b) n (fun H => SqT K H c xs ∧ SqT K H b ys) (YPair (fun i => xs[i]?) (fun i => ys[i]?)) := by
  subst hn
  refine ⟨fun i _ hi q => ?_, fun _ q => ⟨xs, ys, q.1, q.2, by omega⟩, fun i H v H' _ q y => ?_⟩
  · have h1 : i < xs.length := by omega
    have h2 : i < ys.length := by omega
    exact ⟨xs, ys, xs[i], ys[i], q.1, q.2, by simp [h1], by simp [h2]⟩
  · obtain ⟨T, x, z, h1, h2, h3, h4, h5⟩ := y
    exact ⟨T, x, z, h1, h2, h3, h4 xs q.1, h5 ys q.2⟩
theorem ok_is_lot (G : Gd K mg "is_lot" s_is_lot) (B : Bt mg) (C : Ct K mg a) (D_is_whole : Df P w K mg base "is_whole" ["thing"] 1 spIsWhole) (D_Plank_count : Mf P w K mg base a.P "count" ["self"] 1 (spCount K a)) : Df P w K mg base "is_lot" ["plank", "thing"] 2 (spIsLot K a) := by
  refine df_mk G sc_is_lot (fun vs H Q E h => by obtain ⟨v, x, l, s, rfl, _⟩ := h; rfl) (fun _ _ _ _ _ _ us hl => match us, hl with | [_, _], _ => rfl) (fun f cdv A outer s H vs Q E hr h => ?_)
  obtain ⟨p, W, v, s, rfl, pk, ⟨t, rfl, h⟩, lt, l12, k⟩ := h
  refine ⟨_, (pss_cons (ps_if (PW.pt (pw_or (pt_not (pt_val (pe_callB call_isi (by rfl) B.isinstance (by decide +kernel) (pa_cons (pv 1) (pa_cons (pe_bltn (v := .ty "tuple") (by rfl) B.tuple (by decide +kernel) rfl) pa_nil))))) (pw_or1 (pt_not (pt_val (pe_callB (r := rAll K) (cr_all rfl) (by rfl) B.all_ (by decide +kernel) (pa_cons (pe_lc (own := [("one", 2)]) (g := gName 2) rfl sc_is_lot.nd (pi_tup (pv 1)) (blkOk_by (N := N_is_lot) (sc := defScope s_is_lot) (by decide +kernel)) (fun _ _ _ _ _ => (pg_name (i := 2) sc_is_lot.nd rfl (by first | exact Or.inl rfl | exact Or.inr rfl))) (fun _ _ _ _ _ => pts_nil) (fun _ _ _ _ _ => (pe_and (pcall D_is_whole hr (by decide) (by rfl) (pa_cons (pv 2) pa_nil)) (pe_one (pe_chain op_le op_lt pe_int (pv 2) (pmeth0 D_Plank_count C.clP hr (by decide) (pv 0))))))) pa_nil)))))))
    (pss_one (ps_ret pe_bl))
    pss_nil)
    (pss_one (ps_ret (pe_callB (r := rAll K) (cr_all rfl) (by rfl) B.all_ (by decide +kernel) (pa_cons (pe_lc (own := [("one", 2), ("other", 3)]) (g := gTup K 2 (gCons (gName 2) (gCons (gName 3) gNil))) rfl sc_is_lot.nd (RZ.pi_zipA (by rfl) B.zip (pa_cons (pv 1) (pa_cons (pe_slice (r := rSlU K) sl_tupU (pv 1) (po_some pe_int) po_none) pa_nil))) (blkOk_by (N := N_is_lot) (sc := defScope s_is_lot) (by decide +kernel)) (fun _ _ _ _ _ => (pg_tup (by rfl) (pgs_cons (pg_name (i := 2) sc_is_lot.nd rfl (by first | exact Or.inl rfl | exact Or.inr rfl)) (pgs_cons (pg_name (i := 3) sc_is_lot.nd rfl (by first | exact Or.inl rfl | exact Or.inr rfl)) pgs_nil)))) (fun _ _ _ _ _ => pts_nil) (fun _ _ _ _ _ => (pe_cmpR op_lt (pv 2) (pv 3) (nomark _)))) pa_nil))))), ?_⟩
  refine ⟨_, rfl, _, _, .type "tuple", _, true, rfl, .ty "tuple", tyx_tup h, kit_ty (by decide +kernel), _, rfl, ?_⟩
  refine iteF ⟨_, rfl, _, rfl, ⟨_, h⟩, fun D hD => ?_⟩
  have hlen : (s.map V.int).length ≤ 100000 := by rw [List.length_map]; omega
  refine lc_each (w := walk_tup (K := K) (a := t) (xs := s.map V.int)) hD hlen (fun _ y _ => y = V.bl true) (fun _ _ _ _ _ z => z) (fun H' s => sqt_same s h) (fun i x H1 H2 hi s' hy Q' k' => ?_) (fun H' g => ?_)
  · obtain ⟨rfl, hx⟩ := hy
    rw [List.getElem?_map] at hx
    obtain ⟨j, hj, rfl⟩ := Option.map_eq_some_iff.mp hx
    have jb := lt.2 j (List.mem_of_getElem? hj)
    have pk' := pk.same s'
    obtain ⟨dx, sk, refs, e1, _⟩ := id pk'
    refine ⟨rfl, _, rfl, j, rfl, _, rfl, ?_⟩
    refine iteT ⟨_, rfl, _, _, rfl, rfl, _, rfl, ?_⟩
    rw [decide_eq_true (show (0 : Int) ≤ j by omega)]
    refine iteT ⟨_, rfl, p, dx, _, rfl, e1, lk_count, p, W, rfl, pk', _, _, rfl, rfl, ?_⟩
    exact k' _ _ (Same.refl _) (congrArg V.bl (decide_eq_true jb.2))
  · refine ⟨_, _, rfl, grown_true g, _, rfl, ?_⟩
    rw [all_true]
    refine iteF ?_
    have h' := sqt_same g.same h
    refine ⟨_, rfl, _, rfl, 1, rfl, t, _, rfl, h', fun c H2 s2 hc => ?_⟩
    rw [cut1] at hc
    refine ⟨_, _, _, _, rfl, .inr ⟨sqt_same s2 h', hc, fun D2 hD2 => ?_⟩⟩
    have s3 := g.same.trans s2
    refine lc_each (w := walk_zipT (K := K) (c := t) (b := c) (xs := s.map V.int) (ys := (s.map V.int).drop 1) rfl) hD2 (by omega) (fun _ y _ => y = V.bl true) (fun _ _ _ _ _ z => z) (fun H' s => ⟨sqt_same (s2.trans s) h', sqt_same s hc⟩) (fun i v H1 H2 hi s4 hy Q' k' => ?_) (fun H' g => ?_)
    · obtain ⟨T, x, y, rfl, hT, rfl, hx, hy⟩ := hy
      have hy : (s.map V.int)[1 + i]? = some y := by rw [← List.getElem?_drop]; exact hy
      have hx : (s.map V.int)[i]? = some x := hx
      rw [List.getElem?_map] at hx hy
      obtain ⟨j, hj, rfl⟩ := Option.map_eq_some_iff.mp hx
      obtain ⟨j2, hj2, rfl⟩ := Option.map_eq_some_iff.mp hy
      obtain ⟨b1, f1⟩ := List.getElem?_eq_some_iff.mp hj
      obtain ⟨b2, f2⟩ := List.getElem?_eq_some_iff.mp hj2
      have ltj : j < j2 := by
        have := List.pairwise_iff_getElem.mp lt.1 i (1 + i) b1 b2 (by omega)
        rw [f1, f2] at this
        exact this
      exact ⟨T, _, rfl, SqT.of upd_same, rfl, _, _, rfl, _, _, rfl, rfl, rfl, _, rfl, _, rfl, _, _, rfl, rfl, k' _ _ (same_new hT) (congrArg V.bl (decide_eq_true ltj))⟩
    · refine ⟨_, _, rfl, grown_true g, ?_⟩
      rw [all_true]
      exact k _ (s3.trans g.same)
abbrev N_lot_of : List Str := ["plank", "lot"]
theorem sc_lot_of : FnScope N_lot_of ["plank", "lot"] (defScope s_lot_of) := ⟨rfl, rfl, rfl, by decide +kernel, rfl, by decide +kernel, by decide +kernel⟩
theorem ok_lot_of (G : Gd K mg "lot_of" s_lot_of) (B : Bt mg) (C : Ct K mg a) (D_is_lot : Df P w K mg base "is_lot" ["plank", "thing"] 2 (spIsLot K a)) (D_Plank_count : Mf P w K mg base a.P "count" ["self"] 1 (spCount K a)) : Df P w K mg base "lot_of" ["plank", "lot"] 3 (spLotOf K a) := by
  refine df_mk G sc_lot_of (fun vs H Q E h => by obtain ⟨v, x, rfl, _⟩ := h; rfl) (fun _ _ _ _ _ _ us hl => match us, hl with | [_, _], _ => rfl) (fun f cdv A outer s H vs Q E hr h => ?_)
  obtain ⟨p, W, rfl, pk, n12, k⟩ := h
  obtain ⟨dx, sk, refs, e1, _⟩ := id pk
  refine ⟨_, (pss_cons (ps_if (pt_cmpR op_isN (pv 1) pe_non (nomark _))
    (pss_one (ps_ret (pe_tupRg rfl (by rfl) B.tuple (prg_1 (by rfl) B.range (pmeth0 D_Plank_count C.clP hr (by decide) (pv 0))))))
    pss_nil)
    (pss_cons (ps_if (pt_not (pt_val (pcall D_is_lot hr (by decide) (by rfl) (pa_cons (pv 0) (pa_cons (pv 1) pa_nil)))))
    (pss_one (ps_never))
    pss_nil)
    (pss_one (ps_ret (pv 1))))), ?_⟩
  refine ⟨_, rfl, rfl, _, rfl, ?_⟩
  refine iteT ⟨_, rfl, p, dx, _, rfl, e1, lk_count, p, W, rfl, pk, _, rfl, RgOk.of_le (by omega) (by omega) (by omega) (by omega), fun q hq => ?_⟩
  rw [allP_rgV]
  exact k _ _ (same_new hq) ⟨q, rfl, SqT.of upd_same⟩
def spCheckProp (K : PySem.W.Frag) : Sp := fun vs H Q _ => ∃ (v : V) (p : Int) (s : List Int), vs = [v, .int p] ∧ LotV K H v s ∧ p ∈ s ∧ Q .non H
abbrev N_check_prop : List Str := ["lot", "thing"]
theorem sc_check_prop : FnScope N_check_prop ["lot", "thing"] (defScope s_check_prop) := ⟨rfl, rfl, rfl, by decide +kernel, rfl, by decide +kernel, by decide +kernel⟩
theorem ok_check_prop (G : Gd K mg "check_prop" s_check_prop) (D_is_whole : Df P w K mg base "is_whole" ["thing"] 1 spIsWhole) : Df P w K mg base "check_prop" ["lot", "thing"] 2 (spCheckProp K) := by
  refine df_mk G sc_check_prop (fun vs H Q E h => by obtain ⟨v, x, s, rfl, _⟩ := h; rfl) (fun _ _ _ _ _ _ us hl => match us, hl with | [_, _], _ => rfl) (fun f cdv A outer s H vs Q E hr h => ?_)
  obtain ⟨v, p, s, rfl, ⟨t, rfl, h⟩, hp, k⟩ := h
  refine ⟨_, (pss_one (ps_if (PW.pt (pw_or (pt_not (pt_val (pcall D_is_whole hr (by decide) (by rfl) (pa_cons (pv 1) pa_nil)))) (pw_or1 (pt_cmpR (r := rIn K true) op_notIn_seq (pv 1) (pv 0) (by rfl)))))
    (pss_one (ps_never))
    pss_nil)), ?_⟩
  refine ⟨_, rfl, p, rfl, _, rfl, ?_⟩
  refine iteF ⟨_, rfl, _, rfl, t, _, rfl, .inr h, rfl, flat_ints s, _, rfl, ?_⟩
  rw [inV_ints, decide_eq_true hp]
  exact iteF k
def spRests (K : PySem.W.Frag) (a : Ad) : Sp := fun vs H Q _ => ∃ (p : Addr) (W : Wd) (v : V) (s : List Int), vs = [.ref p, v] ∧ Plk K a H p W ∧ LotV K H v s ∧ s.length ≤ 12 ∧ ∀ H' q, Same H H' → SqT K H' q (((-1 : Int) :: (s ++ [(W.n : Int)])).map V.int) → Q (.ref q) H'
abbrev N_rests_of : List Str := ["plank", "lot"]
theorem sc_rests_of : FnScope N_rests_of ["plank", "lot"] (defScope s_rests_of) := ⟨rfl, rfl, rfl, by decide +kernel, rfl, by decide +kernel, by decide +kernel⟩
theorem ok_rests_of (G : Gd K mg "rests_of" s_rests_of) (C : Ct K mg a) (D_Plank_count : Mf P w K mg base a.P "count" ["self"] 1 (spCount K a)) : Df P w K mg base "rests_of" ["plank", "lot"] 2 (spRests K a) := by
  refine df_mk G sc_rests_of (fun vs H Q E h => by obtain ⟨v, x, s, t, rfl, _⟩ := h; rfl) (fun _ _ _ _ _ _ us hl => match us, hl with | [_, _], _ => rfl) (fun f cdv A outer s H vs Q E hr h => ?_)
  obtain ⟨p, W, v, s, rfl, pk, ⟨t, rfl, h⟩, l12, k⟩ := h
  refine ⟨_, (pss_one (ps_ret (pe_op op_catT (pe_op op_catT (pe_tup (pa_cons (pe_gint (by rfl) C.LEFT_WALL) pa_nil)) (pv 1)) (pe_tup (pa_cons (pmeth0 D_Plank_count C.clP hr (by decide) (pv 0)) pa_nil))))), ?_⟩
  refine ⟨by show 1 ≤ sizeLine; decide, fun q hq => ⟨_, rfl, ?_⟩⟩
  have s1 := same_new (o := .tup [V.int (-1)]) hq
  have fin : ∀ (H2 : Hp) (r : Addr), Same H H2 → SqT K H2 r (((-1 : Int) :: s).map V.int) → (tTup (tCons (tMeth a.P "count" (spCount K a) [] E0 (tVar 0) tNil) tNil) (L2.start N_rests_of [V.ref p, V.ref t]) H2 fun y H3 => rCatT K (.ref r) y H3 Q) := fun H2 r s2 hr2 => by
    have pk' := pk.same s2
    obtain ⟨dx, sk, refs, e1, _⟩ := id pk'
    refine ⟨_, rfl, p, dx, _, rfl, e1, lk_count, p, W, rfl, pk', by show 1 ≤ sizeLine; decide, fun q2 hq2 => ?_⟩
    have s3 := same_new (o := .tup [V.int (W.n : Int)]) hq2
    refine ⟨_, _, _, _, rfl, rfl, sqt_same s3 hr2, SqT.of upd_same, (by simp), small (by simp; omega), (fun z => by cases z), fun _ q3 hq3 => ?_⟩
    refine k _ _ ((s2.trans s3).trans (same_new hq3)) (SqT.of ?_)
    rw [upd_same]
    simp
  refine ⟨_, _, _, _, rfl, rfl, SqT.of upd_same, sqt_same s1 h, (by simp), small (by simp; omega), fun z => ?_, fun _ q2 hq2 => ?_⟩
  · have e : s = [] := by simpa using z
    subst e
    exact fin _ q s1 (SqT.of upd_same)
  · exact fin _ q2 (s1.trans (same_new hq2)) (SqT.of upd_same)
end Pf
end

section
namespace Pf
open PySem PySem.Spec PyProof.Rows L2
variable {P : Program} {w : World} {K : PySem.W.Frag} {mg : Str → Option Value} {base : Heap} {a : Ad}
/-- a place on the plank -/
structure Spt (W : Wd) (q : Rat) : Prop where
  lo : 0 ≤ q
  hi : q ≤ (W.long : Rat)
  sz : Sz 128 q
theorem sz_len {i : Int} (h0 : -1 ≤ i) (h : i ≤ 1000) : Sz 11 (i : Rat) := Sz.int (by show i.natAbs < 2048; omega) (by decide)
theorem Wd.Ok.szl {W : Wd} (o : W.Ok) : Sz 11 (W.long : Rat) := sz_len (by have := o.l2; omega) o.lm
def spIsSpot (K : PySem.W.Frag) (a : Ad) : Sp := fun vs H Q _ => ∃ (p : Addr) (W : Wd) (v : V) (q : Rat), vs = [.ref p, v] ∧ Plk K a H p W ∧ W.Ok ∧ Fr K H v q ∧ Spt W q ∧ ∀ H', Same H H' → Q (.bl true) H'
abbrev N_is_spot : List Str := ["plank", "thing"]
theorem sc_is_spot : FnScope N_is_spot ["plank", "thing"] (defScope s_is_spot) := ⟨rfl, rfl, rfl, by decide +kernel, rfl, by decide +kernel, by decide +kernel⟩
theorem ok_is_spot (G : Gd K mg "is_spot" s_is_spot) (C : Ct K mg a) (D_is_measure : Df P w K mg base "is_measure" ["thing"] 3 (spMeasure K)) (D_is_below : Df P w K mg base "is_below" ["one", "other"] 1 (spBelow K)) (D_whole : Df P w K mg base "whole" ["number"] 1 (spWhole K))
    (D_Plank_length : Mf P w K mg base a.P "length" ["self"] 1 (spLength K a)) : Df P w K mg base "is_spot" ["plank", "thing"] 4 (spIsSpot K a) := by
  refine df_mk G sc_is_spot (fun vs H Q E h => by obtain ⟨v, x, l, s, rfl, _⟩ := h; rfl) (fun _ _ _ _ _ _ us hl => match us, hl with | [_, _], _ => rfl) (fun f cdv A outer s H vs Q E hr h => ?_)
  obtain ⟨p, W, v, q, rfl, pk, o, fq, sp, k⟩ := h
  refine ⟨_, (pss_one (ps_ret (pe_and (pcall D_is_measure hr (by decide) (by rfl) (pa_cons (pv 1) pa_nil)) (pe_one (pe_not (pcall D_is_below hr (by decide) (by rfl) (pa_cons (pcall D_whole hr (by decide) (by rfl) (pa_cons (pmeth0 D_Plank_length C.clP hr (by decide) (pv 0)) pa_nil)) (pa_cons (pv 1) pa_nil)))))))), ?_⟩
  refine ⟨_, rfl, v, q, 128, rfl, fq, sp.sz, by decide, sp.lo, fun H1 s1 => ⟨_, rfl, ?_⟩⟩
  have pk1 := pk.same s1
  obtain ⟨dx, sk, refs, e1, _⟩ := id pk1
  refine iteT ⟨_, rfl, p, dx, _, rfl, e1, lk_length, p, W, rfl, pk1, _, rfl, fun H2 v2 s2 f2 => ?_⟩
  refine ⟨_, rfl, v2, v, _, q, rfl, f2, fq.same (s1.trans s2), ⟨_, _, o.szl, sp.sz, by decide⟩, _, rfl, ?_⟩
  rw [decide_eq_false (Rat.not_lt.mpr sp.hi)]
  exact k _ (s1.trans s2)
def spCheckSpot (K : PySem.W.Frag) (a : Ad) : Sp := fun vs H Q _ => ∃ (p : Addr) (W : Wd) (v : V) (q : Rat), vs = [.ref p, v] ∧ Plk K a H p W ∧ W.Ok ∧ Fr K H v q ∧ Spt W q ∧ ∀ H', Same H H' → Q .non H'
abbrev N_check_spot : List Str := ["plank", "thing"]
theorem sc_check_spot : FnScope N_check_spot ["plank", "thing"] (defScope s_check_spot) := ⟨rfl, rfl, rfl, by decide +kernel, rfl, by decide +kernel, by decide +kernel⟩
theorem ok_check_spot (G : Gd K mg "check_spot" s_check_spot) (D_is_spot : Df P w K mg base "is_spot" ["plank", "thing"] 4 (spIsSpot K a)) : Df P w K mg base "check_spot" ["plank", "thing"] 5 (spCheckSpot K a) := by
  refine df_mk G sc_check_spot (fun vs H Q E h => by obtain ⟨v, x, l, s, rfl, _⟩ := h; rfl) (fun _ _ _ _ _ _ us hl => match us, hl with | [_, _], _ => rfl) (fun f cdv A outer s H vs Q E hr h => ?_)
  obtain ⟨p, W, v, q, rfl, pk, o, fq, sp, k⟩ := h
  exact ⟨_, (pss_one (ps_if (pt_not (pt_val (pcall D_is_spot hr (by decide) (by rfl) (pa_cons (pv 0) (pa_cons (pv 1) pa_nil)))))
    (pss_one (ps_never))
    pss_nil)), _, rfl, _, rfl, p, W, v, q, rfl, pk, o, fq, sp, fun H1 s1 => ⟨_, rfl, iteF (k _ s1)⟩⟩
def spIsWeight (K : PySem.W.Frag) (a : Ad) : Sp := fun vs H Q _ => ∃ (p : Addr) (W : Wd) (v : V) (q : Rat × Rat), vs = [.ref p, v] ∧ Plk K a H p W ∧ W.Ok ∧ Wt K H v q ∧ Spt W q.1 ∧ 0 < q.2 ∧ Sz 128 q.2 ∧ ∀ H', Same H H' → Q (.bl true) H'
abbrev N_is_weight : List Str := ["plank", "thing"]
theorem sc_is_weight : FnScope N_is_weight ["plank", "thing"] (defScope s_is_weight) := ⟨rfl, rfl, rfl, by decide +kernel, rfl, by decide +kernel, by decide +kernel⟩
theorem ok_is_weight (G : Gd K mg "is_weight" s_is_weight) (B : Bt mg) (C : Ct K mg a) (D_is_spot : Df P w K mg base "is_spot" ["plank", "thing"] 4 (spIsSpot K a)) (D_is_fraction : Df P w K mg base "is_fraction" ["thing"] 2 (spIsFr K))
    (D_is_below : Df P w K mg base "is_below" ["one", "other"] 1 (spBelow K)) : Df P w K mg base "is_weight" ["plank", "thing"] 5 (spIsWeight K a) := by
  refine df_mk G sc_is_weight (fun vs H Q E h => by obtain ⟨v, x, l, s, rfl, _⟩ := h; rfl) (fun _ _ _ _ _ _ us hl => match us, hl with | [_, _], _ => rfl) (fun f cdv A outer s H vs Q E hr h => ?_)
  obtain ⟨p, W, v, ⟨q, m⟩, rfl, pk, o, ⟨t, xv, mv, rfl, h, fx, fm⟩, sp, m0, mz, k⟩ := h
  refine ⟨_, (pss_cons (ps_if (PW.pt (pw_or (pt_not (pt_val (pe_callB call_isi (by rfl) B.isinstance (by decide +kernel) (pa_cons (pv 1) (pa_cons (pe_bltn (v := .ty "tuple") (by rfl) B.tuple (by decide +kernel) rfl) pa_nil))))) (pw_or1 (pt_cmpR op_ne (pe_callB call_len_seq (by rfl) B.len (by decide +kernel) (pa_cons (pv 1) pa_nil)) pe_int (nomark _)))))
    (pss_one (ps_ret pe_bl))
    pss_nil)
    (pss_one (ps_ret (pe_and (pcall D_is_spot hr (by decide) (by rfl) (pa_cons (pv 0) (pa_cons (pe_ix (r := rIxT K) ix_tup (pv 1) pe_int (fun _ _ => rfl)) pa_nil))) (pe_and (pcall D_is_fraction hr (by decide) (by rfl) (pa_cons (pe_ix (r := rIxT K) ix_tup (pv 1) pe_int (fun _ _ => rfl)) pa_nil)) (pe_one (pcall D_is_below hr (by decide) (by rfl) (pa_cons (pe_glob (v := .ref _) (by rfl) C.NOUGHT rfl) (pa_cons (pe_ix (r := rIxT K) ix_tup (pv 1) pe_int (fun _ _ => rfl)) pa_nil))))))))), ?_⟩
  refine ⟨_, rfl, _, _, .type "tuple", _, true, rfl, .ty "tuple", tyx_tup h, kit_ty (by decide +kernel), _, rfl, ?_⟩
  refine iteF ⟨_, rfl, _, _, rfl, .inr h, rfl, _, rfl, ?_⟩
  refine iteF ⟨_, rfl, _, rfl, _, _, _, _, rfl, rfl, h, rfl, p, W, xv, q, rfl, pk, o, fx, sp, fun H1 s1 => ⟨_, rfl, ?_⟩⟩
  have h1 := sqt_same s1 h
  refine iteT ⟨_, rfl, _, _, _, _, rfl, rfl, h1, rfl, mv, m, rfl, fm.same s1, fun H2 s2 => ⟨_, rfl, ?_⟩⟩
  have h2 := sqt_same s2 h1
  refine iteT ⟨_, rfl, _, _, _, _, rfl, rfl, h2, rfl, _, mv, _, m, rfl, fr_no C H2, (fm.same s1).same s2, ⟨_, _, sz_zero, mz, by decide⟩, ?_⟩
  rw [decide_eq_true m0]
  exact k _ (s1.trans s2)
def spCheckWeights (K : PySem.W.Frag) (a : Ad) : Sp := fun vs H Q _ => ∃ (p l : Addr) (W : Wd) (refs : List V), vs = [.ref p, .ref l] ∧ Plk K a H p W ∧ W.Ok ∧ SqL K H l refs ∧ Paired (Wt K H) refs W.hv ∧ ∀ H', Same H H' → Q .non H'
abbrev N_check_weights : List Str := ["plank", "thing", "at", "one"]
theorem sc_check_weights : FnScope N_check_weights ["plank", "thing"] (defScope s_check_weights) := ⟨rfl, rfl, rfl, by decide +kernel, rfl, by decide +kernel, by decide +kernel⟩
theorem ok_check_weights (G : Gd K mg "check_weights" s_check_weights) (B : Bt mg) (D_is_weight : Df P w K mg base "is_weight" ["plank", "thing"] 5 (spIsWeight K a)) : Df P w K mg base "check_weights" ["plank", "thing"] 6 (spCheckWeights K a) := by
  refine df_mk G sc_check_weights (fun vs H Q E h => by obtain ⟨v, x, l, s, rfl, _⟩ := h; rfl) (fun _ _ _ _ _ _ us hl => match us, hl with | [_, _], _ => rfl) (fun f cdv A outer s H vs Q E hr h => ?_)
  obtain ⟨p, l, W, refs, rfl, pk, o, h, hw, k⟩ := h
  refine ⟨_, (pss_cons (ps_if (pt_not (pt_val (pe_callB call_isi (by rfl) B.isinstance (by decide +kernel) (pa_cons (pv 1) (pa_cons (pe_bltn (v := .ty "list") (by rfl) B.list_ (by decide +kernel) rfl) pa_nil)))))
    (pss_one (ps_never))
    pss_nil)
    (pss_one (ps_for PassesOwn.never rfl (pi_enum (by rfl) B.enumerate (pa_cons (pv 1) pa_nil)) (pg_tup (by rfl) (pgs_cons (pg_name (i := 2) sc_check_weights.nd rfl (by first | exact Or.inl rfl | exact Or.inr rfl)) (pgs_cons (pg_name (i := 3) sc_check_weights.nd rfl (by first | exact Or.inl rfl | exact Or.inr rfl)) pgs_nil)))
    (pss_one (ps_if (pt_not (pt_val (pcall D_is_weight hr (by decide) (by rfl) (pa_cons (pv 0) (pa_cons (pv 3) pa_nil)))))
      (pss_one (ps_never))
      pss_nil))))), ?_⟩
  refine ⟨_, rfl, _, _, .type "list", _, true, rfl, .ty "list", tyx_lst h, kit_ty (by decide +kernel), _, rfl, ?_⟩
  refine iteF ⟨_, rfl, l, refs, rfl, h, ?_⟩
  refine for_it (walk_enum (K := K) (a := l) (xs := refs)) (fun i σ H' => Same H H' ∧ ∃ x y, σ = [some (.ref p), some (.ref l), x, y]) ⟨Same.refl _, _, _, rfl⟩ (fun i σ H' _ I => sql_same I.1 h) (fun i x σ H1 H2 hi I hy => ?_) (fun σ H' I => k _ I.1)
  obtain ⟨s1, x1, y1, rfl⟩ := I
  obtain ⟨T, z, y, rfl, hT, rfl, hz, hy⟩ := hy
  have hy : refs[i]? = some y := hy
  obtain ⟨q, hq, hwt⟩ := Paired.get? hw hy
  obtain ⟨b1, b2, b3, b4, b5⟩ := o.hv0 q (List.mem_of_getElem? hq)
  have s2 := s1.trans (same_new (o := .tup [z, y]) hT)
  refine ⟨T, _, rfl, SqT.of upd_same, rfl, _, _, rfl, _, _, rfl, rfl, ?_⟩
  refine ⟨_, rfl, _, rfl, p, W, y, q, rfl, pk.same s2, o, hwt.keep (Same.keep s2), ⟨b1, b2, b4⟩, b3, b5, fun H3 s3 => ⟨_, rfl, ?_⟩⟩
  exact iteF ⟨s2.trans s3, _, _, rfl⟩
def spSlope (K : PySem.W.Frag) : Sp := fun vs H Q _ => ∃ (lo hi : Int) (v : V) (q : Rat), vs = [.int lo, .int hi, v] ∧ Fr K H v q ∧ Sz 128 q ∧ 0 ≤ lo ∧ lo < hi ∧ hi ≤ 1000 ∧ ∀ H' v', Same H H' → Fr K H' v' ((q - (lo : Rat)) / ((hi : Rat) - (lo : Rat))) → Q v' H'
abbrev N_slope : List Str := ["low", "high", "spot"]
theorem sc_slope : FnScope N_slope ["low", "high", "spot"] (defScope s_slope) := ⟨rfl, rfl, rfl, by decide +kernel, rfl, by decide +kernel, by decide +kernel⟩
theorem ok_slope (G : Gd K mg "slope" s_slope) (D_over : Df P w K mg base "over" ["one", "other"] 3 (sp2 K (· / ·) pos2)) (D_less : Df P w K mg base "less" ["one", "other"] 3 (sp2 K (· - ·) any2)) (D_whole : Df P w K mg base "whole" ["number"] 1 (spWhole K)) : Df P w K mg base "slope" ["low", "high", "spot"] 4 (spSlope K) := by
  refine df_mk G sc_slope (fun vs H Q E h => by obtain ⟨v, x, l, s, rfl, _⟩ := h; rfl) (fun _ _ _ _ _ _ us hl => match us, hl with | [_, _, _], _ => rfl) (fun f cdv A outer s H vs Q E hr h => ?_)
  obtain ⟨lo, hi, v, q, rfl, fq, sq, l0, lh, h1, k⟩ := h
  refine ⟨_, (pss_one (ps_ret (pcall D_over hr (by decide) (by rfl) (pa_cons (pcall D_less hr (by decide) (by rfl) (pa_cons (pv 2) (pa_cons (pcall D_whole hr (by decide) (by rfl) (pa_cons (pv 0) pa_nil)) pa_nil))) (pa_cons (pcall D_whole hr (by decide) (by rfl) (pa_cons (pe_op op_sub (pv 1) (pv 0)) pa_nil)) pa_nil))))), ?_⟩
  refine ⟨_, rfl, _, rfl, lo, rfl, fun H1 v1 s1 f1 => ?_⟩
  refine ⟨v, v1, q, (lo : Rat), rfl, fq.same s1, f1, ⟨_, _, sq, sz_len (by omega) (by omega), by decide⟩, trivial, fun H2 v2 s2 f2 => ?_⟩
  refine ⟨_, rfl, _, rfl, _, _, rfl, rfl, hi - lo, rfl, fun H3 v3 s3 f3 => ?_⟩
  have e : (((hi - lo : Int)) : Rat) = (hi : Rat) - (lo : Rat) := Rat.intCast_sub _ _
  have ps : (0 : Rat) < ((hi - lo : Int) : Rat) := by rw [e]; exact cast_sub_pos lh
  refine ⟨v2, v3, _, _, rfl, f2.same s3, f3, ⟨_, _, sq.sub (sz_len (by omega) (by omega)), sz_len (i := hi - lo) (by omega) (by omega), by decide⟩, ps, fun H4 v4 s4 f4 => ?_⟩
  rw [e] at f4
  exact k _ _ ((s1.trans s2).trans (s3.trans s4)) f4
end Pf
end

section
namespace Pf
open PySem PySem.Spec PyProof.Rows L2
variable {P : Program} {w : World} {K : PySem.W.Frag} {mg : Str → Option Value} {base : Heap} {a : Ad}
/-! ### fractions compared -/
def frD (q : Rat) : PyData := .tuple [.int q.num, .int (q.den : Int)]
theorem dp_fr {H : Hp} {v : V} {q : Rat} (h : Fr K H v q) : Dp K H v (frD q) := by
  obtain ⟨p, rfl, h⟩ := h
  exact .tup h (.cons (.int _) (.cons (.int _) .nil))
theorem shaped_fr (q : Rat) : SeqAt.shaped (frD q) = true := by
  simp [SeqAt.shaped, frD, PyData.canLay0, PyData.canLayAll0, PyData.depth, PyData.depthAll]
theorem eqv_fr (x y : Rat) : PyData.eqv (frD x) (frD y) = decide (x = y) := by
  have e : PyData.eqv (frD x) (frD y) = (x.num == y.num && (((x.den : Nat) : Int) == ((y.den : Nat) : Int) && true)) := by
    simp [frD, PyData.eqv, PyData.eqvAll]
  rw [e, Bool.and_true]
  by_cases h : x = y
  · subst h
    simp
  · rw [decide_eq_false h, Bool.and_eq_false_iff]
    by_cases h1 : x.num = y.num
    · right
      apply beq_eq_false_iff_ne.mpr
      intro h2
      exact h (Rat.ext h1 (by omega))
    · left
      exact beq_eq_false_iff_ne.mpr h1
/-! ### shares, loads of a plank -/
def Wd.sh (W : Wd) (l p r : Int) (x : Rat) : Rat := Pf.sh (W.pl l) (W.pl p) (W.pl r) x
def Wd.ld (W : Wd) (l p r : Int) : Rat := Pf.ld W.hv (W.pl l) (W.pl p) (W.pl r)
theorem Wd.Ok.pl3 {W : Wd} (o : W.Ok) {l p r : Int} (k : Key3 W.n l p r) : 0 ≤ W.pl l ∧ W.pl l < W.pl p ∧ W.pl p < W.pl r ∧ W.pl r ≤ 1000 := by
  obtain ⟨k1, k2, k3, k4⟩ := k
  exact ⟨(o.pl_bd k1 (by omega)).1, o.pl_lt k1 k2 (by omega), o.pl_lt (by omega) k3 k4, (o.pl_bd (by omega) k4).2⟩
theorem sh_at {l p r : Int} {x : Rat} (h1 : l < p) (e : x = (p : Rat)) : Pf.sh l p r x = 1 := by
  unfold Pf.sh
  have := cast_lt h1
  rw [if_pos ⟨by grind, by grind⟩, e, Rat.div_def, Rat.mul_inv_cancel]
  have := cast_sub_pos h1
  grind
theorem sh_low {l p r : Int} {x : Rat} (e : x < (p : Rat)) (h : ¬ (l : Rat) < x) : Pf.sh l p r x = 0 := by
  unfold Pf.sh
  rw [if_neg (fun z => h z.1), if_neg (fun z => by grind)]
theorem sh_left {l p r : Int} {x : Rat} (e : x < (p : Rat)) (h : (l : Rat) < x) : Pf.sh l p r x = (x - (l : Rat)) / ((p : Rat) - (l : Rat)) := by
  unfold Pf.sh
  rw [if_pos ⟨h, by grind⟩]
theorem sh_high {l p r : Int} {x : Rat} (ne : x ≠ (p : Rat)) (e : ¬ x < (p : Rat)) (h : ¬ x < (r : Rat)) : Pf.sh l p r x = 0 := by
  unfold Pf.sh
  rw [if_neg (fun z => by grind), if_neg (fun z => by grind)]
theorem sh_right {l p r : Int} {x : Rat} (h1 : p < r) (ne : x ≠ (p : Rat)) (e : ¬ x < (p : Rat)) (h : x < (r : Rat)) : Pf.sh l p r x = 1 - (x - (p : Rat)) / ((r : Rat) - (p : Rat)) := by
  unfold Pf.sh
  rw [if_neg (fun z => by grind), if_pos ⟨by grind, h⟩]
  have d := cast_sub_pos h1
  have d' : (r : Rat) - (p : Rat) ≠ 0 := by grind
  have e1 : (1 : Rat) = ((r : Rat) - (p : Rat)) / ((r : Rat) - (p : Rat)) := by rw [Rat.div_def, Rat.mul_inv_cancel _ d']
  rw [e1, Rat.div_def, Rat.div_def, Rat.div_def]
  grind
theorem sz_sh {l p r : Int} {x : Rat} (h0 : 0 ≤ l) (h1 : l < p) (h2 : p < r) (h3 : r ≤ 1000) (sx : Sz 128 x) : Sz 160 (Pf.sh l p r x) := by
  have s1 : ∀ i : Int, 0 ≤ i → i ≤ 1000 → Sz 11 (i : Rat) := fun i a b => sz_len (by omega) b
  unfold Pf.sh
  split
  · rw [← Rat.intCast_sub]
    exact ((sx.sub (s1 l h0 (by omega))).div (s1 (p - l) (by omega) (by omega)) (by rw [Rat.intCast_sub]; exact cast_sub_pos h1)).mono (by decide)
  · split
    · rw [← Rat.intCast_sub]
      exact (((s1 r (by omega) h3).sub sx).div (s1 (r - p) (by omega) (by omega)) (by rw [Rat.intCast_sub]; exact cast_sub_pos h2)).mono (by decide)
    · exact sz_zero.mono (by decide)
/-! ### Loads -/
structure LdA where
  p : Addr
  dx : Addr
  pl : Addr
  wl : Addr
  dk : Addr
  dv : Addr
abbrev lfs (A : LdA) : List (Str × V) := [("plank", .ref A.pl), ("weights", .ref A.wl), ("known", .ref A.dk), ("over", .ref A.dv)]
theorem lk_plank {A : LdA} : (lfs A).lookup ("plank" : Str) = some (.ref A.pl) := by rfl
theorem lk_weights {A : LdA} : (lfs A).lookup ("weights" : Str) = some (.ref A.wl) := by rfl
theorem lk_known {A : LdA} : (lfs A).lookup ("known" : Str) = some (.ref A.dk) := by rfl
theorem lk_over {A : LdA} : (lfs A).lookup ("over" : Str) = some (.ref A.dv) := by rfl
theorem lk_share {A : LdA} : (lfs A).lookup ("share" : Str) = none := by rfl
theorem lk_lies {A : LdA} : (lfs A).lookup ("lies_on" : Str) = none := by rfl
theorem lk_isov {A : LdA} : (lfs A).lookup ("is_overlaid" : Str) = none := by rfl
theorem put_lfs (A : LdA) : putF "over" (.ref A.dv) (putF "known" (.ref A.dk) (putF "weights" (.ref A.wl) (putF "plank" (.ref A.pl) []))) = lfs A := by rfl
abbrev kk (l p r : Int) : List L2.Key := [.inl l, .inl p, .inl r]
/-- the part that is never changed -/
structure LdR (K : PySem.W.Frag) (a : Ad) (H : Hp) (A : LdA) (W : Wd) : Prop where
  ob : H A.p = some (.ins a.L A.dx (lfs A))
  pk : Plk K a H A.pl W
  wl : ∃ refs, H A.wl = some (.lst refs) ∧ Paired (Wt K H) refs W.hv
  ok : W.Ok
theorem LdR.same {H H' : Hp} {A : LdA} {W : Wd} (h : LdR K a H A W) (e : Same H H') : LdR K a H' A W := by
  obtain ⟨refs, h1, h2⟩ := h.wl
  exact ⟨e _ _ h.ob, h.pk.same e, ⟨refs, e _ _ h1, Paired.mapP h2 fun _ _ z => z.keep (Same.keep e)⟩, h.ok⟩
def spShare (K : PySem.W.Frag) (a : Ad) : Sp := fun vs H Q _ => ∃ (A : LdA) (W : Wd) (l p r : Int) (v : V) (q : Rat), vs = [.ref A.p, .int l, .int p, .int r, v] ∧ LdR K a H A W ∧ Key3 W.n l p r ∧ Fr K H v q ∧ Sz 128 q ∧ ∀ H' v', Same H H' → Fr K H' v' (W.sh l p r q) → Q v' H'
abbrev N_Loads_share : List Str := ["self", "left", "rest", "right", "spot", "here", "low", "high"]
theorem sc_Loads_share : FnScope N_Loads_share ["self", "left", "rest", "right", "spot"] (defScope s_Loads_share) := ⟨rfl, rfl, rfl, by decide +kernel, rfl, by decide +kernel, by decide +kernel⟩
theorem ok_share (G : Md K a.L "share" "Loads.share" s_Loads_share) (C : Ct K mg a) (D_whole : Df P w K mg base "whole" ["number"] 1 (spWhole K)) (D_is_below : Df P w K mg base "is_below" ["one", "other"] 1 (spBelow K))
    (D_slope : Df P w K mg base "slope" ["low", "high", "spot"] 4 (spSlope K)) (D_less : Df P w K mg base "less" ["one", "other"] 3 (sp2 K (· - ·) any2)) (D_Plank_place_of : Mf P w K mg base a.P "place_of" ["self", "rest"] 2 (spPlace K a))
    (D_Plank_count : Mf P w K mg base a.P "count" ["self"] 1 (spCount K a)) : Mf P w K mg base a.L "share" ["self", "left", "rest", "right", "spot"] 5 (spShare K a) := by
  refine mf_mk G sc_Loads_share (fun vs H Q E h => by obtain ⟨_, _, _, _, _, _, _, rfl, _⟩ := h; rfl) (fun _ _ _ _ _ _ us hl => match us, hl with | [_, _, _, _, _], _ => rfl) (fun f cdv A' outer s H vs Q E hr h => ?_)
  obtain ⟨A, W, l, p, r, v, q, rfl, L, k3, fq, sq, k⟩ := h
  obtain ⟨b0, b1, b2, b3⟩ := L.ok.pl3 k3
  refine ⟨_, (pss_cons (ps_set (i := 5) sc_Loads_share.nd rfl (by first | exact Or.inl rfl | exact Or.inr rfl) (pmeth D_Plank_place_of C.clP hr (by decide) (pe_fld (pv 0) rfl) (pa_cons (pv 2) pa_nil)))
    (pss_cons (ps_if (pt_cmpR (op_eqD hr.units) (pv 4) (pcall D_whole hr (by decide) (by rfl) (pa_cons (pv 5) pa_nil)) (nomark _))
    (pss_one (ps_ret (pe_glob (v := .ref _) (by rfl) C.ONE rfl)))
    pss_nil)
    (pss_cons (ps_if (pt_val (pcall D_is_below hr (by decide) (by rfl) (pa_cons (pv 4) (pa_cons (pcall D_whole hr (by decide) (by rfl) (pa_cons (pv 5) pa_nil)) pa_nil))))
    (pss_cons (ps_set (i := 6) sc_Loads_share.nd rfl (by first | exact Or.inl rfl | exact Or.inr rfl) (pe_ifExp (pt_cmpR op_eq (pv 2) (pe_gint (by rfl) C.LEFT_WALL) (nomark _)) pe_non (pmeth D_Plank_place_of C.clP hr (by decide) (pe_fld (pv 0) rfl) (pa_cons (pv 1) pa_nil))))
      (pss_cons (ps_if (PW.pt (pw_or (pt_cmpR op_isN (pv 6) pe_non (nomark _)) (pw_or1 (pt_not (pt_val (pcall D_is_below hr (by decide) (by rfl) (pa_cons (pcall D_whole hr (by decide) (by rfl) (pa_cons (pv 6) pa_nil)) (pa_cons (pv 4) pa_nil))))))))
      (pss_one (ps_ret (pe_glob (v := .ref _) (by rfl) C.NOUGHT rfl)))
      pss_nil)
      (pss_one (ps_ret (pcall D_slope hr (by decide) (by rfl) (pa_cons (pv 6) (pa_cons (pv 5) (pa_cons (pv 4) pa_nil))))))))
    pss_nil)
    (pss_cons (ps_set (i := 7) sc_Loads_share.nd rfl (by first | exact Or.inl rfl | exact Or.inr rfl) (pe_ifExp (pt_cmpR op_eq (pv 2) (pmeth0 D_Plank_count C.clP hr (by decide) (pe_fld (pv 0) rfl)) (nomark _)) pe_non (pmeth D_Plank_place_of C.clP hr (by decide) (pe_fld (pv 0) rfl) (pa_cons (pv 3) pa_nil))))
    (pss_cons (ps_if (PW.pt (pw_or (pt_cmpR op_isN (pv 7) pe_non (nomark _)) (pw_or1 (pt_not (pt_val (pcall D_is_below hr (by decide) (by rfl) (pa_cons (pv 4) (pa_cons (pcall D_whole hr (by decide) (by rfl) (pa_cons (pv 7) pa_nil)) pa_nil))))))))
    (pss_one (ps_ret (pe_glob (v := .ref _) (by rfl) C.NOUGHT rfl)))
    pss_nil)
    (pss_one (ps_ret (pcall D_less hr (by decide) (by rfl) (pa_cons (pe_glob (v := .ref _) (by rfl) C.ONE rfl) (pa_cons (pcall D_slope hr (by decide) (by rfl) (pa_cons (pv 5) (pa_cons (pv 7) (pa_cons (pv 4) pa_nil)))) pa_nil)))))))))), ?_⟩
  have hp : (0 : Int) ≤ p := by have := k3.lo; have := k3.ap; omega
  have hpn : p < W.n := by have := k3.pb; have := k3.hi; omega
  obtain ⟨pdx, psk, prefs, pe, _⟩ := id L.pk
  refine ⟨_, rfl, A.p, _, _, _, _, rfl, L.ob, C.clL, C.nLp, lk_plank, _, pdx, _, rfl, pe, lk_place, _, rfl, A.pl, W, p, rfl, L.pk, by omega, by omega, ?_⟩
  refine ⟨_, rfl, _, rfl, _, rfl, fun H1 v1 s1 f1 => ?_⟩
  refine ⟨_, _, dp_fr (fq.same s1), dp_fr f1, shaped_fr _, shaped_fr _, _, rfl, ?_⟩
  rw [eqv_fr]
  have L1 := L.same s1
  refine ite2 (fun c => ?_) (fun c => ?_)
  · have e := of_decide_eq_true c
    refine k _ _ s1 ?_
    show Fr K H1 _ (Pf.sh _ _ _ _)
    rw [sh_at b1 e]
    exact fr_on C _
  · have ne : q ≠ ((W.pl p : Int) : Rat) := fun z => c (decide_eq_true z)
    refine ⟨_, rfl, _, rfl, _, rfl, fun H2 v2 s2 f2 => ?_⟩
    have s02 := s1.trans s2
    have L2 := L.same s02
    refine ⟨v, v2, q, _, rfl, fq.same s02, f2, ⟨_, _, sq, sz_len (by omega) (by omega), by decide⟩, _, rfl, ?_⟩
    refine ite2 (fun c2 => ?_) (fun c2 => ?_)
    · have lt := of_decide_eq_true c2
      have ep : decide (V.int p = V.int (-1)) = false := decide_eq_false (fun z => by have := V.int.inj z; omega)
      refine ⟨_, rfl, rfl, _, rfl, ?_⟩
      rw [ep]
      obtain ⟨pdx, psk, prefs, pe, _⟩ := id L2.pk
      have := k3.lo
      have := k3.ap
      refine iteF ⟨_, rfl, A.p, _, _, _, _, rfl, L2.ob, C.clL, C.nLp, lk_plank, _, pdx, _, rfl, pe, lk_place, _, rfl, A.pl, W, l, rfl, L2.pk, k3.lo, by omega, ?_⟩
      refine ⟨_, rfl, rfl, _, rfl, ?_⟩
      refine iteF ⟨_, rfl, _, rfl, fun H3 v3 s3 f3 => ?_⟩
      have s03 := s02.trans s3
      refine ⟨_, rfl, v3, v, _, q, rfl, f3, fq.same s03, ⟨_, _, sz_len (by omega) (by omega), sq, by decide⟩, _, rfl, ?_⟩
      refine ite2 (fun c3 => ?_) (fun c3 => ?_)
      · have nlt : ¬ ((W.pl l : Int) : Rat) < q := by simpa using c3
        refine k _ _ s03 ?_
        show Fr K H3 _ (Pf.sh _ _ _ _)
        rw [sh_low lt nlt]
        exact fr_no C _
      · have hl : ((W.pl l : Int) : Rat) < q := by simpa using c3
        refine ⟨_, rfl, _, rfl, _, rfl, W.pl l, W.pl p, v, q, rfl, fq.same s03, sq, b0, b1, by omega, fun H4 v4 s4 f4 => k _ _ (s03.trans s4) ?_⟩
        show Fr K H4 _ (Pf.sh _ _ _ _)
        rw [sh_left lt hl]
        exact f4
    · have nlt : ¬ q < ((W.pl p : Int) : Rat) := fun z => c2 (decide_eq_true z)
      obtain ⟨pdx, psk, prefs, pe, _⟩ := id L2.pk
      have ep : decide (V.int p = V.int ((W.n : Nat) : Int)) = false := decide_eq_false (fun z => by have := V.int.inj z; omega)
      refine ⟨_, rfl, _, rfl, A.p, _, _, _, _, rfl, L2.ob, C.clL, C.nLp, lk_plank, _, pdx, _, rfl, pe, lk_count, A.pl, W, rfl, L2.pk, rfl, _, rfl, ?_⟩
      rw [ep]
      have := k3.hi
      have := k3.pb
      refine iteF ⟨_, rfl, A.p, _, _, _, _, rfl, L2.ob, C.clL, C.nLp, lk_plank, _, pdx, _, rfl, pe, lk_place, _, rfl, A.pl, W, r, rfl, L2.pk, by omega, k3.hi, ?_⟩
      refine ⟨_, rfl, rfl, _, rfl, ?_⟩
      refine iteF ⟨_, rfl, _, rfl, _, rfl, fun H3 v3 s3 f3 => ?_⟩
      have s03 := s02.trans s3
      refine ⟨v, v3, q, _, rfl, fq.same s03, f3, ⟨_, _, sq, sz_len (by omega) (by omega), by decide⟩, _, rfl, ?_⟩
      refine ite2 (fun c3 => ?_) (fun c3 => ?_)
      · have nr : ¬ q < ((W.pl r : Int) : Rat) := by simpa using c3
        refine k _ _ s03 ?_
        show Fr K H3 _ (Pf.sh _ _ _ _)
        rw [sh_high ne nlt nr]
        exact fr_no C _
      · have hl : q < ((W.pl r : Int) : Rat) := by simpa using c3
        refine ⟨_, rfl, _, rfl, _, rfl, W.pl p, W.pl r, v, q, rfl, fq.same s03, sq, by omega, b2, b3, fun H4 v4 s4 f4 => ?_⟩
        have sz4 : Sz 160 ((q - ((W.pl p : Int) : Rat)) / (((W.pl r : Int) : Rat) - ((W.pl p : Int) : Rat))) := by
          rw [← Rat.intCast_sub]
          exact ((sq.sub (sz_len (i := W.pl p) (by omega) (by omega))).div (sz_len (i := W.pl r - W.pl p) (by omega) (by omega)) (by rw [Rat.intCast_sub]; exact cast_sub_pos b2)).mono (by decide)
        refine ⟨_, v4, 1, _, rfl, fr_on C _, f4, ⟨_, _, sz_one, sz4, by decide⟩, trivial, fun H5 v5 s5 f5 => k _ _ ((s03.trans s4).trans s5) ?_⟩
        show Fr K H5 _ (Pf.sh _ _ _ _)
        rw [sh_right b2 ne nlt hl]
        exact f5
end Pf
end

section
namespace Pf
open PySem PySem.Spec PyProof.Rows L2
variable {P : Program} {w : World} {K : PySem.W.Frag} {mg : Str → Option Value} {base : Heap} {a : Ad}
/-! ### few keys -/
theorem nodup_le {α : Type} [DecidableEq α] : ∀ {l m : List α}, l.Nodup → (∀ x ∈ l, x ∈ m) → l.length ≤ m.length
  | [], _, _, _ => Nat.zero_le _
  | x :: l, m, h, s => by
    have hx := s x List.mem_cons_self
    have ih := nodup_le (l := l) (m := m.erase x) (List.nodup_cons.mp h).2 fun y hy => by
      have ne : y ≠ x := fun z => (List.nodup_cons.mp h).1 (z ▸ hy)
      exact (List.mem_erase_of_ne ne).mpr (s y (List.mem_cons_of_mem _ hy))
    rw [List.length_erase_of_mem hx] at ih
    have := List.length_pos_of_mem hx
    show l.length + 1 ≤ m.length
    omega
def keyNo (c : Nat) : List L2.Key := kk ((c / 196 : Nat) - 1 : Int) ((c / 14 % 14 : Nat) - 1 : Int) ((c % 14 : Nat) - 1 : Int)
theorem key_in {n : Nat} (hn : n ≤ 12) {l p r : Int} (k : Key3 n l p r) : kk l p r ∈ (List.range 2744).map keyNo := by
  obtain ⟨k1, k2, k3, k4⟩ := k
  have h1 : 0 ≤ l + 1 ∧ l + 1 < 14 := by omega
  have h2 : 0 ≤ p + 1 ∧ p + 1 < 14 := by omega
  have h3 : 0 ≤ r + 1 ∧ r + 1 < 14 := by omega
  refine List.mem_map.mpr ⟨(l + 1).toNat * 196 + (p + 1).toNat * 14 + (r + 1).toNat, List.mem_range.mpr (by omega), ?_⟩
  unfold keyNo
  have e1 : ((((l + 1).toNat * 196 + (p + 1).toNat * 14 + (r + 1).toNat) / 196 : Nat) : Int) - 1 = l := by omega
  have e2 : ((((l + 1).toNat * 196 + (p + 1).toNat * 14 + (r + 1).toNat) / 14 % 14 : Nat) : Int) - 1 = p := by omega
  have e3 : ((((l + 1).toNat * 196 + (p + 1).toNat * 14 + (r + 1).toNat) % 14 : Nat) : Int) - 1 = r := by omega
  rw [e1, e2, e3]
/-- a dict by such keys: each once, each value as F tells -/
structure Tab (n : Nat) (F : Int → Int → Int → V → Prop) (kvs : List (List L2.Key × V)) : Prop where
  nd : (kvs.map (·.1)).Nodup
  all : ∀ q ∈ kvs, ∃ l p r, q.1 = kk l p r ∧ Key3 n l p r ∧ F l p r q.2
theorem Tab.nil {n : Nat} {F : Int → Int → Int → V → Prop} : Tab n F [] := ⟨List.nodup_nil, fun _ h => nomatch h⟩
theorem Tab.small {n : Nat} (hn : n ≤ 12) {F : Int → Int → Int → V → Prop} {kvs : List (List L2.Key × V)} (t : Tab n F kvs) : kvs.length ≤ 2744 := by
  have h := nodup_le (m := (List.range 2744).map keyNo) t.nd fun x hx => by
    obtain ⟨q, hq, rfl⟩ := List.mem_map.mp hx
    obtain ⟨l, p, r, e, k, _⟩ := t.all q hq
    rw [e]
    exact key_in hn k
  simpa using h
theorem Tab.imp {n : Nat} {F G : Int → Int → Int → V → Prop} {kvs : List (List L2.Key × V)} (t : Tab n F kvs) (h : ∀ l p r v, F l p r v → G l p r v) : Tab n G kvs :=
  ⟨t.nd, fun q hq => by
    obtain ⟨l, p, r, e, k, f⟩ := t.all q hq
    exact ⟨l, p, r, e, k, h _ _ _ _ f⟩⟩
theorem valV_mem {κ : Type} [DecidableEq κ] {kvs : List (κ × V)} {k : κ} {v : V} (h : valV kvs k = some v) : (k, v) ∈ kvs := by
  unfold valV at h
  obtain ⟨q, hq, rfl⟩ := Option.map_eq_some_iff.mp h
  have h1 := List.mem_of_find?_eq_some hq
  have h2 := List.find?_some hq
  have e : q.1 = k := of_decide_eq_true h2
  rw [← e]
  exact h1
theorem valV_no {κ : Type} [DecidableEq κ] {kvs : List (κ × V)} {k : κ} (h : valV kvs k = none) : k ∉ kvs.map (·.1) := by
  intro hk
  obtain ⟨q, hq, e⟩ := List.mem_map.mp hk
  have := valV_any k kvs
  rw [h] at this
  have h2 := List.any_eq_false.mp (show (kvs.any fun kv => decide (kv.1 = k)) = false by rw [this]; rfl) q hq
  exact h2 (decide_eq_true e)
theorem kk_inj {l p r l' p' r' : Int} (h : kk l p r = kk l' p' r') : l = l' ∧ p = p' ∧ r = r' := by
  injection h with h1 h2
  injection h2 with h2 h3
  injection h3 with h3 _
  exact ⟨Sum.inl.inj h1, Sum.inl.inj h2, Sum.inl.inj h3⟩
theorem Tab.get {n : Nat} {F : Int → Int → Int → V → Prop} {kvs : List (List L2.Key × V)} (t : Tab n F kvs) {l p r : Int} {v : V} (h : valV kvs (kk l p r) = some v) : F l p r v := by
  obtain ⟨l', p', r', e, _, f⟩ := t.all _ (valV_mem h)
  obtain ⟨rfl, rfl, rfl⟩ := kk_inj e
  exact f
theorem Tab.put {n : Nat} {F : Int → Int → Int → V → Prop} {kvs : List (List L2.Key × V)} (t : Tab n F kvs) {l p r : Int} {v : V} (k : Key3 n l p r) (f : F l p r v) : Tab n F (putK kvs (kk l p r) v) := by
  cases h : valV kvs (kk l p r) with
  | none =>
    rw [putK_new v h]
    refine ⟨?_, fun q hq => ?_⟩
    · rw [List.map_append]
      exact List.nodup_append.mpr ⟨t.nd, by simp, fun x hx y hy z => by
        have e : y = kk l p r := by simpa using hy
        subst e
        subst z
        exact valV_no h hx⟩
    · rcases List.mem_append.mp hq with hq | hq
      · exact t.all q hq
      · have e : q = (kk l p r, v) := by simpa using hq
        subst e
        exact ⟨l, p, r, rfl, k, f⟩
  | some v0 =>
    have hany : (kvs.any fun kv => decide (kv.1 = kk l p r)) = true := by rw [valV_any, h]; rfl
    unfold putK
    rw [if_pos hany]
    have e1 : ∀ q : List L2.Key × V, (if q.1 = kk l p r then (q.1, v) else q).1 = q.1 := fun q => by split <;> rfl
    refine ⟨?_, fun q hq => ?_⟩
    · rw [List.map_map]
      have e2 : ((fun q : List L2.Key × V => q.1) ∘ fun kv => if kv.1 = kk l p r then (kv.1, v) else kv) = fun q => q.1 := funext e1
      rw [e2]
      exact t.nd
    · obtain ⟨z, hz, rfl⟩ := List.mem_map.mp hq
      obtain ⟨l', p', r', e, k', f'⟩ := t.all z hz
      by_cases c : z.1 = kk l p r
      · rw [if_pos c]
        exact ⟨l, p, r, c, k, f⟩
      · rw [if_neg c]
        exact ⟨l', p', r', e, k', f'⟩
/-! ### Loads with what it knows -/
/-- all but what it keeps is as it was -/
def Ext (A : LdA) (H H' : Hp) : Prop := ∀ b o, H b = some o → b ≠ A.dk → b ≠ A.dv → H' b = some o
theorem Ext.refl (A : LdA) (H : Hp) : Ext A H H := fun _ _ e _ _ => e
theorem Same.ext {A : LdA} {H H' : Hp} (s : Same H H') : Ext A H H' := fun b o e _ _ => s b o e
theorem Ext.trans {A : LdA} {H H1 H2 : Hp} (x : Ext A H H1) (y : Ext A H1 H2) : Ext A H H2 := fun b o e h1 h2 => y b o (x b o e h1 h2) h1 h2
structure Ld (K : PySem.W.Frag) (a : Ad) (H : Hp) (A : LdA) (W : Wd) : Prop where
  r : LdR K a H A W
  kn : ∃ kvs, H A.dk = some (.dT kvs) ∧ Tab W.n (fun l p r v => Fr K H v (W.ld l p r)) kvs
  ov : ∃ kvs, H A.dv = some (.dT kvs) ∧ Tab W.n (fun l p r v => v = .bl (decide (W.st p < W.ld l p r))) kvs
  ne : A.dk ≠ A.dv
theorem Ld.keep {H H' : Hp} {A : LdA} {W : Wd} (L : Ld K a H A W) (x : Ext A H H') : Keep H H' := fun b o e m => by
  obtain ⟨k1, h1, _⟩ := L.kn
  obtain ⟨k2, h2, _⟩ := L.ov
  refine x b o e (fun z => ?_) (fun z => ?_)
  · rw [z, h1] at e; cases e; exact m trivial
  · rw [z, h2] at e; cases e; exact m trivial
theorem Ld.same {H H' : Hp} {A : LdA} {W : Wd} (L : Ld K a H A W) (e : Same H H') : Ld K a H' A W := by
  obtain ⟨k1, h1, t1⟩ := L.kn
  obtain ⟨k2, h2, t2⟩ := L.ov
  exact ⟨L.r.same e, ⟨k1, e _ _ h1, t1.imp fun _ _ _ _ f => f.same e⟩, ⟨k2, e _ _ h2, t2⟩, L.ne⟩
/-- what stands beside both dicts -/
theorem LdR.ext {H H' : Hp} {A : LdA} {W : Wd} (h : LdR K a H A W) (x : Ext A H H') (kp : Keep H H') (d1 : ∃ kvs, H A.dk = some (.dT kvs)) (d2 : ∃ kvs, H A.dv = some (.dT kvs)) : LdR K a H' A W := by
  obtain ⟨k1, h1⟩ := d1
  obtain ⟨k2, h2⟩ := d2
  have at_ : ∀ b o, H b = some o → (∀ k, o ≠ .dT k) → H' b = some o := fun b o e ne => x b o e (fun z => by rw [z, h1] at e; cases e; exact ne _ rfl) (fun z => by rw [z, h2] at e; cases e; exact ne _ rfl)
  obtain ⟨refs, w1, w2⟩ := h.wl
  obtain ⟨dx, sk, rf, p1, p2, p3⟩ := h.pk
  exact ⟨at_ _ _ h.ob (fun _ z => nomatch z), ⟨dx, sk, rf, at_ _ _ p1 (fun _ z => nomatch z), sqt_keep kp p2, Paired.mapP p3 fun _ _ z => z.keep kp⟩, ⟨refs, at_ _ _ w1 (fun _ z => nomatch z), Paired.mapP w2 fun _ _ z => z.keep kp⟩, h.ok⟩
/-- one more is known -/
theorem Ld.know {H : Hp} {A : LdA} {W : Wd} (L : Ld K a H A W) {kvs : List (List L2.Key × V)} (e : H A.dk = some (.dT kvs)) {l p r : Int} {v : V} (k3 : Key3 W.n l p r) (f : Fr K H v (W.ld l p r)) :
    Ld K a (upd H A.dk (.dT (putK kvs (kk l p r) v))) A W ∧ Ext A H (upd H A.dk (.dT (putK kvs (kk l p r) v))) := by
  obtain ⟨k1, h1, t1⟩ := L.kn
  rw [e] at h1; cases h1
  obtain ⟨k2, h2, t2⟩ := L.ov
  have x : Ext A H (upd H A.dk (.dT (putK kvs (kk l p r) v))) := fun b o q n1 n2 => by rw [upd_ne n1]; exact q
  have kp := L.keep x
  refine ⟨⟨L.r.ext x kp ⟨_, e⟩ ⟨_, h2⟩, ⟨_, upd_same, (t1.put k3 f).imp fun _ _ _ _ f => f.keep kp⟩, ⟨_, by rw [upd_ne L.ne.symm]; exact h2, t2⟩, L.ne⟩, x⟩
theorem Ld.judge {H : Hp} {A : LdA} {W : Wd} (L : Ld K a H A W) {kvs : List (List L2.Key × V)} (e : H A.dv = some (.dT kvs)) {l p r : Int} {v : V} (k3 : Key3 W.n l p r) (f : v = .bl (decide (W.st p < W.ld l p r))) :
    Ld K a (upd H A.dv (.dT (putK kvs (kk l p r) v))) A W ∧ Ext A H (upd H A.dv (.dT (putK kvs (kk l p r) v))) := by
  obtain ⟨k1, h1, t1⟩ := L.kn
  obtain ⟨k2, h2, t2⟩ := L.ov
  rw [e] at h2; cases h2
  have x : Ext A H (upd H A.dv (.dT (putK kvs (kk l p r) v))) := fun b o q n1 n2 => by rw [upd_ne n2]; exact q
  have kp := L.keep x
  refine ⟨⟨L.r.ext x kp ⟨_, h1⟩ ⟨_, e⟩, ⟨_, by rw [upd_ne L.ne]; exact h1, t1.imp fun _ _ _ _ f => f.keep kp⟩, ⟨_, upd_same, t2.put k3 f⟩, L.ne⟩, x⟩
/-- what lies there, by its parts -/
theorem ld_sum (W : Wd) (l p r : Int) : sumQ (W.hv.map fun q => q.2 * W.sh l p r q.1) = W.ld l p r := by
  unfold sumQ Wd.ld Pf.ld ldFrom
  rw [List.foldl_map]
  rfl
theorem Wd.Ok.sz_sh {W : Wd} (o : W.Ok) {l p r : Int} (k : Key3 W.n l p r) {x : Rat} (sx : Sz 128 x) : Sz 160 (W.sh l p r x) := by
  obtain ⟨b0, b1, b2, b3⟩ := o.pl3 k
  exact Pf.sz_sh b0 b1 b2 b3 sx
theorem Wd.Ok.sz_parts {W : Wd} (o : W.Ok) {l p r : Int} (k : Key3 W.n l p r) : ∀ x ∈ W.hv.map fun q => q.2 * W.sh l p r q.1, Sz 288 x := fun x hx => by
  obtain ⟨q, hq, rfl⟩ := List.mem_map.mp hx
  obtain ⟨_, _, _, h4, h5⟩ := o.hv0 q hq
  exact (h5.mul (o.sz_sh k h4)).mono (by decide)
theorem Wd.Ok.sz_ld {W : Wd} (o : W.Ok) {l p r : Int} (k : Key3 W.n l p r) : Sz 1740 (W.ld l p r) := by
  have h := sumQ_sz (o.sz_parts k) (W.hv.map fun q => q.2 * W.sh l p r q.1).length (Nat.le_refl _)
  rw [List.take_length, ld_sum] at h
  refine h.mono ?_
  rw [List.length_map]
  have := o.h6
  have : (288 + 1) * W.hv.length ≤ 289 * 6 := Nat.mul_le_mul_left _ this
  omega
def spLies (K : PySem.W.Frag) (a : Ad) : Sp := fun vs H Q _ => ∃ (A : LdA) (W : Wd) (l p r : Int), vs = [.ref A.p, .int l, .int p, .int r] ∧ Ld K a H A W ∧ Key3 W.n l p r ∧ ∀ H' v, Ext A H H' → Ld K a H' A W → Fr K H' v (W.ld l p r) → Q v H'
abbrev N_Loads_lies_on : List Str := ["self", "left", "rest", "right", "key", "some", "spot", "weight"]
theorem sc_Loads_lies_on : FnScope N_Loads_lies_on ["self", "left", "rest", "right"] (defScope s_Loads_lies_on) := ⟨rfl, rfl, rfl, by decide +kernel, rfl, by decide +kernel, by decide +kernel⟩
theorem ok_lies (G : Md K a.L "lies_on" "Loads.lies_on" s_Loads_lies_on) (C : Ct K mg a) (D_times : Df P w K mg base "times" ["one", "other"] 3 (sp2 K (· * ·) any2)) (D_sum_of : Df P w K mg base "sum_of" ["some"] 4 (spSum K))
    (D_Loads_share : Mf P w K mg base a.L "share" ["self", "left", "rest", "right", "spot"] 5 (spShare K a)) : Mf P w K mg base a.L "lies_on" ["self", "left", "rest", "right"] 6 (spLies K a) := by
  refine mf_mk G sc_Loads_lies_on (fun vs H Q E h => by obtain ⟨_, _, _, _, _, rfl, _⟩ := h; rfl) (fun _ _ _ _ _ _ us hl => match us, hl with | [_, _, _, _], _ => rfl) (fun f cdv A' outer s H vs Q E hr h => ?_)
  obtain ⟨A, W, l, p, r, rfl, L, k3, k⟩ := h
  have hu := hu_of hr
  refine ⟨_, (pss_cons (ps_set (i := 4) sc_Loads_lies_on.nd rfl (by first | exact Or.inl rfl | exact Or.inr rfl) (pe_tup (pa_cons (pv 1) (pa_cons (pv 2) (pa_cons (pv 3) pa_nil)))))
    (pss_cons (ps_if (pt_cmp (pc_dnotin hu (pv 4) (pe_fld (pv 0) rfl)))
    (pss_cons (ps_setLcX (i := 5) (own := [("spot", 6), ("weight", 7)]) (g := gTup K 2 (gCons (gName 6) (gCons (gName 7) gNil))) rfl sc_Loads_lies_on.nd rfl (pi_list (pe_fld (pv 0) rfl)) (blkOk_by (N := N_Loads_lies_on) (sc := defScope s_Loads_lies_on) (by decide +kernel)) (fun _ _ _ _ _ => (pg_tup (by rfl) (pgs_cons (pg_name (i := 6) sc_Loads_lies_on.nd rfl (by first | exact Or.inl rfl | exact Or.inr rfl)) (pgs_cons (pg_name (i := 7) sc_Loads_lies_on.nd rfl (by first | exact Or.inl rfl | exact Or.inr rfl)) pgs_nil)))) (fun _ _ _ _ _ => pts_nil) (fun _ _ _ _ _ => (pcall D_times hr (by decide) (by rfl) (pa_cons (pv 7) (pa_cons (pmeth D_Loads_share C.clL hr (by decide) (pv 0) (pa_cons (pv 1) (pa_cons (pv 2) (pa_cons (pv 3) (pa_cons (pv 6) pa_nil))))) pa_nil)))))
      (pss_one (ps_dput hu (pe_fld (pv 0) rfl) (pv 4) (pcall D_sum_of hr (by decide) (by rfl) (pa_cons (pv 5) pa_nil)) rfl)))
    pss_nil)
    (pss_one (ps_ret (pe_dget hu (pe_fld (pv 0) rfl) (pv 4) (fun _ _ => rfl)))))), ?_⟩
  refine ⟨_, rfl, _, rfl, _, rfl, by show 3 ≤ sizeLine; decide, fun kp hkp => ?_⟩
  have s1 := same_new (o := .tup [V.int l, V.int p, V.int r]) hkp
  have L1 := L.same s1
  have ekp : (upd H kp (.tup [V.int l, V.int p, V.int r])) kp = some (.tup ((kk l p r).map kV)) := upd_same
  generalize upd H kp (.tup [V.int l, V.int p, V.int r]) = H1 at s1 L1 ekp
  obtain ⟨kvs, ek, tk⟩ := L1.kn
  refine ⟨_, rfl, _, rfl, A.p, _, _, _, _, rfl, L1.r.ob, C.clL, C.nLk, lk_known, A.dk, _, rfl, DGet.t ek ekp, _, rfl, ?_⟩
  cases ev : valV kvs (kk l p r) with
  | some v =>
    refine iteF ⟨_, rfl, A.p, _, _, _, _, rfl, L1.r.ob, C.clL, C.nLk, lk_known, _, rfl, A.dk, v, rfl, ?_, ?_⟩
    · rw [← ev]
      exact DGet.t ek ekp
    · exact k _ _ (Same.ext s1) L1 (tk.get ev)
  | none =>
    refine iteT ?_
    obtain ⟨refs, hwl, hwt⟩ := L1.r.wl
    have lw := Paired.length hwt
    have l6 := L1.r.ok.h6
    refine ⟨_, rfl, A.p, _, _, _, _, rfl, L1.r.ob, C.clL, C.nLw, lk_weights, _, rfl, ⟨_, SqL.of hwl⟩, fun D hD => ?_⟩
    refine lc_each (w := walk_list (K := K) (a := A.wl) (xs := refs)) hD (by omega) (fun i y H' => ∃ q, (W.hv.map fun q => q.2 * W.sh l p r q.1)[i]? = some q ∧ Fr K H' y q) (fun _ _ _ _ kp ⟨q, h1, h2⟩ => ⟨q, h1, h2.keep kp⟩) (fun H' s => sql_same s (SqL.of hwl)) (fun i x H2 H3 hi s2 hy Q' k' => ?_) (fun H' g => ?_)
    · obtain ⟨rfl, hx⟩ := hy
      obtain ⟨⟨q, m⟩, hq, t, xv, mv, rfl, ht, fx, fm⟩ := Paired.get? hwt hx
      obtain ⟨_, _, _, z1, z2⟩ := L1.r.ok.hv0 _ (List.mem_of_getElem? hq)
      have L2 := L1.same s2
      refine ⟨t, _, rfl, sqt_same s2 ht, rfl, _, _, rfl, _, _, rfl, rfl, rfl, ?_⟩
      refine ⟨_, rfl, _, rfl, A.p, _, _, rfl, L2.r.ob, lk_share, _, rfl, _, rfl, _, rfl, _, rfl, A, W, l, p, r, xv, q, rfl, L2.r, k3, fx.same s2, z1, fun H4 v4 s4 f4 => ?_⟩
      refine ⟨mv, v4, m, _, rfl, (fm.same s2).same s4, f4, ⟨_, _, z2, L2.r.ok.sz_sh k3 z1, by decide⟩, trivial, fun H5 v5 s5 f5 => ?_⟩
      refine k' _ _ (s4.trans s5) ⟨_, ?_, f5⟩
      rw [List.getElem?_map, hq]
      rfl
    · obtain ⟨ys, ey, ly, ay⟩ := g.ex
      have L2 := L1.same g.same
      have hlen : (W.hv.map fun q => q.2 * W.sh l p r q.1).length = W.hv.length := List.length_map _
      refine ⟨_, rfl, D, ys, W.hv.map (fun q => q.2 * W.sh l p r q.1), 288, rfl, SqL.of ey, paired_of (by rw [hlen]; omega) fun i x y h1 h2 => ?_, L1.r.ok.sz_parts k3, by rw [hlen]; omega, fun H4 v4 s4 f4 => ?_⟩
      · obtain ⟨q, h3, h4⟩ := ay i x h1
        rw [h2] at h3
        cases h3
        exact h4
      · rw [ld_sum] at f4
        have s14 := g.same.trans s4
        have L4 := L2.same s4
        have ek4 := s14 _ _ ek
        have ekp4 := s14 _ _ ekp
        refine ⟨_, rfl, A.p, _, _, _, _, rfl, L4.r.ob, C.clL, C.nLk, lk_known, _, rfl, A.dk, _, rfl, DPut.t ek4 ekp4 (small_lt (by have := tk.small L1.r.ok.n12; omega)), ?_⟩
        obtain ⟨L5, x5⟩ := L4.know ek4 k3 f4
        have nkp : kp ≠ A.dk := ne_of ekp4 ek4 (by intro z; cases z)
        refine ⟨_, rfl, A.p, _, _, _, _, rfl, L5.r.ob, C.clL, C.nLk, lk_known, _, rfl, A.dk, v4, rfl, ?_, ?_⟩
        · have e : (some v4 : Option V) = valV (putK kvs (kk l p r) v4) (kk l p r) := by rw [valV_put, if_pos rfl]
          rw [e]
          exact DGet.t upd_same (by rw [upd_ne nkp]; exact ekp4)
        · exact k _ _ (((Same.ext s1).trans (Same.ext s14)).trans x5) L5 (f4.keep (L4.keep x5))
end Pf
end

section
namespace Pf
open PySem PySem.Spec PyProof.Rows L2
variable {P : Program} {w : World} {K : PySem.W.Frag} {mg : Str → Option Value} {base : Heap} {a : Ad}
def spIsOver (K : PySem.W.Frag) (a : Ad) : Sp := fun vs H Q _ => ∃ (A : LdA) (W : Wd) (l p r : Int), vs = [.ref A.p, .int l, .int p, .int r] ∧ Ld K a H A W ∧ Key3 W.n l p r ∧ ∀ H', Ext A H H' → Ld K a H' A W → Q (.bl (decide (W.st p < W.ld l p r))) H'
abbrev N_Loads_is_overlaid : List Str := ["self", "left", "prop", "right", "key"]
theorem sc_Loads_is_overlaid : FnScope N_Loads_is_overlaid ["self", "left", "prop", "right"] (defScope s_Loads_is_overlaid) := ⟨rfl, rfl, rfl, by decide +kernel, rfl, by decide +kernel, by decide +kernel⟩
theorem ok_isover (G : Md K a.L "is_overlaid" "Loads.is_overlaid" s_Loads_is_overlaid) (C : Ct K mg a) (D_is_below : Df P w K mg base "is_below" ["one", "other"] 1 (spBelow K))
    (D_Loads_lies_on : Mf P w K mg base a.L "lies_on" ["self", "left", "rest", "right"] 6 (spLies K a)) : Mf P w K mg base a.L "is_overlaid" ["self", "left", "prop", "right"] 7 (spIsOver K a) := by
  refine mf_mk G sc_Loads_is_overlaid (fun vs H Q E h => by obtain ⟨_, _, _, _, _, rfl, _⟩ := h; rfl) (fun _ _ _ _ _ _ us hl => match us, hl with | [_, _, _, _], _ => rfl) (fun f cdv A' outer s H vs Q E hr h => ?_)
  obtain ⟨A, W, l, p, r, rfl, L, k3, k⟩ := h
  have hu := hu_of hr
  refine ⟨_, (pss_cons (ps_set (i := 4) sc_Loads_is_overlaid.nd rfl (by first | exact Or.inl rfl | exact Or.inr rfl) (pe_tup (pa_cons (pv 1) (pa_cons (pv 2) (pa_cons (pv 3) pa_nil)))))
    (pss_cons (ps_if (pt_cmp (pc_dnotin hu (pv 4) (pe_fld (pv 0) rfl)))
    (pss_one (ps_dput hu (pe_fld (pv 0) rfl) (pv 4) (pcall D_is_below hr (by decide) (by rfl) (pa_cons (pe_ix (r := rIxT K) ix_tup (pe_ix (r := rIxT K) ix_tup (pe_fld (pe_fld (pv 0) rfl) rfl) (pv 2) (fun _ _ => rfl)) pe_int (fun _ _ => rfl)) (pa_cons (pmeth D_Loads_lies_on C.clL hr (by decide) (pv 0) (pa_cons (pv 1) (pa_cons (pv 2) (pa_cons (pv 3) pa_nil)))) pa_nil))) rfl))
    pss_nil)
    (pss_one (ps_ret (pe_dget hu (pe_fld (pv 0) rfl) (pv 4) (fun _ _ => rfl)))))), ?_⟩
  refine ⟨_, rfl, _, rfl, _, rfl, by show 3 ≤ sizeLine; decide, fun kp hkp => ?_⟩
  have s1 := same_new (o := .tup [V.int l, V.int p, V.int r]) hkp
  have L1 := L.same s1
  have ekp : (upd H kp (.tup [V.int l, V.int p, V.int r])) kp = some (.tup ((kk l p r).map kV)) := upd_same
  generalize upd H kp (.tup [V.int l, V.int p, V.int r]) = H1 at s1 L1 ekp
  obtain ⟨kvs, ek, tk⟩ := L1.ov
  refine ⟨_, rfl, _, rfl, A.p, _, _, _, _, rfl, L1.r.ob, C.clL, C.nLo, lk_over, A.dv, _, rfl, DGet.t ek ekp, _, rfl, ?_⟩
  cases ev : valV kvs (kk l p r) with
  | some v =>
    have hv := tk.get ev
    refine iteF ⟨_, rfl, A.p, _, _, _, _, rfl, L1.r.ob, C.clL, C.nLo, lk_over, _, rfl, A.dv, v, rfl, ?_, ?_⟩
    · rw [← ev]
      exact DGet.t ek ekp
    · rw [hv]
      exact k _ (Same.ext s1) L1
  | none =>
    refine iteT ?_
    obtain ⟨dx, sk, refs, q1, q2, q3⟩ := id L1.r.pk
    have k3' := k3
    obtain ⟨c1, c2, c3, c4⟩ := k3
    obtain ⟨x, st, hx, _, est⟩ := Wd.at (W := W) (p := p) (by omega) (by omega)
    obtain ⟨rf, hrf, t, sv, rfl, ht, fs⟩ := Paired.get2 q3 hx
    refine ⟨_, rfl, A.p, _, _, _, _, rfl, L1.r.ob, C.clL, C.nLp, lk_plank, _, _, _, _, _, rfl, q1, C.clP, C.nPs, lk_stakes, _, rfl, _, _, _, _, rfl, rfl, q2, at_of (j := p.toNat) (by omega) hrf, _, _, _, _, rfl, rfl, ht, rfl, ?_⟩
    refine ⟨_, rfl, A.p, _, _, rfl, L1.r.ob, lk_lies, _, rfl, _, rfl, _, rfl, A, W, l, p, r, rfl, L1, k3', fun H2 v2 x2 L2 f2 => ?_⟩
    have kp2 := L1.keep x2
    obtain ⟨_, sst⟩ := L1.r.ok.st0 _ _ _ hx
    refine ⟨sv, v2, st, _, rfl, fs.keep kp2, f2, ⟨_, _, sst, L1.r.ok.sz_ld k3', by decide⟩, ?_⟩
    rw [← est]
    have ekp2 := kp2 _ _ ekp (fun z => z)
    obtain ⟨kvs2, ek2, tk2⟩ := L2.ov
    refine ⟨_, rfl, A.p, _, _, _, _, rfl, L2.r.ob, C.clL, C.nLo, lk_over, _, rfl, A.dv, _, rfl, DPut.t ek2 ekp2 (small_lt (by have := tk2.small L1.r.ok.n12; omega)), ?_⟩
    obtain ⟨L5, x5⟩ := L2.judge ek2 (v := .bl (decide (W.st p < W.ld l p r))) k3' rfl
    have nkp : kp ≠ A.dv := ne_of ekp2 ek2 (by intro z; cases z)
    refine ⟨_, rfl, A.p, _, _, _, _, rfl, L5.r.ob, C.clL, C.nLo, lk_over, _, rfl, A.dv, .bl (decide (W.st p < W.ld l p r)), rfl, ?_, ?_⟩
    · have e : (some (V.bl (decide (W.st p < W.ld l p r))) : Option V) = valV (putK kvs2 (kk l p r) (.bl (decide (W.st p < W.ld l p r)))) (kk l p r) := by rw [valV_put, if_pos rfl]
      rw [e]
      exact DGet.t upd_same (by rw [upd_ne nkp]; exact ekp2)
    · exact k _ (((Same.ext s1).trans x2).trans x5) L5
/-! ### made -/
def spLoadsInit (a : Ad) : Sp := fun vs H Q _ => ∃ (p dx pl wl : Addr), vs = [.ref p, .ref pl, .ref wl] ∧ H p = some (.ins a.L dx []) ∧
  ∀ H' dk dv, (∀ b o, H b = some o → b ≠ p → H' b = some o) → H' p = some (.ins a.L dx (lfs ⟨p, dx, pl, wl, dk, dv⟩)) → H' dk = some (.dT []) → H' dv = some (.dT []) → dk ≠ dv → H dk = none → H dv = none → Q .non H'
abbrev N_Loads_init : List Str := ["self", "plank", "weights"]
theorem sc_Loads_init : FnScope N_Loads_init ["self", "plank", "weights"] (defScope s_Loads_init) := ⟨rfl, rfl, rfl, by decide +kernel, rfl, by decide +kernel, by decide +kernel⟩
theorem ok_loads_init {fd : FuncData} (F : FunD K "__init__" "Loads.__init__" (defArgs s_Loads_init) (defBody s_Loads_init) (defScope s_Loads_init) [] [] a.Li fd) (C : Ct K mg a) : FnOk P w K mg base CX0 1 a.Li fd ["self", "plank", "weights"] (spLoadsInit a) := by
  refine F.ok sc_Loads_init (fun vs H Q E h => by obtain ⟨_, _, _, _, rfl, _⟩ := h; rfl) (fun cdv A outer s H vs Q E hr h => ?_)
  obtain ⟨p, dx, pl, wl, rfl, hp, k⟩ := h
  refine ⟨_, PSs.nox (pss_cons (ps_fld (pv 0) (pv 1) rfl)
    (pss_cons (ps_fld (pv 0) (pv 2) rfl)
    (pss_cons (ps_fld (pv 0) pe_dnewT rfl)
    (pss_one (ps_fld (pv 0) pe_dnewT rfl))))), ?_⟩
  refine ⟨_, rfl, _, rfl, p, _, dx, _, rfl, hp, C.clL, C.nLp, by show 0 < 1000; decide, ?_⟩
  refine ⟨_, rfl, _, rfl, p, _, dx, _, rfl, upd_same, C.clL, C.nLw, by show 1 < 1000; decide, ?_⟩
  rw [upd_upd]
  intro dk hdk
  have n1 : dk ≠ p := by rintro rfl; rw [upd_same] at hdk; cases hdk
  refine ⟨_, rfl, p, _, dx, _, rfl, by rw [upd_ne n1.symm]; exact upd_same, C.clL, C.nLk, by show 2 < 1000; decide, ?_⟩
  intro dv hdv
  have n2 : dv ≠ p := by rintro rfl; rw [upd_same] at hdv; cases hdv
  have n3 : dv ≠ dk := by rintro rfl; rw [upd_ne n1, upd_same] at hdv; cases hdv
  have h1 : H dk = none := by rw [upd_ne n1] at hdk; exact hdk
  have h2 : H dv = none := by rw [upd_ne n2, upd_ne n3, upd_ne n2] at hdv; exact hdv
  refine ⟨_, rfl, p, _, dx, _, rfl, by rw [upd_ne n2.symm]; exact upd_same, C.clL, C.nLo, by show 3 < 1000; decide, ?_⟩
  refine k _ dk dv (fun b o e nb => ?_) (upd_same.trans (congrArg (fun z => some (HO.ins a.L dx z)) (put_lfs ⟨p, dx, pl, wl, dk, dv⟩))) ?_ ?_ n3.symm h1 h2
  · rw [upd_ne nb, upd_ne (ne_of_none e h2), upd_ne nb, upd_ne (ne_of_none e h1), upd_ne nb]
    exact e
  · rw [upd_ne n1, upd_ne n3.symm, upd_ne n1, upd_same]
  · rw [upd_ne n2, upd_same]
def spLoadsOf (K : PySem.W.Frag) (a : Ad) : Sp := fun vs H Q _ => ∃ (p l : Addr) (W : Wd) (refs : List V), vs = [.ref p, .ref l] ∧ Plk K a H p W ∧ W.Ok ∧ SqL K H l refs ∧ Paired (Wt K H) refs W.hv ∧
  ∀ H' A, Same H H' → A.pl = p → Ld K a H' A W → H A.dk = none → H A.dv = none → Q (.ref A.p) H'
abbrev N_loads_of : List Str := ["plank", "weights"]
theorem sc_loads_of : FnScope N_loads_of ["plank", "weights"] (defScope s_loads_of) := ⟨rfl, rfl, rfl, by decide +kernel, rfl, by decide +kernel, by decide +kernel⟩
theorem ok_loads_of (G : Gd K mg "loads_of" s_loads_of) (B : Bt mg) (C : Ct K mg a) (D_check_weights : Df P w K mg base "check_weights" ["plank", "thing"] 6 (spCheckWeights K a)) (D_Loads_init : If P w K mg base a.Li ["self", "plank", "weights"] [] 1 (spLoadsInit a)) :
    Df P w K mg base "loads_of" ["plank", "weights"] 7 (spLoadsOf K a) := by
  refine df_mk G sc_loads_of (fun vs H Q E h => by obtain ⟨_, _, _, _, rfl, _⟩ := h; rfl) (fun _ _ _ _ _ _ us hl => match us, hl with | [_, _], _ => rfl) (fun f cdv A' outer s H vs Q E hr h => ?_)
  obtain ⟨p, l, W, refs, rfl, pk, o, hl, hw, k⟩ := h
  refine ⟨_, (pss_cons (ps_expr (pcall D_check_weights hr (by decide) (by rfl) (pa_cons (pv 0) (pa_cons (pv 1) pa_nil))))
    (pss_one (ps_ret (pmake D_Loads_init C.mkL hr (by decide) (by rfl) C.gL (pa_cons (pv 0) (pa_cons (pe_callTy call_list_of (by rfl) B.list_ (by decide +kernel) (pa_cons (pv 1) pa_nil)) pa_nil)))))), ?_⟩
  refine ⟨_, rfl, _, rfl, p, l, W, refs, rfl, pk, o, hl, hw, fun H1 s1 => ?_⟩
  refine ⟨_, rfl, _, rfl, l, refs, rfl, .inl (sql_same s1 hl), fun wl hwl x dx hx hdx ne => ?_⟩
  have s2 := s1.trans (same_new (o := .lst refs) hwl)
  have ewl : (upd H1 wl (.lst refs)) wl = some (.lst refs) := upd_same
  generalize upd H1 wl (.lst refs) = H2 at hx hdx s2 ewl
  have s3 : Same H2 (upd (upd H2 dx (.own x)) x (.ins a.L dx [])) := fun b o e => by
    rw [upd_ne (ne_of_none e hx), upd_ne (ne_of_none e hdx)]
    exact e
  have hx0 := s2.free hx
  refine ⟨x, dx, p, wl, rfl, upd_same, fun H' dk dv keep e1 e2 e3 ne2 f1 f2 => ⟨rfl, ?_⟩⟩
  have s4 : Same H2 H' := fun b o e => keep b o (s3 b o e) (ne_of_none e hx)
  have s5 := s2.trans s4
  exact k H' ⟨x, dx, p, wl, dk, dv⟩ s5 rfl ⟨⟨e1, pk.same s5, ⟨refs, s4 _ _ ewl, Paired.mapP hw fun _ _ z => z.keep (Same.keep s5)⟩, o⟩, ⟨[], e2, Tab.nil⟩, ⟨[], e3, Tab.nil⟩, ne2⟩ ((s2.trans s3).free f1) ((s2.trans s3).free f2)
end Pf
end

section
/-! list(zip(..)): the tuples that a zip gives out are kept. -/
namespace Pf
open PySem PySem.Spec PyProof.Rows
theorem zip_no_len : typeLookup (.type "zip") "__len__" = pure none := am_miss_of_fast (by decide +kernel)
theorem zip_no_hint : typeLookup (.type "zip") "__length_hint__" = pure none := am_miss_of_fast (by decide +kernel)
structure Tups (prog : Program) (w : World) (z S : Addr) (wr : List Addr) (n : Nat) (C : Nat → Array Value → Prop) (St : Nat → Heap → Prop) : Prop where
  ne : S ∉ wr
  mem : z ∈ wr
  typ : ∀ i h, St i h → ∃ o, h.get? z = some o ∧ o.cls = .type "zip"
  frame : ∀ i h h', St i h → (∀ b o, b ≠ S → h.get? b = some o → h'.get? b = some o) → St i h'
  item : ∀ (A : Around) (i : Nat) (s : Shared) (Q : Option Value → Shared → Prop) (E : Value → Shared → Prop), A.handled = none → i < n → St i s.heap → S < s.heap.objs.size →
    (∀ vals h' tk, C i vals → St (i + 1) h' → h'.get? s.heap.objs.size = some { cls := .type "tuple", data := .seq vals } → h'.objs.size = s.heap.objs.size + 1 → (∀ b o, b ∉ wr → s.heap.get? b = some o → h'.get? b = some o) →
      Q (some (.ref s.heap.objs.size)) { s with heap := h', toks := tk }) → wpAny (model prog w) A (pyNext (.ref z)) Q E s
  done : ∀ (A : Around) (s : Shared) (Q : Option Value → Shared → Prop) (E : Value → Shared → Prop), A.handled = none → St n s.heap → (∀ h' tk, (∀ b o, b ∉ wr → s.heap.get? b = some o → h'.get? b = some o) → Q none { s with heap := h', toks := tk }) →
    wpAny (model prog w) A (pyNext (.ref z)) Q E s
  self : ∀ (A : Around) (i : Nat) (s : Shared) (Q : Value → Shared → Prop) (E : Value → Shared → Prop), St i s.heap → Q (.ref z) s → wpAny (model prog w) A (pyIter (.ref z)) Q E s
/-- the tuples that were given -/
structure TupsG (C : Nat → Array Value → Prop) (B : Addr) (h : Heap) (as : List Addr) : Prop where
  rise : as.Pairwise (· < ·)
  above : ∀ a ∈ as, B ≤ a
  at_ : ∀ (j : Nat) (a : Addr), as[j]? = some a → ∃ vals, C j vals ∧ h.get? a = some { cls := .type "tuple", data := .seq vals }
theorem TupsG.there {C : Nat → Array Value → Prop} {B : Addr} {h : Heap} {as : List Addr} (g : TupsG C B h as) {a : Addr} (ha : a ∈ as) : a < h.objs.size := by
  obtain ⟨j, hj⟩ := List.mem_iff_getElem?.mp ha
  obtain ⟨_, _, e⟩ := g.at_ j a hj
  exact Heap.lt_size e
section
variable {prog : Program} {w : World} {A : Around} {s : Shared} {R : Result → Shared → Prop} {z S B : Addr} {wr : List Addr} {n : Nat} {C : Nat → Array Value → Prop} {St : Nat → Heap → Prop}
theorem tups_loop (U : Tups prog w z S wr n C St) (hh : A.handled = none) (hB : ∀ b ∈ wr, b < B) (hSB : S < B) (hn : n ≤ sizeLine) (res : Value) {h₁ : Heap}
    (hR : ∀ h' tk acc c as, (∀ b o, b ≠ S → b ∉ wr → h₁.get? b = some o → h'.get? b = some o) → h'.get? S = some { cls := .type "list", dict := none, data := .seq acc c, slots := #[] } → as.length = n → TupsG C B h' as →
      acc.toList = as.map Value.ref → R (.ok (.ret res)) { s with heap := h', toks := tk }) :
    ∀ (k i : Nat) (h : Heap) (tk c : Nat) (acc : Array Value) (as : List Addr), n - i = k → i ≤ n → St i h → (∀ b o, b ≠ S → b ∉ wr → h₁.get? b = some o → h.get? b = some o) →
      h.get? S = some { cls := .type "list", dict := none, data := .seq acc c, slots := #[] } → acc.toList = as.map Value.ref → as.length = i → TupsG C B h as → B ≤ h.objs.size →
      codeAny (model prog w) A (.builtin "list.extend.loop" ⟨[.ref S, .ref z, res], []⟩) R { s with heap := h, toks := tk } := by
  intro k
  induction k with
  | zero =>
    intro i h tk c acc as hk hi hst hkeep hS hacc hal hG hIs
    have hin : i = n := by omega
    subst hin
    refine codeAny_builtin PySem.F.entry_extend_loop ?_
    rw [Around.under_plainId PySem.F.plain_extend_loop _]
    show wpAny _ A.in1 (pyNext (.ref z) >>= _) _ _ _
    refine wpAny_bind (U.done A.in1 { s with heap := h, toks := tk } _ _ hh hst fun h' tk' he => ?_)
    refine wpAny_pure (hR h' tk' acc c as (fun b o h1 h2 e => he b o h2 (hkeep b o h1 h2 e)) (he S _ U.ne hS) hal ⟨hG.rise, hG.above, fun j a hj => ?_⟩ hacc)
    obtain ⟨vals, e2, e3⟩ := hG.at_ j a hj
    exact ⟨vals, e2, he a _ (fun z' => absurd (hB a z') (Nat.not_lt.mpr (hG.above a (List.mem_of_getElem? hj)))) e3⟩
  | succ k ih =>
    intro i h tk c acc as hk hi hst hkeep hS hacc hal hG hIs
    have hlt : i < n := by omega
    have hsz : acc.size = i := by rw [← Array.length_toList, hacc, List.length_map, hal]
    have hSl : S < h.objs.size := Heap.lt_size hS
    refine codeAny_builtin PySem.F.entry_extend_loop ?_
    rw [Around.under_plainId PySem.F.plain_extend_loop _]
    show wpAny _ A.in1 (pyNext (.ref z) >>= _) _ _ _
    refine wpAny_bind (U.item A.in1 i { s with heap := h, toks := tk } _ _ hh hlt hst hSl fun vals h' tk' hC hst' ht hz hkp => ?_)
    dsimp only at ht hz hkp ⊢
    have hS' := hkp S _ U.ne hS
    have up : ∀ b o, b ≠ S → h'.get? b = some o → (h'.update S (Obj.mapSeq (·.push (Value.ref h.objs.size)))).get? b = some o := fun b o hb e => (Heap.get?_update_other _ _ (Ne.symm hb)).trans e
    show wpAny _ A.in1 (updateSeq S (·.push (Value.ref h.objs.size)) >>= _) _ _ _
    refine wpAny_bind ?_
    have hBz : ∀ b, B ≤ b → b ≠ S ∧ b ∉ wr := fun b hb => ⟨fun e => by rw [e] at hb; exact absurd hSB (Nat.not_lt.mpr hb), fun e => absurd (hB b e) (Nat.not_lt.mpr hb)⟩
    refine wpAny_updateSeq hS' rfl (wpAny_pure ⟨plainId_quiet PySem.F.plain_extend_loop _, ih (i + 1) _ tk' _ (acc.push (Value.ref h.objs.size)) (as ++ [h.objs.size]) (by omega) hlt (U.frame _ _ _ hst' up)
      (fun b o h1 h2 e => up b o h1 (hkp b o h2 (hkeep b o h1 h2 e))) (Heap.get?_update_self _ hS' rfl) (by rw [Array.toList_push, hacc, List.map_append]; rfl) (by rw [List.length_append, hal]; rfl) ⟨?_, ?_, ?_⟩ ?_⟩) (by rw [hsz]; omega) (by show (acc.push (Value.ref h.objs.size)).size ≤ sizeLine + 1; rw [Array.size_push, hsz]; omega)
    · refine List.pairwise_append.mpr ⟨hG.rise, List.pairwise_singleton _ _, fun a ha b hb => ?_⟩
      rw [List.mem_singleton.mp hb]
      exact hG.there ha
    · intro a ha
      rcases List.mem_append.mp ha with ha | ha
      · exact hG.above a ha
      · rw [List.mem_singleton.mp ha]; exact hIs
    · intro j b hj
      rcases Nat.lt_trichotomy j as.length with h1 | h1 | h1
      · rw [List.getElem?_append_left h1] at hj
        obtain ⟨vals', e2, e3⟩ := hG.at_ j b hj
        obtain ⟨n1, n2⟩ := hBz b (hG.above b (List.mem_of_getElem? hj))
        exact ⟨vals', e2, up b _ n1 (hkp b _ n2 e3)⟩
      · subst h1
        have hb : h.objs.size = b := by simpa using hj
        subst hb
        exact ⟨vals, by rw [hal]; exact hC, up _ _ (Nat.ne_of_gt hSl) ht⟩
      · have hnone : (as ++ [h.objs.size])[j]? = none := List.getElem?_eq_none (by rw [List.length_append, List.length_singleton]; omega)
        rw [hnone] at hj; cases hj
    · have e : (h'.update S (Obj.mapSeq (·.push (Value.ref h.objs.size)))).get? h.objs.size = _ := up _ _ (Nat.ne_of_gt hSl) ht
      exact Nat.le_of_lt (Nat.lt_of_le_of_lt hIs (Heap.lt_size e))
theorem tups_extend (U : Tups prog w z S wr n C St) (hh : A.handled = none) (hst : St 0 s.heap) (hB : ∀ b ∈ wr, b < B) (hSB : S < B) (hBs : B ≤ s.heap.objs.size) (res : Value) (c₀ : Nat) (hS : s.heap.get? S = some { cls := .type "list", data := .seq #[] c₀ })
    (hR : ∀ h' tk acc c as, (∀ b o, b ≠ S → b ∉ wr → s.heap.get? b = some o → h'.get? b = some o) → h'.get? S = some { cls := .type "list", dict := none, data := .seq acc c, slots := #[] } → as.length = n → TupsG C B h' as →
      acc.toList = as.map Value.ref → R (.ok (.ret res)) { s with heap := h', toks := tk }) (hn : n ≤ sizeLine) :
    wpAny (model prog w) A.in1 (Builtin.List.listExtendWith (.ref S) (.ref z) res)
      (fun fin s' => match fin with | .done f => R (.ok f) s' | .again c' => c'.quiet = true ∧ codeAny (model prog w) A c' R s') (fun e s' => R (.error e) s') s := by
  have hSz : S ≠ z := fun e => U.ne (by rw [e]; exact U.mem)
  have hT : s.TypeIs (.ref z) "zip" := U.typ 0 _ hst
  unfold Builtin.List.listExtendWith
  refine wpAny_bind (wpAny_typeOf hT ?_)
  have h1 : Builtin.List.listSameRef (.ref S) (.ref z) = false := by simp [Builtin.List.listSameRef, hSz]
  have h2 : (Value.type "zip" == Value.type "list") = false := by decide
  have h3 : (Value.type "zip" == Value.type "tuple") = false := by decide
  simp only [h1, h2, h3, Bool.or_false, Bool.false_eq_true, if_false]
  refine wpAny_bind (U.self _ 0 _ _ _ hst ?_)
  refine wpAny_bind (wpAny_holding ?_)
  unfold Builtin.List.listLengthHint
  refine wpAny_bind (wpAny_specialOf hT zip_no_len ?_)
  show wpAny _ A.in1 (specialOf (Value.ref z) (Str.ofString "__length_hint__") >>= _) _ _ _
  refine wpAny_bind (wpAny_specialOf hT zip_no_hint ?_)
  refine wpAny_pure ?_
  show wpAny _ A.in1 (rule "list.extend.makes-room" >>= fun _ => Builtin.List.listTouch (.ref S) >>= fun _ =>
    again (.builtin "list.extend.loop" ⟨[.ref S, .ref z, res], []⟩)) _ _ _
  refine wpAny_bind (wpAny_rule ?_)
  refine wpAny_bind ?_
  show wpAny _ A.in1 (updateSeq S (·.push .none) >>= fun _ => updateSeq S (·.pop)) _ _ _
  refine wpAny_bind (wpAny_updateSeq hS rfl ?_)
  have hS₂ := Heap.get?_update_self (Obj.mapSeq (·.push Value.none)) hS rfl
  refine wpAny_updateSeq (hz := by seq_fits) hS₂ rfl ?_
  have hS₃ := Heap.get?_update_self (Obj.mapSeq (·.pop)) hS₂ rfl
  have oth : ∀ b o, b ≠ S → s.heap.get? b = some o → ((s.heap.update S (Obj.mapSeq (·.push Value.none))).update S (Obj.mapSeq (·.pop))).get? b = some o :=
    fun b o hb e => (Heap.get?_update_other _ _ (Ne.symm hb)).trans ((Heap.get?_update_other _ _ (Ne.symm hb)).trans e)
  refine wpAny_pure ⟨plainId_quiet PySem.F.plain_extend_loop _, tups_loop (s := s) (h₁ := s.heap) U hh hB hSB hn res hR n 0 _ _ _ _ [] (Nat.sub_zero _) (Nat.zero_le _) (U.frame _ _ _ hst oth) (fun b o h1 _ e => oth b o h1 e) hS₃ rfl rfl ⟨List.Pairwise.nil, (fun _ h => nomatch h), fun j a hj => by simp at hj⟩ ?_⟩
  rw [Heap.size_update, Heap.size_update]
  exact hBs
theorem tups_init (U : Tups prog w z S wr n C St) (hh : A.handled = none) (hst : St 0 s.heap) (hB : ∀ b ∈ wr, b < B) (hSB : S < B) (hBs : B ≤ s.heap.objs.size) (hS : s.heap.get? S = some { cls := .type "list", data := .seq #[] })
    (hR : ∀ h' tk acc c as, (∀ b o, b ≠ S → b ∉ wr → s.heap.get? b = some o → h'.get? b = some o) → h'.get? S = some { cls := .type "list", dict := none, data := .seq acc c, slots := #[] } → as.length = n → TupsG C B h' as →
      acc.toList = as.map Value.ref → R (.ok (.ret .none)) { s with heap := h', toks := tk }) (hn : n ≤ sizeLine) :
    wpAny (model prog w) A.in1 (Builtin.«list.__init__» ⟨[.ref S, .ref z], []⟩)
      (fun fin s' => match fin with | .done f => R (.ok f) s' | .again c' => c'.quiet = true ∧ codeAny (model prog w) A c' R s') (fun e s' => R (.error e) s') s := by
  show wpAny _ A.in1 (do let old ← Builtin.List.listItems (.ref S); Builtin.List.listUpdate (.ref S) (fun _ => #[]); letGo old.toList.reverse; Builtin.List.listExtendWith (.ref S) (.ref z) .none) _ _ s
  refine wpAny_bind ?_
  unfold Builtin.List.listItems
  refine wpAny_bind (wpAny_seqItems hS rfl (wpAny_pure ?_))
  show wpAny _ A.in1 (updateSeq S (fun _ => #[]) >>= fun _ => letGo (#[] : Array Value).toList.reverse >>= fun _ => Builtin.List.listExtendWith (.ref S) (.ref z) .none) _ _ s
  refine wpAny_bind (wpAny_updateSeq hS rfl ?_)
  have hS₂ := Heap.get?_update_self (Obj.mapSeq (fun _ => (#[] : Array Value))) hS rfl
  have oth : ∀ b o, b ≠ S → s.heap.get? b = some o → (s.heap.update S (Obj.mapSeq (fun _ => (#[] : Array Value)))).get? b = some o :=
    fun b o hb e => (Heap.get?_update_other _ _ (Ne.symm hb)).trans e
  refine wpAny_bind (wpAny_letGo ?_)
  refine tups_extend (hn := hn) U hh (U.frame _ _ _ hst oth) hB hSB (by rw [Heap.size_update]; exact hBs) .none _ hS₂ fun h' tk acc c as hk hS' hl hG hacc => ?_
  exact hR h' tk acc c as (fun b o h1 h2 e => hk b o h1 h2 (oth b o h1 e)) hS' hl hG hacc
end
/-- list(z) -/
theorem tups_call {prog : Program} {w : World} {A : Around} {E : Value → Shared → Prop} {s : Shared} {z : Addr} {wr : List Addr} {n : Nat} {C : Nat → Array Value → Prop} {St : Nat → Heap → Prop} {Q : Value → Shared → Prop} (U : Tups prog w z s.heap.objs.size wr n C St)
    (hh : A.handled = none) (hst : St 0 (s.heap.push { cls := .type "list", data := .seq #[] })) (hB : ∀ b ∈ wr, b < s.heap.objs.size) (hn : n ≤ sizeLine)
    (hQ : ∀ h' tk acc c as, (∀ b o, b ∉ wr → s.heap.get? b = some o → h'.get? b = some o) → h'.get? s.heap.objs.size = some { cls := .type "list", dict := none, data := .seq acc c, slots := #[] } → as.length = n → TupsG C (s.heap.objs.size + 1) h' as →
      acc.toList = as.map Value.ref → Q (.ref s.heap.objs.size) { s with heap := h', toks := tk }) :
    wpAny (model prog w) A (call (.type "list") [.ref z]) Q E s := by
  refine callType_codes (Q₁ := fun obj s₁ => obj = .ref s.heap.objs.size ∧ s₁ = { s with heap := s.heap.push { cls := .type "list", data := .seq #[] } }) PySem.F.called_list (PySem.F.typeCall_list_1 _) PySem.F.entry_list_init
    (code_list_new _ ⟨rfl, rfl⟩) fun obj s₁ h₁ => ?_
  obtain ⟨rfl, rfl⟩ := h₁
  have hS : (s.heap.push { cls := .type "list", data := .seq #[] }).get? s.heap.objs.size = some { cls := .type "list", data := .seq #[] } := Heap.get?_push_size _ rfl
  refine ⟨⟨_, hS, rfl⟩, PySem.F.args_list_init_2 _ _, tups_init (A := A.in1) (B := s.heap.objs.size + 1) U hh hst (fun b hb => Nat.lt_succ_of_lt (hB b hb)) (Nat.lt_succ_self _) (by show s.heap.objs.size + 1 ≤ (s.heap.push _).objs.size; rw [Heap.size_push]; exact Nat.le_refl _) hS (fun h' tk acc c as hk hS' hl hG hacc => ?_) hn⟩
  exact ⟨rfl, hQ h' tk acc c as (fun b o h2 e => hk b o (Nat.ne_of_lt (Heap.lt_size e)) h2 (Heap.get?_push_of_some _ e)) hS' hl hG hacc⟩
end Pf
end

section
/-! list(zip(..)) over two and over three iterators of any kind: Tups.zip2, Tups.zip3; printed by gen_zip.py. -/
namespace Pf
open PySem PySem.Spec PyProof.Rows
section
variable {prog : Program} {w : World} {A : Around} {E : Value → Shared → Prop} {s : Shared} {z TI TO T i1 i2 : Addr} {fp1 fp2 : List Addr} {n1 n2 i : Nat} {P1 P2 : Nat → Value → Prop} {St1 St2 : Nat → Heap → Prop} {f : Bool} {oT : Obj}
theorem zip2_item_held {Q : Value → Shared → Prop} (S : ZipSep2 z TI TO i1 i2 fp1 fp2) (D1 : Draws prog w A i1 fp1 n1 P1 St1) (D2 : Draws prog w A i2 fp2 n2 P2 St2)
    (hz : IsZipHeld s.heap z TI TO T f) (hT : s.heap.get? T = some oT) (hTI : IsTupOf2 s.heap TI (.ref i1) (.ref i2)) (st1 : St1 i s.heap) (st2 : St2 i s.heap) (hlt1 : i < n1) (hlt2 : i < n2)
    (hQ : ∀ x1 x2 h' tk, P1 i x1 → P2 i x2 → IsZipHeld h' z TI TO T true → St1 (i + 1) h' → St2 (i + 1) h' → IsTupOf2 h' s.heap.objs.size x1 x2 → h'.objs.size = s.heap.objs.size + 1 →
      (∀ c o, c ≠ z → c ≠ i1 → c ≠ i2 → s.heap.get? c = some o → h'.get? c = some o) → Q (.ref s.heap.objs.size) { s with heap := h', toks := tk }) :
    wpAny (model prog w) A (Builtin.«zip.__next__» ⟨[.ref z], []⟩) (fun fin s' => ∃ v, fin = .done (.ret v) ∧ Q v s') E s := by
  obtain ⟨hp, g, d, tk0, os⟩ := s
  show wpAny _ _ (field (.ref z) 2 >>= _) _ _ _
  refine wpAny_bind (wpAny_field hz rfl (x := .bool false) rfl ?_)
  show wpAny _ _ (field (.ref z) 3 >>= _) _ _ _
  refine wpAny_bind (wpAny_field hz rfl (x := .ref TI) rfl ?_)
  refine wpAny_bind (wpAny_seqItems hTI rfl ?_)
  show wpAny _ _ (Builtin.SmallTypes.ownedTupleIsFree (.ref z) >>= _) _ _ _
  refine wpAny_bind (wpAny_tupleHeld_zip hz hT fun g0 hz0 hs0 => ?_)
  replace hs0 : Heap.SameBut z hp g0 := hs0
  simp only [Bool.false_eq_true, if_false]
  refine wpAny_bind ?_
  rw [← Array.forIn_toList]
  simp only [List.forIn_cons, List.forIn_nil]
  refine wpAny_bind (wpAny_bind (wpAny_holding ?_))
  show wpAny _ _ (Builtin.SmallTypes.nextOf (.ref i1) >>= _) _ _ ⟨g0, g, d, tk0, os⟩
  refine wpAny_bind (D1.item i _ _ _ hlt1 (D1.over st1 hs0 S.zf1) fun x1 p1 tk1 hx1 sn1 hp1 => wpAny_pure ?_)
  replace hp1 : Heap.SameBut i1 g0 p1 := hp1
  refine wpAny_pure ?_
  refine wpAny_bind (wpAny_bind (wpAny_holding ?_))
  show wpAny _ _ (Builtin.SmallTypes.nextOf (.ref i2) >>= _) _ _ ⟨p1, g, d, tk1, os⟩
  refine wpAny_bind (D2.item i _ _ _ hlt2 (D2.over (D2.over st2 hs0 S.zf2) hp1 S.sep1_2) fun x2 p2 tk2 hx2 sn2 hp2 => wpAny_pure ?_)
  replace hp2 : Heap.SameBut i2 p1 p2 := hp2
  refine wpAny_pure (wpAny_pure ?_)
  show wpAny _ _ (newTuple [x1, x2] >>= _) _ _ ⟨p2, g, d, tk2, os⟩
  refine wpAny_bind (wpAny_newTuple ?_)
  have hsz : p2.objs.size = hp.objs.size := by rw [hp2.1, hp1.1, hs0.1]
  have hzz : IsZipHeld p2 z TI TO T true := (hp2.extBut _ _ S.zi2 (hp1.extBut _ _ S.zi1 hz0))
  have hkk : ∀ c o, c ≠ z → c ≠ i1 → c ≠ i2 → hp.get? c = some o → p2.get? c = some o := fun c o cz c1 c2 e => (hp2.extBut _ _ c2 (hp1.extBut _ _ c1 (hs0.extBut _ _ cz e)))
  have hj1 : St1 (i + 1) p2 := (D1.over sn1 hp2 S.sep2_1)
  have hj2 : St2 (i + 1) p2 := sn2
  refine wpAny_pure ⟨_, rfl, ?_⟩
  show Q (.ref p2.objs.size) ⟨p2.push { cls := .type "tuple", data := .seq #[x1, x2] }, g, d, tk2, os⟩
  have hp' : IsTupOf2 (p2.push { cls := .type "tuple", data := .seq #[x1, x2] }) p2.objs.size x1 x2 := Heap.get?_push_size _ rfl
  have hz4 : (p2.push { cls := .type "tuple", data := .seq #[x1, x2] }).objs.size = p2.objs.size + 1 := Heap.size_push ..
  rw [hsz] at hp' hz4 ⊢
  exact hQ x1 x2 _ tk2 hx1 hx2 (Heap.get?_push_of_some _ hzz) (D1.frame _ _ _ hj1 fun b hb o e => Heap.get?_push_of_some _ e) (D2.frame _ _ _ hj2 fun b hb o e => Heap.get?_push_of_some _ e) hp' hz4 fun c o cz c1 c2 e => Heap.get?_push_of_some _ (hkk c o cz c1 c2 e)
theorem zip2_end_held {Q : Fin → Shared → Prop} (S : ZipSep2 z TI TO i1 i2 fp1 fp2) (D1 : Draws prog w A i1 fp1 n1 P1 St1) (D2 : Draws prog w A i2 fp2 n2 P2 St2)
    (hz : IsZipHeld s.heap z TI TO T f) (hT : s.heap.get? T = some oT) (hTI : IsTupOf2 s.heap TI (.ref i1) (.ref i2)) (st1 : St1 i s.heap) (st2 : St2 i s.heap) (hle1 : i ≤ n1) (hle2 : i ≤ n2) (hend : i = n1 ∨ i = n2)
    (hE : ∀ h' tk e, (∀ c o, c ≠ z → c ≠ i1 → c ≠ i2 → s.heap.get? c = some o → h'.get? c = some o) → (∃ o, h'.get? e = some o ∧ o.cls = .type "StopIteration") → E (.ref e) { s with heap := h', toks := tk }) :
    wpAny (model prog w) A (Builtin.«zip.__next__» ⟨[.ref z], []⟩) Q E s := by
  obtain ⟨hp, g, d, tk0, os⟩ := s
  show wpAny _ _ (field (.ref z) 2 >>= _) _ _ _
  refine wpAny_bind (wpAny_field hz rfl (x := .bool false) rfl ?_)
  show wpAny _ _ (field (.ref z) 3 >>= _) _ _ _
  refine wpAny_bind (wpAny_field hz rfl (x := .ref TI) rfl ?_)
  refine wpAny_bind (wpAny_seqItems hTI rfl ?_)
  show wpAny _ _ (Builtin.SmallTypes.ownedTupleIsFree (.ref z) >>= _) _ _ _
  refine wpAny_bind (wpAny_tupleHeld_zip hz hT fun g0 hz0 hs0 => ?_)
  replace hs0 : Heap.SameBut z hp g0 := hs0
  simp only [Bool.false_eq_true, if_false]
  refine wpAny_bind ?_
  rw [← Array.forIn_toList]
  simp only [List.forIn_cons, List.forIn_nil]
  refine wpAny_bind (wpAny_bind (wpAny_holding ?_))
  show wpAny _ _ (Builtin.SmallTypes.nextOf (.ref i1) >>= _) _ _ ⟨g0, g, d, tk0, os⟩
  by_cases hlt1 : i < n1
  · refine wpAny_bind (D1.item i _ _ _ hlt1 (D1.over st1 hs0 S.zf1) fun x1 p1 tk1 hx1 sn1 hp1 => wpAny_pure ?_)
    replace hp1 : Heap.SameBut i1 g0 p1 := hp1
    refine wpAny_pure ?_
    refine wpAny_bind (wpAny_bind (wpAny_holding ?_))
    show wpAny _ _ (Builtin.SmallTypes.nextOf (.ref i2) >>= _) _ _ ⟨p1, g, d, tk1, os⟩
    have hin : i = n2 := by omega
    refine wpAny_bind (D2.done ⟨p1, g, d, tk1, os⟩ _ _ (by rw [← hin]; exact (D2.over (D2.over st2 hs0 S.zf2) hp1 S.sep1_2)) fun q e hq he => ?_)
    exact hE q tk1 e (fun c o cz c1 c2 x => hq _ _ c2 (hp1.extBut _ _ c1 (hs0.extBut _ _ cz x))) he
  · have hin : i = n1 := by omega
    refine wpAny_bind (D1.done ⟨g0, g, d, tk0, os⟩ _ _ (by rw [← hin]; exact (D1.over st1 hs0 S.zf1)) fun q e hq he => ?_)
    exact hE q tk0 e (fun c o cz c1 c2 x => hq _ _ c1 (hs0.extBut _ _ cz x)) he
end
theorem Tups.zip2 {prog : Program} {w : World} {z TI TO L i1 i2 : Addr} {fp1 fp2 : List Addr} {n1 n2 : Nat} {P1 P2 : Nat → Value → Prop} {St1 St2 : Nat → Heap → Prop} (S : ZipSep2 z TI TO i1 i2 fp1 fp2) (D1 : ∀ A : Around, A.handled = none → Draws prog w A i1 fp1 n1 P1 St1) (D2 : ∀ A : Around, A.handled = none → Draws prog w A i2 fp2 n2 P2 St2)
    (hz : L ≠ z) (hI : L ≠ TI) (hO : L ≠ TO) (hf1 : L ∉ fp1) (hf2 : L ∉ fp2) :
    Tups prog w z L [z, TO, i1, i2] (min n1 n2) (fun i vals => ∃ x1 x2, P1 i x1 ∧ P2 i x2 ∧ vals = #[x1, x2]) (fun i h => ((IsZip h z TI TO .none ∧ ∃ a1 a2, IsTupOf2 h TO a1 a2) ∨ (∃ T f oT, T ≠ L ∧ T ∉ [z, TO, i1, i2] ∧ IsZipHeld h z TI TO T f ∧ h.get? T = some oT)) ∧ IsTupOf2 h TI (.ref i1) (.ref i2) ∧ St1 i h ∧ St2 i h) where
  ne := fun hc => by
    have hc' : L = z ∨ L = TO ∨ L = i1 ∨ L = i2 := by simpa using hc
    rcases hc' with e | e | e | e
    · exact hz e
    · exact hO e
    · exact hf1 (e ▸ S.mem1)
    · exact hf2 (e ▸ S.mem2)
  mem := List.mem_cons_self ..
  typ := fun i h hst => by
    obtain ⟨⟨a, _⟩ | ⟨_, _, _, _, _, a, _⟩, _⟩ := hst
    · exact ⟨_, a, rfl⟩
    · exact ⟨_, a, rfl⟩
  frame := fun i h h' hst hk => by
    obtain ⟨hzz, hTI, st1, st2⟩ := hst
    refine ⟨?_, hk _ _ (Ne.symm hI) hTI, (D1 ({} : Around) rfl).frame _ _ _ st1 fun b hb o e => hk b o (fun q => hf1 (q ▸ hb)) e, (D2 ({} : Around) rfl).frame _ _ _ st2 fun b hb o e => hk b o (fun q => hf2 (q ▸ hb)) e⟩
    rcases hzz with ⟨a, a1, a2, b⟩ | ⟨T, f, oT, t1, t2, a, b⟩
    · exact Or.inl ⟨hk _ _ (Ne.symm hz) a, a1, a2, hk _ _ (Ne.symm hO) b⟩
    · exact Or.inr ⟨T, f, oT, t1, t2, hk _ _ (Ne.symm hz) a, hk _ _ t1 b⟩
  item := fun A i s Q E hh hi hst hL hQ => by
    obtain ⟨hzz, hTI, st1, st2⟩ := hst
    have q1 := D1 A.in1 hh
    have hi1 : i < n1 := by omega
    have q2 := D2 A.in1 hh
    have hi2 : i < n2 := by omega
    have lt : ∀ {c o}, s.heap.get? c = some o → s.heap.objs.size ≠ c := fun e => Nat.ne_of_gt (Heap.lt_size e)
    have l1 : s.heap.objs.size ≠ i1 := by obtain ⟨_, e⟩ := q1.live _ _ st1; exact lt e
    have l2 : s.heap.objs.size ≠ i2 := by obtain ⟨_, e⟩ := q2.live _ _ st2; exact lt e
    rcases hzz with ⟨a, a1, a2, b⟩ | ⟨T, f, oT, t1, t2, a, b⟩
    · refine wpAny_pyNext_zipD2_item S q1 q2 a hTI b st1 st2 hi1 hi2 fun x1 x2 h' tk y1 y2 b1 b2 d1 d2 b5 b6 hk => ?_
      refine hQ #[x1, x2] h' tk ⟨x1, x2, y1, y2, rfl⟩ ⟨Or.inr ⟨s.heap.objs.size, false, _, Nat.ne_of_gt hL, ?_, b1, b5⟩, hk _ _ S.TIz S.TITO S.TIi1 S.TIi2 hTI, d1, d2⟩ b5 b6 fun c o hc e => hk c o (fun x => hc (by simp [x])) (fun x => hc (by simp [x])) (fun x => hc (by simp [x])) (fun x => hc (by simp [x])) e
      simp only [List.mem_cons, List.not_mem_nil, or_false, not_or]
      exact ⟨lt a, lt b, l1, l2⟩
    · have hTy : s.TypeIs (.ref z) "zip" := ⟨_, a, rfl⟩
      have t2' := t2
      simp only [List.mem_cons, List.not_mem_nil, or_false, not_or] at t2'
      obtain ⟨tz, tO, t_1, t_2⟩ := t2'
      unfold pyNext
      refine wpAny_bind (wpAny_attempt (wpAny_callSpecial?_slot (name := Str.ofString "__next__") hTy F.slot_zip_next
        (wpAny_call_entry F.slot_zip_next hTy F.entry_zip_next
          (zip2_item_held S q1 q2 a b hTI st1 st2 hi1 hi2 fun x1 x2 h' tk y1 y2 b1 d1 d2 b5 b6 hk => wpAny_pure ?_) (F.args_zip_next_1 _))))
      exact hQ #[x1, x2] h' tk ⟨x1, x2, y1, y2, rfl⟩ ⟨Or.inr ⟨T, true, oT, t1, t2, b1, hk _ _ tz t_1 t_2 b⟩, hk _ _ S.TIz S.TIi1 S.TIi2 hTI, d1, d2⟩ b5 b6 fun c o hc e => hk c o (fun x => hc (by simp [x])) (fun x => hc (by simp [x])) (fun x => hc (by simp [x])) e
  done := fun A s Q E hh hst hQ => by
    obtain ⟨hzz, hTI, st1, st2⟩ := hst
    have q1 := D1 A.in1 hh
    have q2 := D2 A.in1 hh
    rcases hzz with ⟨a, a1, a2, b⟩ | ⟨T, f, oT, t1, t2, a, b⟩
    · exact wpAny_pyNext_zipD2_end S q1 q2 a hTI b st1 st2 (by omega) (by omega) (by omega) fun h' tk hk => hQ h' tk fun c o hc e => hk c o (fun x => hc (by simp [x])) (fun x => hc (by simp [x])) (fun x => hc (by simp [x])) (fun x => hc (by simp [x])) e
    · have hTy : s.TypeIs (.ref z) "zip" := ⟨_, a, rfl⟩
      unfold pyNext
      refine wpAny_bind (wpAny_attempt (wpAny_callSpecial?_slot (name := Str.ofString "__next__") hTy F.slot_zip_next
        (wpAny_call_entry F.slot_zip_next hTy F.entry_zip_next
          (zip2_end_held S q1 q2 a b hTI st1 st2 (by omega) (by omega) (by omega) fun h' tk e hk he => ?_) (F.args_zip_next_1 _))))
      obtain ⟨o, ho, hc⟩ := he
      refine wpAny_bind (wpAny_isInstance (T := "StopIteration") (b := true) ⟨o, ho, hc⟩ isSubtype_stop ?_)
      exact wpAny_pure (hQ _ _ fun c o hc e => hk c o (fun x => hc (by simp [x])) (fun x => hc (by simp [x])) (fun x => hc (by simp [x])) e)
  self := fun A i s Q E hst hQ => by
    obtain ⟨⟨a, _⟩ | ⟨_, _, _, _, _, a, _⟩, _⟩ := hst
    · exact wpAny_pyIter_zip a hQ
    · have hT : s.TypeIs (.ref z) "zip" := ⟨_, a, rfl⟩
      refine wpAny_pyIter_slot hT F.slot_zip_iter (wpAny_call_entry F.slot_zip_iter hT F.entry_zip_iter ?_ (F.args_zip_iter_1 _))
      show wpAny _ _ (ret (.ref z)) _ _ s
      exact wpAny_pure ⟨_, rfl, "zip", _, hT, F.slot_zip_next.lookup, hQ⟩
section
variable {prog : Program} {w : World} {A : Around} {E : Value → Shared → Prop} {s : Shared} {z TI TO T i1 i2 i3 : Addr} {fp1 fp2 fp3 : List Addr} {n1 n2 n3 i : Nat} {P1 P2 P3 : Nat → Value → Prop} {St1 St2 St3 : Nat → Heap → Prop} {f : Bool} {oT : Obj}
theorem zip3_item_held {Q : Value → Shared → Prop} (S : ZipSep3 z TI TO i1 i2 i3 fp1 fp2 fp3) (D1 : Draws prog w A i1 fp1 n1 P1 St1) (D2 : Draws prog w A i2 fp2 n2 P2 St2) (D3 : Draws prog w A i3 fp3 n3 P3 St3)
    (hz : IsZipHeld s.heap z TI TO T f) (hT : s.heap.get? T = some oT) (hTI : IsTupOf3 s.heap TI (.ref i1) (.ref i2) (.ref i3)) (st1 : St1 i s.heap) (st2 : St2 i s.heap) (st3 : St3 i s.heap) (hlt1 : i < n1) (hlt2 : i < n2) (hlt3 : i < n3)
    (hQ : ∀ x1 x2 x3 h' tk, P1 i x1 → P2 i x2 → P3 i x3 → IsZipHeld h' z TI TO T true → St1 (i + 1) h' → St2 (i + 1) h' → St3 (i + 1) h' → IsTupOf3 h' s.heap.objs.size x1 x2 x3 → h'.objs.size = s.heap.objs.size + 1 →
      (∀ c o, c ≠ z → c ≠ i1 → c ≠ i2 → c ≠ i3 → s.heap.get? c = some o → h'.get? c = some o) → Q (.ref s.heap.objs.size) { s with heap := h', toks := tk }) :
    wpAny (model prog w) A (Builtin.«zip.__next__» ⟨[.ref z], []⟩) (fun fin s' => ∃ v, fin = .done (.ret v) ∧ Q v s') E s := by
  obtain ⟨hp, g, d, tk0, os⟩ := s
  show wpAny _ _ (field (.ref z) 2 >>= _) _ _ _
  refine wpAny_bind (wpAny_field hz rfl (x := .bool false) rfl ?_)
  show wpAny _ _ (field (.ref z) 3 >>= _) _ _ _
  refine wpAny_bind (wpAny_field hz rfl (x := .ref TI) rfl ?_)
  refine wpAny_bind (wpAny_seqItems hTI rfl ?_)
  show wpAny _ _ (Builtin.SmallTypes.ownedTupleIsFree (.ref z) >>= _) _ _ _
  refine wpAny_bind (wpAny_tupleHeld_zip hz hT fun g0 hz0 hs0 => ?_)
  replace hs0 : Heap.SameBut z hp g0 := hs0
  simp only [Bool.false_eq_true, if_false]
  refine wpAny_bind ?_
  rw [← Array.forIn_toList]
  simp only [List.forIn_cons, List.forIn_nil]
  refine wpAny_bind (wpAny_bind (wpAny_holding ?_))
  show wpAny _ _ (Builtin.SmallTypes.nextOf (.ref i1) >>= _) _ _ ⟨g0, g, d, tk0, os⟩
  refine wpAny_bind (D1.item i _ _ _ hlt1 (D1.over st1 hs0 S.zf1) fun x1 p1 tk1 hx1 sn1 hp1 => wpAny_pure ?_)
  replace hp1 : Heap.SameBut i1 g0 p1 := hp1
  refine wpAny_pure ?_
  refine wpAny_bind (wpAny_bind (wpAny_holding ?_))
  show wpAny _ _ (Builtin.SmallTypes.nextOf (.ref i2) >>= _) _ _ ⟨p1, g, d, tk1, os⟩
  refine wpAny_bind (D2.item i _ _ _ hlt2 (D2.over (D2.over st2 hs0 S.zf2) hp1 S.sep1_2) fun x2 p2 tk2 hx2 sn2 hp2 => wpAny_pure ?_)
  replace hp2 : Heap.SameBut i2 p1 p2 := hp2
  refine wpAny_pure ?_
  refine wpAny_bind (wpAny_bind (wpAny_holding ?_))
  show wpAny _ _ (Builtin.SmallTypes.nextOf (.ref i3) >>= _) _ _ ⟨p2, g, d, tk2, os⟩
  refine wpAny_bind (D3.item i _ _ _ hlt3 (D3.over (D3.over (D3.over st3 hs0 S.zf3) hp1 S.sep1_3) hp2 S.sep2_3) fun x3 p3 tk3 hx3 sn3 hp3 => wpAny_pure ?_)
  replace hp3 : Heap.SameBut i3 p2 p3 := hp3
  refine wpAny_pure (wpAny_pure ?_)
  show wpAny _ _ (newTuple [x1, x2, x3] >>= _) _ _ ⟨p3, g, d, tk3, os⟩
  refine wpAny_bind (wpAny_newTuple ?_)
  have hsz : p3.objs.size = hp.objs.size := by rw [hp3.1, hp2.1, hp1.1, hs0.1]
  have hzz : IsZipHeld p3 z TI TO T true := (hp3.extBut _ _ S.zi3 (hp2.extBut _ _ S.zi2 (hp1.extBut _ _ S.zi1 hz0)))
  have hkk : ∀ c o, c ≠ z → c ≠ i1 → c ≠ i2 → c ≠ i3 → hp.get? c = some o → p3.get? c = some o := fun c o cz c1 c2 c3 e => (hp3.extBut _ _ c3 (hp2.extBut _ _ c2 (hp1.extBut _ _ c1 (hs0.extBut _ _ cz e))))
  have hj1 : St1 (i + 1) p3 := (D1.over (D1.over sn1 hp2 S.sep2_1) hp3 S.sep3_1)
  have hj2 : St2 (i + 1) p3 := (D2.over sn2 hp3 S.sep3_2)
  have hj3 : St3 (i + 1) p3 := sn3
  refine wpAny_pure ⟨_, rfl, ?_⟩
  show Q (.ref p3.objs.size) ⟨p3.push { cls := .type "tuple", data := .seq #[x1, x2, x3] }, g, d, tk3, os⟩
  have hp' : IsTupOf3 (p3.push { cls := .type "tuple", data := .seq #[x1, x2, x3] }) p3.objs.size x1 x2 x3 := Heap.get?_push_size _ rfl
  have hz4 : (p3.push { cls := .type "tuple", data := .seq #[x1, x2, x3] }).objs.size = p3.objs.size + 1 := Heap.size_push ..
  rw [hsz] at hp' hz4 ⊢
  exact hQ x1 x2 x3 _ tk3 hx1 hx2 hx3 (Heap.get?_push_of_some _ hzz) (D1.frame _ _ _ hj1 fun b hb o e => Heap.get?_push_of_some _ e) (D2.frame _ _ _ hj2 fun b hb o e => Heap.get?_push_of_some _ e) (D3.frame _ _ _ hj3 fun b hb o e => Heap.get?_push_of_some _ e) hp' hz4 fun c o cz c1 c2 c3 e => Heap.get?_push_of_some _ (hkk c o cz c1 c2 c3 e)
theorem zip3_end_held {Q : Fin → Shared → Prop} (S : ZipSep3 z TI TO i1 i2 i3 fp1 fp2 fp3) (D1 : Draws prog w A i1 fp1 n1 P1 St1) (D2 : Draws prog w A i2 fp2 n2 P2 St2) (D3 : Draws prog w A i3 fp3 n3 P3 St3)
    (hz : IsZipHeld s.heap z TI TO T f) (hT : s.heap.get? T = some oT) (hTI : IsTupOf3 s.heap TI (.ref i1) (.ref i2) (.ref i3)) (st1 : St1 i s.heap) (st2 : St2 i s.heap) (st3 : St3 i s.heap) (hle1 : i ≤ n1) (hle2 : i ≤ n2) (hle3 : i ≤ n3) (hend : i = n1 ∨ i = n2 ∨ i = n3)
    (hE : ∀ h' tk e, (∀ c o, c ≠ z → c ≠ i1 → c ≠ i2 → c ≠ i3 → s.heap.get? c = some o → h'.get? c = some o) → (∃ o, h'.get? e = some o ∧ o.cls = .type "StopIteration") → E (.ref e) { s with heap := h', toks := tk }) :
    wpAny (model prog w) A (Builtin.«zip.__next__» ⟨[.ref z], []⟩) Q E s := by
  obtain ⟨hp, g, d, tk0, os⟩ := s
  show wpAny _ _ (field (.ref z) 2 >>= _) _ _ _
  refine wpAny_bind (wpAny_field hz rfl (x := .bool false) rfl ?_)
  show wpAny _ _ (field (.ref z) 3 >>= _) _ _ _
  refine wpAny_bind (wpAny_field hz rfl (x := .ref TI) rfl ?_)
  refine wpAny_bind (wpAny_seqItems hTI rfl ?_)
  show wpAny _ _ (Builtin.SmallTypes.ownedTupleIsFree (.ref z) >>= _) _ _ _
  refine wpAny_bind (wpAny_tupleHeld_zip hz hT fun g0 hz0 hs0 => ?_)
  replace hs0 : Heap.SameBut z hp g0 := hs0
  simp only [Bool.false_eq_true, if_false]
  refine wpAny_bind ?_
  rw [← Array.forIn_toList]
  simp only [List.forIn_cons, List.forIn_nil]
  refine wpAny_bind (wpAny_bind (wpAny_holding ?_))
  show wpAny _ _ (Builtin.SmallTypes.nextOf (.ref i1) >>= _) _ _ ⟨g0, g, d, tk0, os⟩
  by_cases hlt1 : i < n1
  · refine wpAny_bind (D1.item i _ _ _ hlt1 (D1.over st1 hs0 S.zf1) fun x1 p1 tk1 hx1 sn1 hp1 => wpAny_pure ?_)
    replace hp1 : Heap.SameBut i1 g0 p1 := hp1
    refine wpAny_pure ?_
    refine wpAny_bind (wpAny_bind (wpAny_holding ?_))
    show wpAny _ _ (Builtin.SmallTypes.nextOf (.ref i2) >>= _) _ _ ⟨p1, g, d, tk1, os⟩
    by_cases hlt2 : i < n2
    · refine wpAny_bind (D2.item i _ _ _ hlt2 (D2.over (D2.over st2 hs0 S.zf2) hp1 S.sep1_2) fun x2 p2 tk2 hx2 sn2 hp2 => wpAny_pure ?_)
      replace hp2 : Heap.SameBut i2 p1 p2 := hp2
      refine wpAny_pure ?_
      refine wpAny_bind (wpAny_bind (wpAny_holding ?_))
      show wpAny _ _ (Builtin.SmallTypes.nextOf (.ref i3) >>= _) _ _ ⟨p2, g, d, tk2, os⟩
      have hin : i = n3 := by omega
      refine wpAny_bind (D3.done ⟨p2, g, d, tk2, os⟩ _ _ (by rw [← hin]; exact (D3.over (D3.over (D3.over st3 hs0 S.zf3) hp1 S.sep1_3) hp2 S.sep2_3)) fun q e hq he => ?_)
      exact hE q tk2 e (fun c o cz c1 c2 c3 x => hq _ _ c3 (hp2.extBut _ _ c2 (hp1.extBut _ _ c1 (hs0.extBut _ _ cz x)))) he
    · have hin : i = n2 := by omega
      refine wpAny_bind (D2.done ⟨p1, g, d, tk1, os⟩ _ _ (by rw [← hin]; exact (D2.over (D2.over st2 hs0 S.zf2) hp1 S.sep1_2)) fun q e hq he => ?_)
      exact hE q tk1 e (fun c o cz c1 c2 c3 x => hq _ _ c2 (hp1.extBut _ _ c1 (hs0.extBut _ _ cz x))) he
  · have hin : i = n1 := by omega
    refine wpAny_bind (D1.done ⟨g0, g, d, tk0, os⟩ _ _ (by rw [← hin]; exact (D1.over st1 hs0 S.zf1)) fun q e hq he => ?_)
    exact hE q tk0 e (fun c o cz c1 c2 c3 x => hq _ _ c1 (hs0.extBut _ _ cz x)) he
end
theorem Tups.zip3 {prog : Program} {w : World} {z TI TO L i1 i2 i3 : Addr} {fp1 fp2 fp3 : List Addr} {n1 n2 n3 : Nat} {P1 P2 P3 : Nat → Value → Prop} {St1 St2 St3 : Nat → Heap → Prop} (S : ZipSep3 z TI TO i1 i2 i3 fp1 fp2 fp3) (D1 : ∀ A : Around, A.handled = none → Draws prog w A i1 fp1 n1 P1 St1) (D2 : ∀ A : Around, A.handled = none → Draws prog w A i2 fp2 n2 P2 St2) (D3 : ∀ A : Around, A.handled = none → Draws prog w A i3 fp3 n3 P3 St3)
    (hz : L ≠ z) (hI : L ≠ TI) (hO : L ≠ TO) (hf1 : L ∉ fp1) (hf2 : L ∉ fp2) (hf3 : L ∉ fp3) :
    Tups prog w z L [z, TO, i1, i2, i3] (min (min n1 n2) n3) (fun i vals => ∃ x1 x2 x3, P1 i x1 ∧ P2 i x2 ∧ P3 i x3 ∧ vals = #[x1, x2, x3]) (fun i h => ((IsZip h z TI TO .none ∧ ∃ a1 a2 a3, IsTupOf3 h TO a1 a2 a3) ∨ (∃ T f oT, T ≠ L ∧ T ∉ [z, TO, i1, i2, i3] ∧ IsZipHeld h z TI TO T f ∧ h.get? T = some oT)) ∧ IsTupOf3 h TI (.ref i1) (.ref i2) (.ref i3) ∧ St1 i h ∧ St2 i h ∧ St3 i h) where
  ne := fun hc => by
    have hc' : L = z ∨ L = TO ∨ L = i1 ∨ L = i2 ∨ L = i3 := by simpa using hc
    rcases hc' with e | e | e | e | e
    · exact hz e
    · exact hO e
    · exact hf1 (e ▸ S.mem1)
    · exact hf2 (e ▸ S.mem2)
    · exact hf3 (e ▸ S.mem3)
  mem := List.mem_cons_self ..
  typ := fun i h hst => by
    obtain ⟨⟨a, _⟩ | ⟨_, _, _, _, _, a, _⟩, _⟩ := hst
    · exact ⟨_, a, rfl⟩
    · exact ⟨_, a, rfl⟩
  frame := fun i h h' hst hk => by
    obtain ⟨hzz, hTI, st1, st2, st3⟩ := hst
    refine ⟨?_, hk _ _ (Ne.symm hI) hTI, (D1 ({} : Around) rfl).frame _ _ _ st1 fun b hb o e => hk b o (fun q => hf1 (q ▸ hb)) e, (D2 ({} : Around) rfl).frame _ _ _ st2 fun b hb o e => hk b o (fun q => hf2 (q ▸ hb)) e, (D3 ({} : Around) rfl).frame _ _ _ st3 fun b hb o e => hk b o (fun q => hf3 (q ▸ hb)) e⟩
    rcases hzz with ⟨a, a1, a2, a3, b⟩ | ⟨T, f, oT, t1, t2, a, b⟩
    · exact Or.inl ⟨hk _ _ (Ne.symm hz) a, a1, a2, a3, hk _ _ (Ne.symm hO) b⟩
    · exact Or.inr ⟨T, f, oT, t1, t2, hk _ _ (Ne.symm hz) a, hk _ _ t1 b⟩
  item := fun A i s Q E hh hi hst hL hQ => by
    obtain ⟨hzz, hTI, st1, st2, st3⟩ := hst
    have q1 := D1 A.in1 hh
    have hi1 : i < n1 := by omega
    have q2 := D2 A.in1 hh
    have hi2 : i < n2 := by omega
    have q3 := D3 A.in1 hh
    have hi3 : i < n3 := by omega
    have lt : ∀ {c o}, s.heap.get? c = some o → s.heap.objs.size ≠ c := fun e => Nat.ne_of_gt (Heap.lt_size e)
    have l1 : s.heap.objs.size ≠ i1 := by obtain ⟨_, e⟩ := q1.live _ _ st1; exact lt e
    have l2 : s.heap.objs.size ≠ i2 := by obtain ⟨_, e⟩ := q2.live _ _ st2; exact lt e
    have l3 : s.heap.objs.size ≠ i3 := by obtain ⟨_, e⟩ := q3.live _ _ st3; exact lt e
    rcases hzz with ⟨a, a1, a2, a3, b⟩ | ⟨T, f, oT, t1, t2, a, b⟩
    · refine wpAny_pyNext_zipD3_item S q1 q2 q3 a hTI b st1 st2 st3 hi1 hi2 hi3 fun x1 x2 x3 h' tk y1 y2 y3 b1 b2 d1 d2 d3 b5 b6 hk => ?_
      refine hQ #[x1, x2, x3] h' tk ⟨x1, x2, x3, y1, y2, y3, rfl⟩ ⟨Or.inr ⟨s.heap.objs.size, false, _, Nat.ne_of_gt hL, ?_, b1, b5⟩, hk _ _ S.TIz S.TITO S.TIi1 S.TIi2 S.TIi3 hTI, d1, d2, d3⟩ b5 b6 fun c o hc e => hk c o (fun x => hc (by simp [x])) (fun x => hc (by simp [x])) (fun x => hc (by simp [x])) (fun x => hc (by simp [x])) (fun x => hc (by simp [x])) e
      simp only [List.mem_cons, List.not_mem_nil, or_false, not_or]
      exact ⟨lt a, lt b, l1, l2, l3⟩
    · have hTy : s.TypeIs (.ref z) "zip" := ⟨_, a, rfl⟩
      have t2' := t2
      simp only [List.mem_cons, List.not_mem_nil, or_false, not_or] at t2'
      obtain ⟨tz, tO, t_1, t_2, t_3⟩ := t2'
      unfold pyNext
      refine wpAny_bind (wpAny_attempt (wpAny_callSpecial?_slot (name := Str.ofString "__next__") hTy F.slot_zip_next
        (wpAny_call_entry F.slot_zip_next hTy F.entry_zip_next
          (zip3_item_held S q1 q2 q3 a b hTI st1 st2 st3 hi1 hi2 hi3 fun x1 x2 x3 h' tk y1 y2 y3 b1 d1 d2 d3 b5 b6 hk => wpAny_pure ?_) (F.args_zip_next_1 _))))
      exact hQ #[x1, x2, x3] h' tk ⟨x1, x2, x3, y1, y2, y3, rfl⟩ ⟨Or.inr ⟨T, true, oT, t1, t2, b1, hk _ _ tz t_1 t_2 t_3 b⟩, hk _ _ S.TIz S.TIi1 S.TIi2 S.TIi3 hTI, d1, d2, d3⟩ b5 b6 fun c o hc e => hk c o (fun x => hc (by simp [x])) (fun x => hc (by simp [x])) (fun x => hc (by simp [x])) (fun x => hc (by simp [x])) e
  done := fun A s Q E hh hst hQ => by
    obtain ⟨hzz, hTI, st1, st2, st3⟩ := hst
    have q1 := D1 A.in1 hh
    have q2 := D2 A.in1 hh
    have q3 := D3 A.in1 hh
    rcases hzz with ⟨a, a1, a2, a3, b⟩ | ⟨T, f, oT, t1, t2, a, b⟩
    · exact wpAny_pyNext_zipD3_end S q1 q2 q3 a hTI b st1 st2 st3 (by omega) (by omega) (by omega) (by omega) fun h' tk hk => hQ h' tk fun c o hc e => hk c o (fun x => hc (by simp [x])) (fun x => hc (by simp [x])) (fun x => hc (by simp [x])) (fun x => hc (by simp [x])) (fun x => hc (by simp [x])) e
    · have hTy : s.TypeIs (.ref z) "zip" := ⟨_, a, rfl⟩
      unfold pyNext
      refine wpAny_bind (wpAny_attempt (wpAny_callSpecial?_slot (name := Str.ofString "__next__") hTy F.slot_zip_next
        (wpAny_call_entry F.slot_zip_next hTy F.entry_zip_next
          (zip3_end_held S q1 q2 q3 a b hTI st1 st2 st3 (by omega) (by omega) (by omega) (by omega) fun h' tk e hk he => ?_) (F.args_zip_next_1 _))))
      obtain ⟨o, ho, hc⟩ := he
      refine wpAny_bind (wpAny_isInstance (T := "StopIteration") (b := true) ⟨o, ho, hc⟩ isSubtype_stop ?_)
      exact wpAny_pure (hQ _ _ fun c o hc e => hk c o (fun x => hc (by simp [x])) (fun x => hc (by simp [x])) (fun x => hc (by simp [x])) (fun x => hc (by simp [x])) e)
  self := fun A i s Q E hst hQ => by
    obtain ⟨⟨a, _⟩ | ⟨_, _, _, _, _, a, _⟩, _⟩ := hst
    · exact wpAny_pyIter_zip a hQ
    · have hT : s.TypeIs (.ref z) "zip" := ⟨_, a, rfl⟩
      refine wpAny_pyIter_slot hT F.slot_zip_iter (wpAny_call_entry F.slot_zip_iter hT F.entry_zip_iter ?_ (F.args_zip_iter_1 _))
      show wpAny _ _ (ret (.ref z)) _ _ s
      exact wpAny_pure ⟨_, rfl, "zip", _, hT, F.slot_zip_next.lookup, hQ⟩
end Pf
end

section
/-! list(zip(a, b, c)) over tuples, list(zip(a, b)) over lists: the rules. -/
namespace Pf
open PySem PySem.Spec PyProof.Rows L2
theorem choose_list {α β : Type} : ∀ (as : List α) (P : Nat → β → Prop), (∀ j a, as[j]? = some a → ∃ x, P j x) → ∃ xs : List β, xs.length = as.length ∧ ∀ j x, xs[j]? = some x → P j x
  | [], _, _ => ⟨[], rfl, fun j x h => by cases h⟩
  | a :: as, P, h => by
    obtain ⟨x, hx⟩ := h 0 a rfl
    obtain ⟨xs, hl, hxs⟩ := choose_list as (fun j => P (j + 1)) fun j b hj => h (j + 1) b hj
    refine ⟨x :: xs, by simp [hl], fun j y hy => ?_⟩
    cases j with
    | zero => cases hy; exact hx
    | succ j => exact hxs j y hy
/-- the tuples tracked at their addresses -/
def putW : Hp → List Addr → List (List V) → Hp
  | H, a :: as, w :: ws => putW (upd H a (.tup w)) as ws
  | H, _, _ => H
theorem putW_off {b : Addr} : ∀ (as : List Addr) (ws : List (List V)) (H : Hp), b ∉ as → putW H as ws b = H b
  | [], _, _, _ => rfl
  | _ :: _, [], _, _ => rfl
  | a :: as, w :: ws, H, h => by
    show putW (upd H a (.tup w)) as ws b = H b
    rw [putW_off as ws _ (fun z => h (List.mem_cons_of_mem _ z)), upd_ne (fun z => h (by rw [z]; exact List.mem_cons_self))]
theorem putW_at : ∀ (as : List Addr) (ws : List (List V)) (H : Hp), as.length = ws.length → as.Nodup → ∀ (j : Nat) (a : Addr), as[j]? = some a → ∃ w, ws[j]? = some w ∧ putW H as ws a = some (.tup w)
  | [], _, _, _, _, j, a, h => by cases h
  | _ :: _, [], _, h, _, _, _, _ => by cases h
  | a :: as, w :: ws, H, h, hn, j, b, hj => by
    have hn' := List.nodup_cons.mp hn
    cases j with
    | zero =>
      cases hj
      exact ⟨w, rfl, by show putW (upd H a (.tup w)) as ws a = _; rw [putW_off as ws _ hn'.1, upd_same]⟩
    | succ j => exact putW_at as ws (upd H a (.tup w)) (Nat.succ.inj h) hn'.2 j b hj
theorem tups_laid {X : Cx} {pins : List (Addr × Obj)} {σ : L2.St} {H : Hp} {s : Shared} {h' : Heap} {tk : Nat} {acc : Array Value} {c : Nat} {as : List Addr} {C : Nat → Array Value → Prop} {L : Addr} (I : Inv X pins σ H s) (R : Nat → List V → Prop)
    (hC : ∀ j vals, C j vals → ∃ xs, R j xs ∧ xs.length ≤ sizeLine ∧ Vals xs vals.toList) (hz : as.length ≤ sizeLine) (hL : s.heap.objs.size ≤ L) (hk : ∀ b o, s.heap.get? b = some o → h'.get? b = some o)
    (hS : h'.get? L = some { cls := .type "list", dict := none, data := .seq acc c, slots := #[] }) (hG : TupsG C (L + 1) h' as) (hacc : acc.toList = as.map Value.ref) :
    ∃ H' : Hp, (∀ b o, H b = some o → H' b = some o) ∧ H L = none ∧ (∀ t ∈ as, H t = none) ∧ L ∉ as ∧ as.Nodup ∧ H' L = some (.lst (as.map V.ref)) ∧ (∀ (j : Nat) (t : Addr), as[j]? = some t → ∃ xs, R j xs ∧ H' t = some (.tup xs)) ∧ Inv X pins σ H' { s with heap := h', toks := tk } := by
  obtain ⟨ws, hl, hws⟩ := choose_list as (fun j xs => ∃ a vals, as[j]? = some a ∧ R j xs ∧ xs.length ≤ sizeLine ∧ Vals xs vals.toList ∧ h'.get? a = some { cls := .type "tuple", data := .seq vals }) fun j a hj => by
    obtain ⟨vals, e1, e2⟩ := hG.at_ j a hj
    obtain ⟨xs, f1, f2, f3⟩ := hC j vals e1
    exact ⟨xs, a, vals, hj, f1, f2, f3, e2⟩
  have hSn : L ∉ as := fun z => Nat.lt_irrefl _ (hG.above _ z)
  have nd : as.Nodup := List.Pairwise.imp (fun {a b} (h : a < b) => Nat.ne_of_lt h) hG.rise
  have new : ∀ t ∈ as, H t = none := fun t ht => I.hok.fresh (Nat.le_trans hL (Nat.le_of_lt (hG.above t ht)))
  have newS : H L = none := I.hok.fresh hL
  have atP := putW_at as ws (upd H L (.lst (as.map V.ref))) hl.symm nd
  have off : ∀ b, b ∉ as → b ≠ L → putW (upd H L (.lst (as.map V.ref))) as ws b = H b := fun b h1 h2 => by rw [putW_off as ws _ h1, upd_ne h2]
  have low : ∀ b o, s.heap.get? b = some o → b ∉ as ∧ b ≠ L := fun b o e => ⟨fun z => absurd (Heap.lt_size e) (Nat.not_lt.mpr (Nat.le_trans hL (Nat.le_of_lt (hG.above b z)))), Nat.ne_of_lt (Nat.lt_of_lt_of_le (Heap.lt_size e) hL)⟩
  have kp : ∀ b u, H b = some u → (putW (upd H L (.lst (as.map V.ref))) as ws) b = some u := fun b u e => by
    rw [off b (fun z => by rw [new b z] at e; cases e) (fun z => by rw [z, newS] at e; cases e)]
    exact e
  have eS : putW (upd H L (.lst (as.map V.ref))) as ws L = some (.lst (as.map V.ref)) := by rw [putW_off as ws _ hSn, upd_same]
  refine ⟨putW (upd H L (.lst (as.map V.ref))) as ws, kp, newS, new, hSn, nd, eS, fun j t hj => ?_, ?_⟩
  · obtain ⟨xs, e1, e2⟩ := atP j t hj
    obtain ⟨a, vals, f1, f2, _⟩ := hws j xs e1
    exact ⟨xs, f2, e2⟩
  refine I.call' (ch := []) rfl ⟨fun b o q _ _ _ => hk b o q, fun b o q _ _ _ => ⟨o.slots, hk b o q⟩, fun b o q n _ => ?_, fun b o q _ => ⟨o, hk b o q⟩, fun b xs q => kp b _ q, fun b o u q => kp b _ q, fun b ps q => ⟨#[], by rw [kp b _ q]; simp⟩⟩ (fun b u q => ?_) I.bare fun b z => by simp at z
  · obtain ⟨z1, z2⟩ := low b o q
    rw [off b z1 z2]
    exact n
  · by_cases hb : b ∈ as
    · obtain ⟨j, hj⟩ := List.mem_iff_getElem?.mp hb
      obtain ⟨xs, e1, e2⟩ := atP j b hj
      rw [e2] at q
      cases q
      obtain ⟨a, vals, f1, f2, f3, f4, f5⟩ := hws j xs e1
      rw [hj] at f1
      cases f1
      exact ⟨f3, vals.toList, f4, ⟨_, f5, rfl, _, rfl⟩⟩
    · by_cases hb2 : b = L
      · rw [hb2] at q ⊢
        rw [eS] at q
        cases q
        refine ⟨by rw [List.length_map]; omega, acc.toList, c, by rw [hacc]; exact LiI.vals_refs as, ?_⟩
        rw [Array.toArray_toList]
        exact hS
      · rw [off b hb hb2] at q
        exact (I.hok b u q).stay (fun d v _ y => hk d v y) (fun d y => kp d _ y) fun d xs y => kp d _ y
theorem vals_back : ∀ {xs : List V} {us : List Value}, Vals xs us → ∀ {j : Nat} {u : Value}, us[j]? = some u → ∃ x, xs[j]? = some x ∧ RelV x u
  | _, _, .nil, j, u, h => by cases h
  | _, _, .cons r t, 0, u, h => by cases h; exact ⟨_, rfl, r⟩
  | _, _, .cons r t, j + 1, u, h => vals_back t h
theorem nin_new {N a : Nat} (h : a < N) (k i : Nat) (hk : i < k) : (N + k : Nat) ∉ [N + i, a] := by
  simp only [List.mem_cons, List.not_mem_nil, or_false, not_or]
  omega
theorem cells3 {N b : Nat} (h : b ∈ [N + 5, N + 4, N, N + 1, N + 2]) : N ≤ b ∧ b < N + 6 := by
  simp only [List.mem_cons, List.not_mem_nil, or_false] at h
  omega
theorem cells2 {N b : Nat} (h : b ∈ [N + 4, N + 3, N, N + 1]) : N ≤ b ∧ b < N + 5 := by
  simp only [List.mem_cons, List.not_mem_nil, or_false] at h
  omega
/-- list(zip(a, b, c)) over tuples -/
def tZip3 (K : PySem.W.Frag) (ta : TA) : TE := fun σ H Q => ta σ H fun vs H1 => ∃ a b c xs ys zs, vs = [.ref a, .ref b, .ref c] ∧ SqT K H1 a xs ∧ SqT K H1 b ys ∧ SqT K H1 c zs ∧
  ∀ (H' : Hp) (l : Addr) (ts : List Addr), (∀ b o, H1 b = some o → H' b = some o) → H1 l = none → (∀ t ∈ ts, H1 t = none) → l ∉ ts → H' l = some (.lst (ts.map V.ref)) → ts.length = min (min xs.length ys.length) zs.length →
    (∀ (j : Nat) (t : Addr), ts[j]? = some t → ∃ x y z, xs[j]? = some x ∧ ys[j]? = some y ∧ zs[j]? = some z ∧ H' t = some (.tup [x, y, z])) → Q (.ref l) H'
/-- list(zip(a, b)) over lists -/
def tZip2 (K : PySem.W.Frag) (ta : TA) : TE := fun σ H Q => ta σ H fun vs H1 => ∃ a b xs ys, vs = [.ref a, .ref b] ∧ SqL K H1 a xs ∧ SqL K H1 b ys ∧
  ∀ (H' : Hp) (l : Addr) (ts : List Addr), (∀ b o, H1 b = some o → H' b = some o) → H1 l = none → (∀ t ∈ ts, H1 t = none) → l ∉ ts → H' l = some (.lst (ts.map V.ref)) → ts.length = min xs.length ys.length →
    (∀ (j : Nat) (t : Addr), ts[j]? = some t → ∃ x y, xs[j]? = some x ∧ ys[j]? = some y ∧ H' t = some (.tup [x, y])) → Q (.ref l) H'
section
variable {X : Cx} {e1 e2 e3 : Expr} {ta : TA} {p p2 q pos : Pos}
theorem pe_listZip3 (hc : X.calm = true) (hg : Gl X "list") (hm : X.mg "list" = none) (hg2 : Gl X "zip") (hm2 : X.mg "zip" = none) (ha : PA X [e1, e2, e3] ta)
    (na : starEach [.Call (.Name "zip" p2) [e1, e2, e3] [] q] X.env = (false, eval (.Call (.Name "zip" p2) [e1, e2, e3] [] q) X.env) :: starEach [] X.env := by rfl)
    (hs : starEach [e1, e2, e3] X.env = (false, eval e1 X.env) :: starEach [e2, e3] X.env := by rfl) (hpl : (backTo q (starEach [e2, e3] X.env)).any (·.1) = false := by rfl) :
    PE X (.Call (.Name "list" p) [.Call (.Name "zip" p2) [e1, e2, e3] [] q] [] pos) (tZip3 X.K ta) := by
  refine ⟨fun pins s σ H Q I hq => ?_⟩
  refine Call_ (ld_blt I hg hm PyProof.Rows.boot_list ?_)
  refine PyProof.Rows.callWith_type1 (PyProof.Rows.args_cons ?_ na) na rfl
  refine Call_ (ld_blt I hg2 hm2 PyProof.Rows.boot_zip ?_)
  refine PyProof.Rows.callWith_type1 (thn (ha.run q pins s σ H _ I hq) fun us s1 ⟨vs, H1, I1, r1, q1⟩ => ?_) hs hpl
  obtain ⟨a, b, c, xs, ys, zs, ex, hx, hy, hz, q1⟩ := q1
  subst ex
  cases r1 with
  | cons r rr =>
  cases rr with
  | cons r' rr =>
  cases rr with
  | cons r'' rr =>
  cases rr
  cases r
  cases r'
  cases r''
  obtain ⟨vx, rx, px, _⟩ := I1.tuple hx
  obtain ⟨vy, ry, py, _⟩ := I1.tuple hy
  obtain ⟨vz, rz, pz, zz⟩ := I1.tuple hz
  obtain ⟨ox, gx, _⟩ := id px
  obtain ⟨oy, gy, _⟩ := id py
  obtain ⟨oz, gz, _⟩ := id pz
  have lx := Heap.lt_size gx
  have ly := Heap.lt_size gy
  have lz := Heap.lt_size gz
  have nx := rx.length
  have ny := ry.length
  have nz := rz.length
  have hh := I1.ok.hd hc
  refine zip_begins3 (begins_tuple a vx.toArray) (begins_tuple b vy.toArray) (begins_tuple c vz.toArray) px py pz fun h1 gz1 gT gO i1 i2 i3 hsz hk1 => ?_
  have S := zip_sep3 (N := s1.heap.objs.size) (fp1 := [a]) (fp2 := [b]) (fp3 := [c]) (fun b' hb => by rw [List.mem_singleton.mp hb]; exact lx) (fun b' hb => by rw [List.mem_singleton.mp hb]; exact ly) (fun b' hb => by rw [List.mem_singleton.mp hb]; exact lz)
  refine PyProof.Rows.args_nil ?_
  have U := Tups.zip3 (prog := X.prog) (w := X.w) (L := h1.objs.size) S (fun A hA => Draws.tuple hA s1.heap.objs.size a (Nat.ne_of_lt lx) vx.toArray) (fun A hA => Draws.tuple hA (s1.heap.objs.size + 1) b (Nat.ne_of_lt (Nat.lt_succ_of_lt ly)) vy.toArray) (fun A hA => Draws.tuple hA (s1.heap.objs.size + 2) c (Nat.ne_of_lt (Nat.lt_succ_of_lt (Nat.lt_succ_of_lt lz))) vz.toArray)
    (by rw [hsz]; show (s1.heap.objs.size + 6 : Nat) ≠ s1.heap.objs.size + 5; omega) (by rw [hsz]; show (s1.heap.objs.size + 6 : Nat) ≠ s1.heap.objs.size + 3; omega) (by rw [hsz]; show (s1.heap.objs.size + 6 : Nat) ≠ s1.heap.objs.size + 4; omega)
    (by rw [hsz]; exact nin_new lx 6 0 (by decide))
    (by rw [hsz]; exact nin_new ly 6 1 (by decide))
    (by rw [hsz]; exact nin_new lz 6 2 (by decide))
  refine tups_call U hh ⟨.inl ⟨Heap.get?_push_of_some _ gz1, _, _, _, Heap.get?_push_of_some _ gO⟩, Heap.get?_push_of_some _ gT, ⟨⟨_, Heap.get?_push_of_some _ i1, rfl, rfl⟩, (show s1.heap.IsTuple a vx.toArray from px).at fun o e => Heap.get?_push_of_some _ (hk1 _ _ e)⟩, ⟨⟨_, Heap.get?_push_of_some _ i2, rfl, rfl⟩, (show s1.heap.IsTuple b vy.toArray from py).at fun o e => Heap.get?_push_of_some _ (hk1 _ _ e)⟩, ⟨⟨_, Heap.get?_push_of_some _ i3, rfl, rfl⟩, (show s1.heap.IsTuple c vz.toArray from pz).at fun o e => Heap.get?_push_of_some _ (hk1 _ _ e)⟩⟩
    (fun b' hb => ?_) (by simp only [List.size_toArray]; omega) fun h' tk acc c' as hk hS hl hG hacc => ?_
  · rw [hsz]; exact (cells3 hb).2
  have hlen : as.length = min (min xs.length ys.length) zs.length := by rw [hl]; simp only [List.size_toArray]; rw [← nx, ← ny, ← nz]
  have hk0 : ∀ b' o, s1.heap.get? b' = some o → h'.get? b' = some o := fun b' o e => by
    refine hk b' o (fun hb => ?_) (hk1 b' o e)
    exact Nat.lt_irrefl _ (Nat.lt_of_lt_of_le (Heap.lt_size e) (cells3 hb).1)
  obtain ⟨H', k1, k2, k3, k4, k5, k6, k7, J⟩ := tups_laid (X := X) (s := s1) (tk := tk) (L := h1.objs.size) I1 (fun j w => ∃ x y z, xs[j]? = some x ∧ ys[j]? = some y ∧ zs[j]? = some z ∧ w = [x, y, z]) (fun j vals hC => by
    obtain ⟨x1, x2, x3, e1, e2, e3, rfl⟩ := hC
    obtain ⟨u1, f1, g1⟩ := vals_back rx (by simpa using e1)
    obtain ⟨u2, f2, g2⟩ := vals_back ry (by simpa using e2)
    obtain ⟨u3, f3, g3⟩ := vals_back rz (by simpa using e3)
    exact ⟨[u1, u2, u3], ⟨u1, u2, u3, f1, f2, f3, rfl⟩, by show 3 ≤ sizeLine; decide, .cons g1 (.cons g2 (.cons g3 .nil))⟩) (by omega) (by rw [hsz]; exact Nat.le_add_right _ _) hk0 hS hG hacc
  refine ⟨.ref h1.objs.size, H', J, rfl, q1 H' _ as k1 k2 k3 k4 k6 hlen fun j t hj => ?_⟩
  obtain ⟨w, ⟨x, y, z, e1, e2, e3, rfl⟩, e4⟩ := k7 j t hj
  exact ⟨x, y, z, e1, e2, e3, e4⟩
theorem pe_listZip2 (hc : X.calm = true) (hg : Gl X "list") (hm : X.mg "list" = none) (hg2 : Gl X "zip") (hm2 : X.mg "zip" = none) (ha : PA X [e1, e2] ta)
    (na : starEach [.Call (.Name "zip" p2) [e1, e2] [] q] X.env = (false, eval (.Call (.Name "zip" p2) [e1, e2] [] q) X.env) :: starEach [] X.env := by rfl)
    (hs : starEach [e1, e2] X.env = (false, eval e1 X.env) :: starEach [e2] X.env := by rfl) (hpl : (backTo q (starEach [e2] X.env)).any (·.1) = false := by rfl) :
    PE X (.Call (.Name "list" p) [.Call (.Name "zip" p2) [e1, e2] [] q] [] pos) (tZip2 X.K ta) := by
  refine ⟨fun pins s σ H Q I hq => ?_⟩
  refine Call_ (ld_blt I hg hm PyProof.Rows.boot_list ?_)
  refine PyProof.Rows.callWith_type1 (PyProof.Rows.args_cons ?_ na) na rfl
  refine Call_ (ld_blt I hg2 hm2 PyProof.Rows.boot_zip ?_)
  refine PyProof.Rows.callWith_type1 (thn (ha.run q pins s σ H _ I hq) fun us s1 ⟨vs, H1, I1, r1, q1⟩ => ?_) hs hpl
  obtain ⟨a, b, xs, ys, ex, hx, hy, q1⟩ := q1
  subst ex
  cases r1 with
  | cons r rr =>
  cases rr with
  | cons r' rr =>
  cases rr
  cases r
  cases r'
  obtain ⟨vx, rx, px, zx⟩ := I1.list hx
  obtain ⟨vy, ry, py, zy⟩ := I1.list hy
  obtain ⟨ox, gx, _⟩ := id px.isList
  obtain ⟨oy, gy, _⟩ := id py.isList
  have lx := Heap.lt_size gx
  have ly := Heap.lt_size gy
  have nx := rx.length
  have ny := ry.length
  have hh := I1.ok.hd hc
  refine zip_begins2 (begins_list a vx.toArray) (begins_list b vy.toArray) px.isList py.isList fun h1 gz1 gT gO i1 i2 hsz hk1 => ?_
  have S := zip_sep2 (N := s1.heap.objs.size) (fp1 := [a]) (fp2 := [b]) (fun b' hb => by rw [List.mem_singleton.mp hb]; exact lx) (fun b' hb => by rw [List.mem_singleton.mp hb]; exact ly)
  refine PyProof.Rows.args_nil ?_
  have U := Tups.zip2 (prog := X.prog) (w := X.w) (L := h1.objs.size) S (fun A hA => Draws.list hA s1.heap.objs.size a (Nat.ne_of_lt lx) vx.toArray) (fun A hA => Draws.list hA (s1.heap.objs.size + 1) b (Nat.ne_of_lt (Nat.lt_succ_of_lt ly)) vy.toArray)
    (by rw [hsz]; show (s1.heap.objs.size + 5 : Nat) ≠ s1.heap.objs.size + 4; omega) (by rw [hsz]; show (s1.heap.objs.size + 5 : Nat) ≠ s1.heap.objs.size + 2; omega) (by rw [hsz]; show (s1.heap.objs.size + 5 : Nat) ≠ s1.heap.objs.size + 3; omega)
    (by rw [hsz]; exact nin_new lx 5 0 (by decide))
    (by rw [hsz]; exact nin_new ly 5 1 (by decide))
  refine tups_call U hh ⟨.inl ⟨Heap.get?_push_of_some _ gz1, _, _, Heap.get?_push_of_some _ gO⟩, Heap.get?_push_of_some _ gT, ⟨⟨_, Heap.get?_push_of_some _ i1, rfl, rfl⟩, px.isList.at fun o e => Heap.get?_push_of_some _ (hk1 _ _ e)⟩, ⟨⟨_, Heap.get?_push_of_some _ i2, rfl, rfl⟩, py.isList.at fun o e => Heap.get?_push_of_some _ (hk1 _ _ e)⟩⟩
    (fun b' hb => ?_) (by simp only [List.size_toArray]; omega) fun h' tk acc c' as hk hS hl hG hacc => ?_
  · rw [hsz]; exact (cells2 hb).2
  have hlen : as.length = min xs.length ys.length := by rw [hl]; simp only [List.size_toArray]; rw [← nx, ← ny]
  have hk0 : ∀ b' o, s1.heap.get? b' = some o → h'.get? b' = some o := fun b' o e => by
    refine hk b' o (fun hb => ?_) (hk1 b' o e)
    exact Nat.lt_irrefl _ (Nat.lt_of_lt_of_le (Heap.lt_size e) (cells2 hb).1)
  obtain ⟨H', k1, k2, k3, k4, k5, k6, k7, J⟩ := tups_laid (X := X) (s := s1) (tk := tk) (L := h1.objs.size) I1 (fun j w => ∃ x y, xs[j]? = some x ∧ ys[j]? = some y ∧ w = [x, y]) (fun j vals hC => by
    obtain ⟨x1, x2, e1, e2, rfl⟩ := hC
    obtain ⟨u1, f1, g1⟩ := vals_back rx (by simpa using e1)
    obtain ⟨u2, f2, g2⟩ := vals_back ry (by simpa using e2)
    exact ⟨[u1, u2], ⟨u1, u2, f1, f2, rfl⟩, by show 2 ≤ sizeLine; decide, .cons g1 (.cons g2 .nil)⟩) (by omega) (by rw [hsz]; exact Nat.le_add_right _ _) hk0 hS hG hacc
  refine ⟨.ref h1.objs.size, H', J, rfl, q1 H' _ as k1 k2 k3 k4 k6 hlen fun j t hj => ?_⟩
  obtain ⟨w, ⟨x, y, e1, e2, rfl⟩, e3⟩ := k7 j t hj
  exact ⟨x, y, e1, e2, e3⟩
end
end Pf
end

section
/-! Data compared; what stands while Loads learns. -/
namespace Pf
open PySem PySem.Spec PyProof.Rows L2
variable {P : Program} {w : World} {K : PySem.W.Frag} {mg : Str → Option Value} {base : Heap} {a : Ad}
/-! ### lists of whole numbers as data -/
theorem dpa_ints {H : Hp} : ∀ s : List Int, DpAll K H (s.map V.int) (s.map PyData.int)
  | [] => .nil
  | x :: s => .cons (.int x) (dpa_ints s)
theorem eqva_ints : ∀ s t : List Int, PyData.eqvAll (s.map PyData.int) (t.map PyData.int) = decide (s = t)
  | [], [] => by simp [PyData.eqvAll]
  | [], _ :: _ => by simp [PyData.eqvAll]
  | _ :: _, [] => by simp [PyData.eqvAll]
  | x :: s, y :: t => by
    rw [List.map_cons, List.map_cons, PyData.eqvAll, PyData.eqv, eqva_ints s t]
    by_cases h : x = y
    · subst h; simp
    · simp [h]
theorem lay_ints : ∀ s : List Int, PyData.canLayAll0 (s.map PyData.int) = true
  | [] => by simp [PyData.canLayAll0]
  | x :: s => by rw [List.map_cons, PyData.canLayAll0, lay_ints s]; simp [PyData.canLay0]
theorem dep_ints : ∀ s : List Int, PyData.depthAll (s.map PyData.int) ≤ 1
  | [] => by simp [PyData.depthAll]
  | x :: s => by rw [List.map_cons, PyData.depthAll]; have := dep_ints s; simp [PyData.depth]; omega
theorem shaped_lst {ds : List PyData} (h : PyData.canLayAll0 ds = true) (d : PyData.depthAll ds ≤ 60) : SeqAt.shaped (.list ds) = true := by
  simp [SeqAt.shaped, PyData.canLay0, PyData.depth, h]; omega
theorem shaped_tup {ds : List PyData} (h : PyData.canLayAll0 ds = true) (d : PyData.depthAll ds ≤ 60) : SeqAt.shaped (.tuple ds) = true := by
  simp [SeqAt.shaped, PyData.canLay0, PyData.depth, h]; omega
theorem dp_lst {H : Hp} {l : Addr} {s : List Int} (h : SqL K H l (s.map V.int)) : Dp K H (.ref l) (.list (s.map PyData.int)) := .lst h (dpa_ints s)
theorem dp_lot {H : Hp} {v : V} {s : List Int} (h : LotV K H v s) : Dp K H v (.tuple (s.map PyData.int)) := by
  obtain ⟨p, rfl, h⟩ := h
  exact .tup h (dpa_ints s)
theorem shaped_ints (s : List Int) : SeqAt.shaped (.list (s.map PyData.int)) = true := shaped_lst (lay_ints s) (by have := dep_ints s; omega)
theorem shaped_lot (s : List Int) : SeqAt.shaped (.tuple (s.map PyData.int)) = true := shaped_tup (lay_ints s) (by have := dep_ints s; omega)
theorem eqv_ints (s t : List Int) : PyData.eqv (.list (s.map PyData.int)) (.list (t.map PyData.int)) = decide (s = t) := by rw [PyData.eqv]; exact eqva_ints s t
theorem eqv_lots (s t : List Int) : PyData.eqv (.tuple (s.map PyData.int)) (.tuple (t.map PyData.int)) = decide (s = t) := by rw [PyData.eqv]; exact eqva_ints s t
/-- some == [] -/
theorem eq_nil {H : Hp} {l q : Addr} {s : List Int} {Q : VK} (h : SqL K H l (s.map V.int)) (hq : SqL K H q []) (k : Q (.bl (decide (s = []))) H) : rEqD K (.ref l) (.ref q) H Q :=
  ⟨_, _, dp_lst h, .lst hq .nil, shaped_ints s, shaped_lst (ds := []) (by simp [PyData.canLayAll0]) (by simp [PyData.depthAll]), by
    have e := eqv_ints s []
    rw [show ([] : List Int).map PyData.int = [] from rfl] at e
    rw [e]; exact k⟩
theorem ne_nil {H : Hp} {l q : Addr} {s : List Int} {Q : VK} (h : SqL K H l (s.map V.int)) (hq : SqL K H q []) (k : Q (.bl (!decide (s = []))) H) : rNeD K (.ref l) (.ref q) H Q :=
  ⟨_, _, dp_lst h, .lst hq .nil, shaped_ints s, shaped_lst (ds := []) (by simp [PyData.canLayAll0]) (by simp [PyData.depthAll]), by
    have e := eqv_ints s []
    rw [show ([] : List Int).map PyData.int = [] from rfl] at e
    rw [e]; exact k⟩
/-! ### while Loads learns -/
theorem Ld.at_ {H H' : Hp} {A : LdA} {W : Wd} {b : Addr} {o : HO} (L : Ld K a H A W) (x : Ext A H H') (e : H b = some o) (ho : ∀ k, o ≠ .dT k) : H' b = some o := by
  obtain ⟨k1, h1, _⟩ := L.kn
  obtain ⟨k2, h2, _⟩ := L.ov
  exact x b o e (fun z => by rw [z, h1] at e; cases e; exact ho _ rfl) (fun z => by rw [z, h2] at e; cases e; exact ho _ rfl)
theorem Ld.lst {H H' : Hp} {A : LdA} {W : Wd} {b : Addr} {xs : List V} (L : Ld K a H A W) (x : Ext A H H') (e : H b = some (.lst xs)) : H' b = some (.lst xs) := L.at_ x e fun _ z => nomatch z
theorem Ext.mut {A : LdA} {H0 H : Hp} {D : Addr} {o : HO} (x : Ext A H0 H) (hD : H0 D = none) : Ext A H0 (upd H D o) := fun b u e n1 n2 => by
  rw [upd_ne (ne_of_none e hD)]
  exact x b u e n1 n2
theorem Ld.free {H H' : Hp} {A : LdA} {W : Wd} {D : Addr} (L : Ld K a H' A W) (x : Ext A H H') (h : H' D = none) : H D = none := by
  obtain ⟨k1, h1, _⟩ := L.kn
  obtain ⟨k2, h2, _⟩ := L.ov
  cases e : H D with
  | none => rfl
  | some o =>
    have := x D o e (fun z => by rw [z, h1] at h; cases h) (fun z => by rw [z, h2] at h; cases h)
    rw [this] at h; cases h
/-- a list of ours is written -/
theorem Ld.put {H0 H : Hp} {A : LdA} {W : Wd} {D : Addr} {o : HO} (L0 : Ld K a H0 A W) (L : Ld K a H A W) (hD : H0 D = none) (m : Mut (H D)) : Ld K a (upd H D o) A W := by
  obtain ⟨k1, h1, t1⟩ := L.kn
  obtain ⟨k2, h2, t2⟩ := L.ov
  obtain ⟨_, g1, _⟩ := L0.kn
  obtain ⟨_, g2, _⟩ := L0.ov
  obtain ⟨refs, w1, w2⟩ := L.r.wl
  obtain ⟨dx, sk, rf, p1, p2, p3⟩ := L.r.pk
  obtain ⟨_, x1, _⟩ := L0.r.wl
  obtain ⟨_, _, _, y1, _⟩ := L0.r.pk
  have kp : Keep H (upd H D o) := Keep.upd m
  refine ⟨⟨?_, ⟨dx, sk, rf, ?_, sqt_keep kp p2, Paired.mapP p3 fun _ _ z => z.keep kp⟩, ⟨refs, ?_, Paired.mapP w2 fun _ _ z => z.keep kp⟩, L.r.ok⟩, ⟨k1, ?_, t1.imp fun _ _ _ _ f => f.keep kp⟩, ⟨k2, ?_, t2⟩, L.ne⟩
  · rw [upd_ne (ne_of_none L0.r.ob hD)]; exact L.r.ob
  · rw [upd_ne (ne_of_none y1 hD)]; exact p1
  · rw [upd_ne (ne_of_none x1 hD)]; exact w1
  · rw [upd_ne (ne_of_none g1 hD)]; exact h1
  · rw [upd_ne (ne_of_none g2 hD)]; exact h2
/-- the state of a run: H0 is where it began -/
structure Rn (K : PySem.W.Frag) (a : Ad) (A : LdA) (W : Wd) (H0 H : Hp) : Prop where
  l0 : Ld K a H0 A W
  x : Ext A H0 H
  l : Ld K a H A W
theorem Rn.refl {H : Hp} {A : LdA} {W : Wd} (L : Ld K a H A W) : Rn K a A W H H := ⟨L, Ext.refl A H, L⟩
theorem Rn.same {H0 H H' : Hp} {A : LdA} {W : Wd} (r : Rn K a A W H0 H) (s : Same H H') : Rn K a A W H0 H' := ⟨r.l0, r.x.trans (Same.ext s), r.l.same s⟩
theorem Rn.go {H0 H H' : Hp} {A : LdA} {W : Wd} (r : Rn K a A W H0 H) (x : Ext A H H') (l : Ld K a H' A W) : Rn K a A W H0 H' := ⟨r.l0, r.x.trans x, l⟩
theorem Rn.put {H0 H : Hp} {A : LdA} {W : Wd} {D : Addr} {xs : List V} {o : HO} (r : Rn K a A W H0 H) (hD : H0 D = none) (e : H D = some (.lst xs)) : Rn K a A W H0 (upd H D o) := ⟨r.l0, r.x.mut hD, r.l0.put r.l hD (by rw [e]; exact trivial)⟩
theorem Rn.free {H0 H : Hp} {A : LdA} {W : Wd} {D : Addr} (r : Rn K a A W H0 H) (h : H D = none) : H0 D = none := r.l.free r.x h
theorem Rn.trans {H0 H1 H : Hp} {A : LdA} {W : Wd} (r : Rn K a A W H0 H1) (q : Rn K a A W H1 H) : Rn K a A W H0 H := ⟨r.l0, r.x.trans q.x, q.l⟩
theorem Rn.keep {H0 H : Hp} {A : LdA} {W : Wd} (r : Rn K a A W H0 H) : Keep H0 H := r.l0.keep r.x
theorem lot12 {n : Nat} {s : List Int} (h : Lot (n : Int) s) : s.length ≤ n := by
  have h1 := nodup_le (l := s) (m := allP n) (h.1.imp fun {a b} q => by intro z; rw [z] at q; exact Int.lt_irrefl _ q) (lot_sub_all h)
  simpa [allP] using h1
/-! ### a lot with its sides -/
/-- r is the tuple of the left, the prop and the right -/
def Sd (K : PySem.W.Frag) (H : Hp) (r : V) (q : Int × Int × Int) : Prop := ∃ t, r = .ref t ∧ SqT K H t [.int q.1, .int q.2.1, .int q.2.2]
theorem Sd.keep {H H' : Hp} {r : V} {q : Int × Int × Int} (e : Keep H H') (h : Sd K H r q) : Sd K H' r q := by
  obtain ⟨t, rfl, h⟩ := h
  exact ⟨t, rfl, sqt_keep e h⟩
theorem sides_at {r : Int} : ∀ (s : List Int) (l : Int) (j : Nat) (q : Int × Int × Int), (l :: (s ++ [r]))[j]? = some q.1 → s[j]? = some q.2.1 → (s ++ [r])[j + 1]? = some q.2.2 → (sides l s r)[j]? = some q
  | [], _, _, _, _, h, _ => by cases h
  | p :: t, l, 0, (x, y, z), h1, h2, h3 => by
    cases h1
    cases h2
    cases t with
    | nil => cases h3; rfl
    | cons u t => cases h3; rfl
  | p :: t, l, j + 1, q, h1, h2, h3 => by
    show (sides p t r)[j]? = some q
    exact sides_at t p j q h1 h2 h3
theorem cut2 (xs : List V) (h : 2 ≤ xs.length) : cutV xs (some 2) none = xs.drop 2 := by
  unfold cutV
  rw [show HT.sIx xs.length 0 (some 2) = min 2 xs.length from HT.sIx_nat xs.length 0 2, HT.sIx_none, Nat.min_eq_left h]
  exact List.take_of_length_le (by rw [List.length_drop]; exact Nat.le_refl _)
theorem sides_zip {H : Hp} {s : List Int} {n : Int} {ts : List Addr} (hl : ts.length = min (min ((-1 :: (s ++ [n])).map V.int).length (s.map V.int).length) (cutV ((-1 :: (s ++ [n])).map V.int) (some 2) none).length)
    (h : ∀ (j : Nat) (t : Addr), ts[j]? = some t → ∃ x y z, ((-1 :: (s ++ [n])).map V.int)[j]? = some x ∧ (s.map V.int)[j]? = some y ∧ (cutV ((-1 :: (s ++ [n])).map V.int) (some 2) none)[j]? = some z ∧ H t = some (.tup [x, y, z])) :
    Paired (Sd K H) (ts.map V.ref) (sides (-1) s n) := by
  have ec : cutV ((-1 :: (s ++ [n])).map V.int) (some 2) none = ((s ++ [n]).map V.int).drop 1 := by
    rw [cut2 _ (by simp)]
    rfl
  rw [ec] at hl h
  refine paired_of ?_ fun j r q e1 e2 => ?_
  · rw [List.length_map, sides_length, hl]
    simp
    omega
  · rw [List.getElem?_map] at e1
    obtain ⟨t, ht, rfl⟩ := Option.map_eq_some_iff.mp e1
    obtain ⟨x, y, z, h1, h2, h3, h4⟩ := h j t ht
    rw [List.getElem?_map] at h1 h2
    rw [List.getElem?_drop, List.getElem?_map] at h3
    obtain ⟨x', h1', rfl⟩ := Option.map_eq_some_iff.mp h1
    obtain ⟨y', h2', rfl⟩ := Option.map_eq_some_iff.mp h2
    obtain ⟨z', h3', rfl⟩ := Option.map_eq_some_iff.mp h3
    rw [Nat.add_comm] at h3'
    have := sides_at s (-1) j (x', y', z') h1' h2' h3'
    rw [this] at e2
    cases e2
    exact ⟨t, rfl, SqT.of h4⟩
end Pf
end

section
namespace Pf
open PySem PySem.Spec PyProof.Rows L2
variable {P : Program} {w : World} {K : PySem.W.Frag} {mg : Str → Option Value} {base : Heap} {a : Ad}
/-- fails before any weight is added -/
abbrev Wd.F0 (W : Wd) : Fail := fun l p r => decide (W.st p < W.ld l p r)
abbrev lotTs (F : Fail) (n : Int) (qs : List (Int × Int × Int)) : List V := ((qs.filter fun t => F t.1 t.2.1 t.2.2).map (·.2.1)).map V.int
theorem lotTs_snoc {F : Fail} {n : Int} {qs : List (Int × Int × Int)} {i : Nat} {q : Int × Int × Int} (h : qs[i]? = some q) : lotTs F n (qs.take (i + 1)) = if F q.1 q.2.1 q.2.2 = true then lotTs F n (qs.take i) ++ [V.int q.2.1] else lotTs F n (qs.take i) := by
  unfold lotTs
  rw [List.take_add_one, h, List.filter_append, List.map_append, List.map_append]
  by_cases c : F q.1 q.2.1 q.2.2 = true
  · rw [if_pos c]; simp [c]
  · rw [if_neg c]; simp [c]
theorem lotTs_len {F : Fail} {n : Int} {qs : List (Int × Int × Int)} : (lotTs F n qs).length ≤ qs.length := by
  unfold lotTs
  rw [List.length_map, List.length_map]
  exact List.length_filter_le _ _
/-- the sides taken apart -/
def spOverB (K : PySem.W.Frag) (a : Ad) : Sp := fun vs H Q _ => ∃ (A : LdA) (W : Wd) (v : V) (s : List Int), vs = [.ref A.p, .int (-1), v, .int (W.n : Int)] ∧ Ld K a H A W ∧ LotV K H v s ∧ Lot (W.n : Int) s ∧
  ∀ H' l, Ext A H H' → Ld K a H' A W → H l = none → H' l = some (.lst ((bad W.F0 W.n s).map V.int)) → Q (.ref l) H'
abbrev N_overlaid_between : List Str := ["loads", "left", "lot", "right", "rests", "beside", "before", "prop", "behind"]
theorem sc_overlaid_between : FnScope N_overlaid_between ["loads", "left", "lot", "right"] (defScope s_overlaid_between) := ⟨rfl, rfl, rfl, by decide +kernel, rfl, by decide +kernel, by decide +kernel⟩
theorem ok_overb (G : Gd K mg "overlaid_between" s_overlaid_between) (B : Bt mg) (C : Ct K mg a) (D_Loads_is_overlaid : Mf P w K mg base a.L "is_overlaid" ["self", "left", "prop", "right"] 7 (spIsOver K a)) : Df P w K mg base "overlaid_between" ["loads", "left", "lot", "right"] 8 (spOverB K a) := by
  refine df_mk G sc_overlaid_between (fun vs H Q E h => by obtain ⟨_, _, _, _, rfl, _⟩ := h; rfl) (fun _ _ _ _ _ _ us hl => match us, hl with | [_, _, _, _], _ => rfl) (fun f cdv A' outer sh H vs Q E hr h => ?_)
  obtain ⟨A, W, v, s, rfl, L, ⟨t, rfl, h⟩, lt, k⟩ := h
  have l12 := lot12 lt
  have n12 := L.r.ok.n12
  refine ⟨_, (pss_cons (ps_set (i := 4) sc_overlaid_between.nd rfl (by first | exact Or.inl rfl | exact Or.inr rfl) (pe_op op_catT (pe_op op_catT (pe_tup (pa_cons (pv 1) pa_nil)) (pv 2)) (pe_tup (pa_cons (pv 3) pa_nil))))
    (pss_cons (ps_set (i := 5) sc_overlaid_between.nd rfl (by first | exact Or.inl rfl | exact Or.inr rfl) (pe_listZip3 rfl (by rfl) B.list_ (by rfl) B.zip (pa_cons (pv 4) (pa_cons (pv 2) (pa_cons (pe_slice (r := rSlU K) sl_tupU (pv 4) (po_some pe_int) po_none) pa_nil)))))
    (pss_one (ps_ret (pe_lc (own := [("before", 6), ("prop", 7), ("behind", 8)]) (g := gTup K 3 (gCons (gName 6) (gCons (gName 7) (gCons (gName 8) gNil)))) rfl sc_overlaid_between.nd (pi_list (pv 5)) (blkOk_by (N := N_overlaid_between) (sc := defScope s_overlaid_between) (by decide +kernel)) (fun _ _ _ _ _ => (pg_tup (by rfl) (pgs_cons (pg_name (i := 6) sc_overlaid_between.nd rfl (by first | exact Or.inl rfl | exact Or.inr rfl)) (pgs_cons (pg_name (i := 7) sc_overlaid_between.nd rfl (by first | exact Or.inl rfl | exact Or.inr rfl)) (pgs_cons (pg_name (i := 8) sc_overlaid_between.nd rfl (by first | exact Or.inl rfl | exact Or.inr rfl)) pgs_nil))))) (fun _ _ _ _ _ => pts_one (pt_val (pmeth D_Loads_is_overlaid C.clL hr (by decide) (pv 0) (pa_cons (pv 6) (pa_cons (pv 7) (pa_cons (pv 8) pa_nil)))))) (fun _ _ _ _ _ => (pv 7))))))), ?_⟩
  refine ⟨_, rfl, by show 1 ≤ sizeLine; decide, fun q hq => ⟨_, rfl, ?_⟩⟩
  have s1 := same_new (o := .tup [V.int (-1)]) hq
  have fin : ∀ (H2 : Hp) (r : Addr), Same H H2 → SqT K H2 r (((-1 : Int) :: s).map V.int) → ∀ Q' : VK, (∀ H4 q, Same H H4 → SqT K H4 q (((-1 : Int) :: (s ++ [(W.n : Int)])).map V.int) → Q' (.ref q) H4) →
      (tTup (tCons (tVar 3) tNil) (L2.start N_overlaid_between [V.ref A.p, .int (-1), V.ref t, .int (W.n : Int)]) H2 fun y H3 => rCatT K (.ref r) y H3 Q') := fun H2 r s2 hr2 Q' k' => by
    refine ⟨_, rfl, by show 1 ≤ sizeLine; decide, fun q2 hq2 => ?_⟩
    have s3 := same_new (o := .tup [V.int (W.n : Int)]) hq2
    refine ⟨_, _, _, _, rfl, rfl, sqt_same s3 hr2, SqT.of upd_same, (by simp), small (by simp; omega), (fun z => by cases z), fun _ q3 hq3 => ?_⟩
    refine k' _ _ ((s2.trans s3).trans (same_new hq3)) (SqT.of ?_)
    rw [upd_same]
    simp
  have cat : ∀ Q' : VK, (∀ H4 q, Same H H4 → SqT K H4 q (((-1 : Int) :: (s ++ [(W.n : Int)])).map V.int) → Q' (.ref q) H4) →
      rCatT K (.ref q) (.ref t) (upd H q (.tup [V.int (-1)])) fun x H3 => tTup (tCons (tVar 3) tNil) (L2.start N_overlaid_between [V.ref A.p, .int (-1), V.ref t, .int (W.n : Int)]) H3 fun y H4 => rCatT K x y H4 Q' := fun Q' k' => by
    refine ⟨_, _, _, _, rfl, rfl, SqT.of upd_same, sqt_same s1 h, (by simp), small (by simp; omega), fun z => ?_, fun _ q2 hq2 => ?_⟩
    · have e : s = [] := by simpa using z
      subst e
      exact fin _ q s1 (SqT.of upd_same) Q' k'
    · exact fin _ q2 (s1.trans (same_new hq2)) (SqT.of upd_same) Q' k'
  refine cat _ fun H4 r s4 hr4 => ?_
  refine ⟨_, rfl, _, rfl, _, rfl, 2, rfl, r, _, rfl, hr4, fun c H5 s5 hc => ⟨r, t, c, _, _, _, rfl, sqt_same s5 hr4, sqt_same (s4.trans s5) h, hc, fun H6 l ts s6 hl ht hlt eL len att => ?_⟩⟩
  have pr := sides_zip (K := K) len att
  have s06 : Same H H6 := (s4.trans s5).trans s6
  have R6 : Rn K a A W H6 H6 := Rn.refl (L.same s06)
  refine ⟨_, rfl, _, rfl, ⟨_, SqL.of eL⟩, fun D hD => ?_⟩
  refine lc_list (K := K) (a := l) (xs := ts.map V.ref) (fun i H' => Rn K a A W H6 H' ∧ H' D = some (.lst (lotTs W.F0 W.n ((sides (-1) s W.n).take i)))) ⟨R6.same (same_new hD), upd_same⟩ (fun i H' _ I => SqL.of (R6.l.lst I.1.x eL)) (fun i x H' hx I => ?_) (fun H' I => ?_)
  · obtain ⟨I, eD⟩ := I
    obtain ⟨⟨q1, q2, q3⟩, hq, T, rfl, hT⟩ := Paired.get? pr hx
    have k3 := key_of_sides lt (List.mem_of_getElem? hq)
    have z := lotTs_snoc (F := W.F0) (n := W.n) hq
    have zl : (lotTs W.F0 W.n ((sides (-1) s W.n).take i)).length ≤ 12 := by
      refine Nat.le_trans lotTs_len ?_
      rw [List.length_take, sides_length]
      omega
    refine ⟨T, _, rfl, sqt_keep I.keep hT, rfl, _, _, rfl, _, _, rfl, _, _, rfl, rfl, rfl, _, rfl, A.p, _, _, rfl, I.l.r.ob, lk_isov, _, rfl, _, rfl, _, rfl, A, W, q1, q2, q3, rfl, I.l, k3, fun H7 x7 L7 => ⟨_, rfl, ?_⟩⟩
    have I7 := I.go x7 L7
    have eD7 := I.l.lst x7 eD
    refine ite2 (fun c => ?_) (fun c => ?_)
    · refine ⟨_, rfl, _, eD7, small_lt (by omega), I7.put hD eD7, ?_⟩
      rw [upd_same, z, if_pos c]
    · refine ⟨I7, ?_⟩
      rw [eD7, z, if_neg c]
  · obtain ⟨I, eD⟩ := I
    rw [Paired.length pr, List.take_length] at eD
    exact k H' D ((Same.ext s06).trans I.x) I.l (s06.free hD) eD
end Pf
end

section
namespace Pf
open PySem PySem.Spec PyProof.Rows L2
variable {P : Program} {w : World} {K : PySem.W.Frag} {mg : Str → Option Value} {base : Heap} {a : Ad}
theorem wo_snoc {s : List Int} {p j : Int} {i : Nat} (h : s[i]? = some j) : wo (s.take (i + 1)) p = if (j != p) = true then wo (s.take i) p ++ [j] else wo (s.take i) p := by
  unfold wo
  rw [List.take_add_one, h, List.filter_append]
  by_cases c : (j != p) = true
  · rw [if_pos c]; simp [c]
  · rw [if_neg c]; simp [c]
theorem wo_len {s : List Int} {p : Int} : (wo s p).length ≤ s.length := List.length_filter_le _ _
def spWithout (K : PySem.W.Frag) : Sp := fun vs H Q _ => ∃ (v : V) (s : List Int) (p : Int), vs = [v, .int p] ∧ LotV K H v s ∧ s.length ≤ 12 ∧ ∀ H' v', Same H H' → LotV K H' v' (wo s p) → Q v' H'
abbrev N_without : List Str := ["lot", "prop", "one"]
theorem sc_without : FnScope N_without ["lot", "prop"] (defScope s_without) := ⟨rfl, rfl, rfl, by decide +kernel, rfl, by decide +kernel, by decide +kernel⟩
theorem ok_without (G : Gd K mg "without" s_without) (B : Bt mg) : Df P w K mg base "without" ["lot", "prop"] 1 (spWithout K) := by
  refine df_mk G sc_without (fun vs H Q E h => by obtain ⟨_, _, _, rfl, _⟩ := h; rfl) (fun _ _ _ _ _ _ us hl => match us, hl with | [_, _], _ => rfl) (fun f cdv A' outer sh H vs Q E hr h => ?_)
  obtain ⟨v, s, p, rfl, ⟨t, rfl, h⟩, l12, k⟩ := h
  refine ⟨_, (pss_one (ps_ret (pe_callTy call_tuple_of (by rfl) B.tuple (by decide +kernel) (pa_cons (pe_lc (own := [("one", 2)]) (g := gName 2) rfl sc_without.nd (pi_tup (pv 0)) (blkOk_by (N := N_without) (sc := defScope s_without) (by decide +kernel)) (fun _ _ _ _ _ => (pg_name (i := 2) sc_without.nd rfl (by first | exact Or.inl rfl | exact Or.inr rfl))) (fun _ _ _ _ _ => pts_one (pt_cmpR op_ne (pv 2) (pv 1) (nomark _))) (fun _ _ _ _ _ => (pv 2))) pa_nil)))), ?_⟩
  refine ⟨_, rfl, _, rfl, ⟨_, h⟩, fun D hD => ?_⟩
  refine lc_it (w := walk_tup (K := K) (a := t) (xs := s.map V.int)) (fun i H' => Same H H' ∧ H' D = some (.lst ((wo (s.take i) p).map V.int))) ⟨same_new hD, upd_same⟩ (fun i H' _ I => sqt_same I.1 h) (fun i x H1 H2 hi I hy => ?_) (fun H' I => ?_)
  · obtain ⟨I, eD⟩ := I
    obtain ⟨rfl, hx⟩ := hy
    rw [List.getElem?_map] at hx
    obtain ⟨j, hj, rfl⟩ := Option.map_eq_some_iff.mp hx
    have z := wo_snoc (p := p) hj
    have zl : (wo (s.take i) p).length ≤ 12 := Nat.le_trans wo_len (by rw [List.length_take]; omega)
    refine ⟨rfl, _, rfl, _, rfl, rfl, _, rfl, ?_⟩
    have ej : (!decide (V.int j = V.int p)) = (j != p) := by
      rw [dec_int]
      rfl
    rw [ej]
    refine ite2 (fun c => ?_) (fun c => ?_)
    · refine ⟨_, rfl, _, eD, small_lt (by rw [List.length_map]; omega), same_mut I hD, ?_⟩
      rw [upd_same, z, if_pos c, List.map_append]
      rfl
    · refine ⟨I, ?_⟩
      rw [eD, z, if_neg c]
  · obtain ⟨I, eD⟩ := I
    rw [List.length_map, List.take_length] at eD
    exact ⟨D, _, rfl, .inl ⟨SqL.of eD, fun q hq => k _ _ (I.trans (same_new hq)) ⟨q, rfl, SqT.of upd_same⟩⟩⟩
def spSetB (K : PySem.W.Frag) (a : Ad) : Sp := fun vs H Q _ => ∃ (A : LdA) (W : Wd) (v : V) (s : List Int), vs = [.ref A.p, .int (-1), v, .int (W.n : Int)] ∧ Ld K a H A W ∧ LotV K H v s ∧ Lot (W.n : Int) s ∧
  ∀ H' t r v', Ext A H H' → Ld K a H' A W → H r = none → H' r = some (.lst ((settle W.F0 W.n s).1.map V.int)) → LotV K H' v' (settle W.F0 W.n s).2 → SqT K H' t [.ref r, v'] → Q (.ref t) H'
abbrev N_settled_between : List Str := ["loads", "left", "lot", "right", "row", "some"]
theorem sc_settled_between : FnScope N_settled_between ["loads", "left", "lot", "right"] (defScope s_settled_between) := ⟨rfl, rfl, rfl, by decide +kernel, rfl, by decide +kernel, by decide +kernel⟩
/-- a while loop, by a measure told in its word -/
theorem while_m {c : TT} {tb : TS} {D : Ends} {σ : L2.St} {H : Hp} (Pv : Nat → L2.St → Hp → Prop) (m0 : Nat) (h0 : Pv m0 σ H)
    (hs : ∀ m σ H, Pv m σ H → c σ H fun b H1 => if b = true then tb { D with nx := fun σ' H' => ∃ m', m' < m ∧ Pv m' σ' H', ct := fun σ' H' => ∃ m', m' < m ∧ Pv m' σ' H', bk := D.nx } σ H1 else D.nx σ H1)
    (mono : ∀ σ H Q Q', (∀ b H1, Q b H1 → Q' b H1) → c σ H Q → c σ H Q') : tWhile c tb D σ H :=
  ⟨Pv, ⟨m0, h0⟩, fun m σ H p => mono σ H _ _ (fun b H1 q => by
    cases b with
    | true => exact ⟨_, fun _ _ z => z, q⟩
    | false => exact q) (hs m σ H p)⟩
theorem ok_setb (G : Gd K mg "settled_between" s_settled_between) (D_overlaid_between : Df P w K mg base "overlaid_between" ["loads", "left", "lot", "right"] 8 (spOverB K a)) (D_without : Df P w K mg base "without" ["lot", "prop"] 1 (spWithout K)) :
    Df P w K mg base "settled_between" ["loads", "left", "lot", "right"] 9 (spSetB K a) := by
  refine df_mk G sc_settled_between (fun vs H Q E h => by obtain ⟨_, _, _, _, rfl, _⟩ := h; rfl) (fun _ _ _ _ _ _ us hl => match us, hl with | [_, _, _, _], _ => rfl) (fun f cdv A' outer sh H vs Q E hr h => ?_)
  obtain ⟨A, W, v, s, rfl, L, hv, lt, k⟩ := h
  refine ⟨_, (pss_cons (ps_set (i := 4) sc_settled_between.nd rfl (by first | exact Or.inl rfl | exact Or.inr rfl) (pe_lst pa_nil))
    (pss_cons (ps_set (i := 5) sc_settled_between.nd rfl (by first | exact Or.inl rfl | exact Or.inr rfl) (pcall D_overlaid_between hr (by decide) (by rfl) (pa_cons (pv 0) (pa_cons (pv 1) (pa_cons (pv 2) (pa_cons (pv 3) pa_nil))))))
    (pss_cons (ps_while PassesOwn.never (pt_cmpR (op_neD hr.units) (pv 5) (pe_lst pa_nil) (nomark _))
    (pss_cons (ps_expr (pe_bm PySem.F.plainAttrs_list PySem.F.slot_list_append PySem.F.type_list_append mt_append (pv 4) (pa_cons (pe_ix (r := rIxL K) ix_list (pv 5) pe_int (fun _ _ => rfl)) pa_nil)))
      (pss_cons (ps_set (i := 2) sc_settled_between.nd rfl (by first | exact Or.inl rfl | exact Or.inr rfl) (pcall D_without hr (by decide) (by rfl) (pa_cons (pv 2) (pa_cons (pe_ix (r := rIxL K) ix_list (pv 5) pe_int (fun _ _ => rfl)) pa_nil))))
      (pss_one (ps_set (i := 5) sc_settled_between.nd rfl (by first | exact Or.inl rfl | exact Or.inr rfl) (pcall D_overlaid_between hr (by decide) (by rfl) (pa_cons (pv 0) (pa_cons (pv 1) (pa_cons (pv 2) (pa_cons (pv 3) pa_nil))))))))))
    (pss_one (ps_ret (pe_tup (pa_cons (pv 4) (pa_cons (pv 2) pa_nil)))))))), ?_⟩
  have n12 := L.r.ok.n12
  refine ⟨by decide, fun R hR => ?_⟩
  have R1 : Rn K a A W H (upd H R (.lst [])) := (Rn.refl L).same (same_new hR)
  refine ⟨_, rfl, _, rfl, _, rfl, _, rfl, A, W, v, s, rfl, R1.l, hv.keep R1.keep, lt, fun H2 l2 x2 L2' f2 e2 => ?_⟩
  have R2 := R1.go x2 L2'
  refine ⟨fun m σ H' => ∃ (v' : V) (s' row : List Int) (l : Addr), m = s'.length ∧ σ = [some (.ref A.p), some (.int (-1)), some v', some (.int (W.n : Int)), some (.ref R), some (.ref l)] ∧ Rn K a A W H H' ∧ LotV K H' v' s' ∧ Lot (W.n : Int) s' ∧ H' R = some (.lst (row.map V.int)) ∧
    H' l = some (.lst ((bad W.F0 W.n s').map V.int)) ∧ R ≠ l ∧ row.length + s'.length ≤ 12 ∧ settle W.F0 W.n s = (row ++ (settle W.F0 W.n s').1, (settle W.F0 W.n s').2), ⟨_, v, s, [], l2, rfl, rfl, R2, hv.keep R2.keep, lt, R1.l.lst x2 upd_same, e2, ?_, ?_, ?_⟩, fun m σ H' I => ?_⟩
  · rintro rfl; rw [upd_same] at f2; cases f2
  · have := lot12 lt; show 0 + s.length ≤ 12; omega
  · rfl
  · obtain ⟨v', s', row, l, rfl, rfl, I, hv', lt', eR, el, ne, len, es⟩ := I
    refine ⟨_, rfl, by decide, fun q hq => ne_nil (s := bad W.F0 W.n s') (SqL.of ?_) (SqL.of upd_same) ⟨_, rfl, ?_⟩⟩
    · rw [upd_ne (ne_of_none el hq)]; exact el
    have sq := same_new (o := .lst []) hq
    have I2 := I.same sq
    have eR2 := sq _ _ eR
    have el2 := sq _ _ el
    generalize upd H' q (.lst []) = H3 at sq I2 eR2 el2
    cases hb : bad W.F0 W.n s' with
    | nil =>
      refine iteF ⟨_, rfl, _, rfl, by show 2 ≤ sizeLine; decide, fun t ht => ?_⟩
      have st := same_new (o := .tup [V.ref R, v']) ht
      have I3 := I2.same st
      rw [settle_nil hb] at es
      refine k _ t R v' I3.x I3.l hR ?_ ?_ (SqT.of upd_same)
      · rw [es, List.append_nil]; exact st _ _ eR2
      · rw [es]; exact hv'.keep (Keep.trans (Same.keep sq) (Same.keep st))
    | cons p rest =>
      have hp : p ∈ s' := bad_sub (F := W.F0) (n := W.n) (by rw [hb]; exact List.mem_cons_self)
      have wl := wo_lt hp
      rw [hb] at el2
      refine iteT ⟨_, fun _ _ z => z, ?_⟩
      refine ⟨_, rfl, (.inl ⟨rfl, _, SqL.of eR2⟩), _, rfl, l, _, 0, _, rfl, rfl, SqL.of el2, atI_nat (j := 0) (v := V.int p) rfl, R, _, _, rfl, rfl, eR2, small_lt (by rw [List.length_map]; omega), ?_⟩
      have I3 : Rn K a A W H (upd H3 R (.lst (row.map V.int ++ [V.int p]))) := I2.put hR eR2
      have el3 : (upd H3 R (.lst (row.map V.int ++ [V.int p]))) l = some (.lst ((p :: rest).map V.int)) := by rw [upd_ne ne.symm]; exact el2
      have eR3 : (upd H3 R (.lst (row.map V.int ++ [V.int p]))) R = some (.lst ((row ++ [p]).map V.int)) := by rw [upd_same, List.map_append]; rfl
      have hv3 : LotV K (upd H3 R (.lst (row.map V.int ++ [V.int p]))) v' s' := (hv'.same sq).keep (Keep.upd (by rw [eR2]; exact trivial))
      generalize upd H3 R (.lst (row.map V.int ++ [V.int p])) = H4 at I3 el3 eR3 hv3
      refine ⟨_, rfl, _, rfl, l, _, 0, _, rfl, rfl, SqL.of el3, atI_nat (j := 0) (v := V.int p) rfl, v', s', p, rfl, hv3, by omega, fun H5 v5 s5 hv5 => ?_⟩
      have I5 := I3.same s5
      have lt5 := lt'.wo p
      refine ⟨_, rfl, _, rfl, _, rfl, _, rfl, A, W, v5, wo s' p, rfl, I5.l, hv5, lt5, fun H6 l6 x6 L6 f6 e6 => ?_⟩
      have eR5 := s5 _ _ eR3
      refine ⟨_, wl, v5, wo s' p, row ++ [p], l6, rfl, rfl, I5.go x6 L6, hv5.keep (I5.l.keep x6), lt5, I5.l.lst x6 eR5, e6, ?_, ?_, ?_⟩
      · rintro rfl; rw [eR5] at f6; cases f6
      · rw [List.length_append]; show row.length + 1 + _ ≤ 12; omega
      · rw [es, settle_cons hb, List.append_assoc]; rfl
end Pf
end

section
namespace Pf
open PySem PySem.Spec PyProof.Rows L2
variable {P : Program} {w : World} {K : PySem.W.Frag} {mg : Str → Option Value} {base : Heap} {a : Ad}
def spSettled (K : PySem.W.Frag) (a : Ad) : Sp := fun vs H Q _ => ∃ (A : LdA) (W : Wd) (v : V) (s : List Int), vs = [.ref A.p, v] ∧ Ld K a H A W ∧ LotV K H v s ∧ Lot (W.n : Int) s ∧
  ∀ H' t r v', Ext A H H' → Ld K a H' A W → H r = none → H' r = some (.lst ((settle W.F0 W.n s).1.map V.int)) → LotV K H' v' (settle W.F0 W.n s).2 → SqT K H' t [.ref r, v'] → Q (.ref t) H'
abbrev N_settled : List Str := ["loads", "lot"]
theorem sc_settled : FnScope N_settled ["loads", "lot"] (defScope s_settled) := ⟨rfl, rfl, rfl, by decide +kernel, rfl, by decide +kernel, by decide +kernel⟩
theorem ok_settled (G : Gd K mg "settled" s_settled) (C : Ct K mg a) (D_settled_between : Df P w K mg base "settled_between" ["loads", "left", "lot", "right"] 9 (spSetB K a)) (D_Plank_count : Mf P w K mg base a.P "count" ["self"] 1 (spCount K a)) :
    Df P w K mg base "settled" ["loads", "lot"] 10 (spSettled K a) := by
  refine df_mk G sc_settled (fun vs H Q E h => by obtain ⟨_, _, _, _, rfl, _⟩ := h; rfl) (fun _ _ _ _ _ _ us hl => match us, hl with | [_, _], _ => rfl) (fun f cdv A' outer sh H vs Q E hr h => ?_)
  obtain ⟨A, W, v, s, rfl, L, hv, lt, k⟩ := h
  obtain ⟨dx, sk, refs, e1, _⟩ := id L.r.pk
  refine ⟨_, (pss_one (ps_ret (pcall D_settled_between hr (by decide) (by rfl) (pa_cons (pv 0) (pa_cons (pe_gint (by rfl) C.LEFT_WALL) (pa_cons (pv 1) (pa_cons (pmeth0 D_Plank_count C.clP hr (by decide) (pe_fld (pv 0) rfl)) pa_nil))))))), ?_⟩
  exact ⟨_, rfl, _, rfl, _, rfl, A.p, _, _, _, _, rfl, L.r.ob, C.clL, C.nLp, lk_plank, _, _, _, rfl, e1, lk_count, _, W, rfl, L.r.pk, A, W, v, s, rfl, L, hv, lt, k⟩
def spOverlaid (K : PySem.W.Frag) (a : Ad) : Sp := fun vs H Q _ => ∃ (A : LdA) (W : Wd) (v : V) (s : List Int), vs = [.ref A.p, v] ∧ Ld K a H A W ∧ LotV K H v s ∧ Lot (W.n : Int) s ∧
  ∀ H' l, Ext A H H' → Ld K a H' A W → H l = none → H' l = some (.lst ((bad W.F0 W.n s).map V.int)) → Q (.ref l) H'
abbrev N_overlaid : List Str := ["loads", "lot"]
theorem sc_overlaid : FnScope N_overlaid ["loads", "lot"] (defScope s_overlaid) := ⟨rfl, rfl, rfl, by decide +kernel, rfl, by decide +kernel, by decide +kernel⟩
theorem ok_overlaid (G : Gd K mg "overlaid" s_overlaid) (C : Ct K mg a) (D_overlaid_between : Df P w K mg base "overlaid_between" ["loads", "left", "lot", "right"] 8 (spOverB K a)) (D_Plank_count : Mf P w K mg base a.P "count" ["self"] 1 (spCount K a)) :
    Df P w K mg base "overlaid" ["loads", "lot"] 9 (spOverlaid K a) := by
  refine df_mk G sc_overlaid (fun vs H Q E h => by obtain ⟨_, _, _, _, rfl, _⟩ := h; rfl) (fun _ _ _ _ _ _ us hl => match us, hl with | [_, _], _ => rfl) (fun f cdv A' outer sh H vs Q E hr h => ?_)
  obtain ⟨A, W, v, s, rfl, L, hv, lt, k⟩ := h
  obtain ⟨dx, sk, refs, e1, _⟩ := id L.r.pk
  refine ⟨_, (pss_one (ps_ret (pcall D_overlaid_between hr (by decide) (by rfl) (pa_cons (pv 0) (pa_cons (pe_gint (by rfl) C.LEFT_WALL) (pa_cons (pv 1) (pa_cons (pmeth0 D_Plank_count C.clP hr (by decide) (pe_fld (pv 0) rfl)) pa_nil))))))), ?_⟩
  exact ⟨_, rfl, _, rfl, _, rfl, A.p, _, _, _, _, rfl, L.r.ob, C.clL, C.nLp, lk_plank, _, _, _, rfl, e1, lk_count, _, W, rfl, L.r.pk, A, W, v, s, rfl, L, hv, lt, k⟩
def spUnlike (K : PySem.W.Frag) : Sp := fun vs H Q _ => ∃ (v : V) (s : List Int) (l : Addr) (row : List Int), vs = [v, .ref l] ∧ LotV K H v s ∧ SqL K H l (row.map V.int) ∧ row.Nodup ∧ (∀ p ∈ row, p ∈ s) ∧ row.length ≤ 12 ∧ ∀ H', Same H H' → Q (.bl true) H'
abbrev N_are_unlike_props : List Str := ["lot", "thing", "one"]
theorem sc_are_unlike_props : FnScope N_are_unlike_props ["lot", "thing"] (defScope s_are_unlike_props) := ⟨rfl, rfl, rfl, by decide +kernel, rfl, by decide +kernel, by decide +kernel⟩
theorem ok_unlike (G : Gd K mg "are_unlike_props" s_are_unlike_props) (B : Bt mg) (D_is_whole : Df P w K mg base "is_whole" ["thing"] 1 spIsWhole) : Df P w K mg base "are_unlike_props" ["lot", "thing"] 2 (spUnlike K) := by
  refine df_mk G sc_are_unlike_props (fun vs H Q E h => by obtain ⟨_, _, _, _, rfl, _⟩ := h; rfl) (fun _ _ _ _ _ _ us hl => match us, hl with | [_, _], _ => rfl) (fun f cdv A' outer sh H vs Q E hr h => ?_)
  obtain ⟨v, s, l, row, rfl, ⟨t, rfl, hv⟩, hl, nd, sub, r12, k⟩ := h
  refine ⟨_, (pss_cons (ps_if (PW.pt (pw_or (pt_not (pt_val (pe_callB call_isi (by rfl) B.isinstance (by decide +kernel) (pa_cons (pv 1) (pa_cons (pe_bltn (v := .ty "list") (by rfl) B.list_ (by decide +kernel) rfl) pa_nil))))) (pw_or1 (pt_not (pt_val (pe_callB (r := rAll K) (cr_all rfl) (by rfl) B.all_ (by decide +kernel) (pa_cons (pe_lc (own := [("one", 2)]) (g := gName 2) rfl sc_are_unlike_props.nd (pi_list (pv 1)) (blkOk_by (N := N_are_unlike_props) (sc := defScope s_are_unlike_props) (by decide +kernel)) (fun _ _ _ _ _ => (pg_name (i := 2) sc_are_unlike_props.nd rfl (by first | exact Or.inl rfl | exact Or.inr rfl))) (fun _ _ _ _ _ => pts_nil) (fun _ _ _ _ _ => (pe_and (pcall D_is_whole hr (by decide) (by rfl) (pa_cons (pv 2) pa_nil)) (pe_one (pe_cmpR (r := rIn K false) op_in_seq (pv 2) (pv 0) (by rfl)))))) pa_nil)))))))
    (pss_one (ps_ret pe_bl))
    pss_nil)
    (pss_one (ps_ret (pe_cmpR op_eq (RZ.pe_lenSetI (by rfl) B.len (by rfl) B.set_ (pv 1)) (pe_callB call_len_seq (by rfl) B.len (by decide +kernel) (pa_cons (pv 1) pa_nil)) (nomark _))))), ?_⟩
  refine ⟨_, rfl, _, _, .type "list", _, true, rfl, .ty "list", tyx_lst hl, kit_ty (by decide +kernel), _, rfl, ?_⟩
  refine iteF ⟨_, rfl, _, rfl, ⟨_, hl⟩, fun D hD => ?_⟩
  refine lc_each (w := walk_list (K := K) (a := l) (xs := row.map V.int)) hD (by rw [List.length_map]; omega) (fun _ y _ => y = V.bl true) (fun _ _ _ _ _ z => z) (fun H' s => sql_same s hl) (fun i x H1 H2 hi s' hy Q' k' => ?_) (fun H' g => ?_)
  · obtain ⟨rfl, hx⟩ := hy
    rw [List.getElem?_map] at hx
    obtain ⟨j, hj, rfl⟩ := Option.map_eq_some_iff.mp hx
    have js := sub j (List.mem_of_getElem? hj)
    refine ⟨rfl, _, rfl, j, rfl, _, rfl, ?_⟩
    refine iteT ⟨_, rfl, _, rfl, t, _, rfl, .inr (sqt_same s' hv), rfl, flat_ints s, ?_⟩
    rw [inV_ints, decide_eq_true js]
    exact k' _ _ (Same.refl _) rfl
  · refine ⟨_, _, rfl, grown_true g, _, rfl, ?_⟩
    rw [all_true]
    have hl' := sql_same g.same hl
    refine iteF ⟨_, rfl, l, row, rfl, hl', nd, by omega, _, rfl, l, _, rfl, .inl hl', rfl, ?_⟩
    rw [List.length_map, decide_eq_true rfl]
    exact k _ g.same
end Pf
end

section
namespace Pf
open PySem PySem.Spec PyProof.Rows L2
variable {P : Program} {w : World} {K : PySem.W.Frag} {mg : Str → Option Value} {base : Heap} {a : Ad}
abbrev Wd.sp (W : Wd) : Int → Int → Int → Rat := fun l p r => W.st p - W.ld l p r
abbrev Wd.hs (W : Wd) (x : Rat) : Int → Int → Int → Rat := fun l p r => W.sh l p r x
theorem Wd.Ok.nums {W : Wd} (o : W.Ok) (x : Rat) : Nums W.n W.sp (W.hs x) where
  nn := fun l p r k => by
    obtain ⟨b0, b1, b2, b3⟩ := o.pl3 k
    exact sh_nonneg b1 b2
  hm := fun l l' p r r' k h1 h2 h3 h4 => by
    obtain ⟨b0, b1, b2, b3⟩ := o.pl3 k
    obtain ⟨k1, k2, k3, k4⟩ := k
    exact sh_mono (o.pl_le h1 h2 (by omega)) b1 b2 (o.pl_le (by omega) h3 h4)
  sm := fun l l' p r r' k h1 h2 h3 h4 => by
    obtain ⟨b0, b1, b2, b3⟩ := o.pl3 k
    obtain ⟨k1, k2, k3, k4⟩ := k
    have h := ld_mono (hv := W.hv) (fun q hq => (o.hv0 q hq).2.2.1) (o.pl_le h1 h2 (by omega)) b1 b2 (o.pl_le (by omega) h3 h4)
    show W.st p - W.ld l' p r' ≤ W.st p - W.ld l p r
    have h' : W.ld l p r ≤ W.ld l' p r' := h
    grind
theorem Wd.Ok.sz_st {W : Wd} (o : W.Ok) {l p r : Int} (k : Key3 W.n l p r) : Sz 2000 (W.st p) := by
  obtain ⟨k1, k2, k3, k4⟩ := k
  obtain ⟨x, st, hx, _, est⟩ := Wd.at (W := W) (p := p) (by omega) (by omega)
  rw [est]
  exact (o.st0 _ _ _ hx).2
theorem Wd.Ok.sz_sp {W : Wd} (o : W.Ok) {l p r : Int} (k : Key3 W.n l p r) : Sz 3741 (W.sp l p r) := ((o.sz_st k).sub (o.sz_ld k)).mono (by decide)
def spSides (K : PySem.W.Frag) (a : Ad) : Sp := fun vs H Q _ => ∃ (p : Addr) (W : Wd) (v : V) (s : List Int), vs = [.ref p, v] ∧ Plk K a H p W ∧ W.n ≤ 12 ∧ LotV K H v s ∧ Lot (W.n : Int) s ∧
  ∀ H' l refs, Same H H' → H l = none → H' l = some (.lst refs) → Paired (Sd K H') refs (sides (-1) s W.n) → Q (.ref l) H'
abbrev N_with_sides : List Str := ["plank", "lot", "rests"]
theorem sc_with_sides : FnScope N_with_sides ["plank", "lot"] (defScope s_with_sides) := ⟨rfl, rfl, rfl, by decide +kernel, rfl, by decide +kernel, by decide +kernel⟩
theorem ok_sides (G : Gd K mg "with_sides" s_with_sides) (B : Bt mg) (D_rests_of : Df P w K mg base "rests_of" ["plank", "lot"] 2 (spRests K a)) : Df P w K mg base "with_sides" ["plank", "lot"] 3 (spSides K a) := by
  refine df_mk G sc_with_sides (fun vs H Q E h => by obtain ⟨_, _, _, _, rfl, _⟩ := h; rfl) (fun _ _ _ _ _ _ us hl => match us, hl with | [_, _], _ => rfl) (fun f cdv A' outer sh H vs Q E hr h => ?_)
  obtain ⟨p, W, v, s, rfl, pk, n12, hv, lt, k⟩ := h
  have l12 := lot12 lt
  refine ⟨_, (pss_cons (ps_set (i := 2) sc_with_sides.nd rfl (by first | exact Or.inl rfl | exact Or.inr rfl) (pcall D_rests_of hr (by decide) (by rfl) (pa_cons (pv 0) (pa_cons (pv 1) pa_nil))))
    (pss_one (ps_ret (pe_listZip3 rfl (by rfl) B.list_ (by rfl) B.zip (pa_cons (pv 2) (pa_cons (pv 1) (pa_cons (pe_slice (r := rSlU K) sl_tupU (pv 2) (po_some pe_int) po_none) pa_nil))))))), ?_⟩
  refine ⟨_, rfl, _, rfl, p, W, v, s, rfl, pk, hv, by omega, fun H1 q s1 hq => ?_⟩
  obtain ⟨t, rfl, ht⟩ := hv.same s1
  refine ⟨_, rfl, _, rfl, _, rfl, 2, rfl, q, _, rfl, hq, fun c H5 s5 hc => ⟨q, t, c, _, _, _, rfl, sqt_same s5 hq, sqt_same s5 ht, hc, fun H6 l ts s6 hl hts hlt eL len att => ?_⟩⟩
  exact k H6 l _ ((s1.trans s5).trans s6) ((s1.trans s5).free hl) eL (sides_zip (K := K) len att)
def spSpare (K : PySem.W.Frag) (a : Ad) : Sp := fun vs H Q _ => ∃ (A : LdA) (W : Wd) (l p r : Int), vs = [.ref A.p, .int l, .int p, .int r] ∧ Ld K a H A W ∧ Key3 W.n l p r ∧ ∀ H' v, Ext A H H' → Ld K a H' A W → Fr K H' v (W.sp l p r) → Q v H'
abbrev N_spare_at : List Str := ["loads", "left", "prop", "right"]
theorem sc_spare_at : FnScope N_spare_at ["loads", "left", "prop", "right"] (defScope s_spare_at) := ⟨rfl, rfl, rfl, by decide +kernel, rfl, by decide +kernel, by decide +kernel⟩
theorem ok_spare (G : Gd K mg "spare_at" s_spare_at) (C : Ct K mg a) (D_less : Df P w K mg base "less" ["one", "other"] 3 (sp2 K (· - ·) any2)) (D_Plank_props : Mf P w K mg base a.P "props" ["self"] 1 (spProps K a))
    (D_Loads_lies_on : Mf P w K mg base a.L "lies_on" ["self", "left", "rest", "right"] 6 (spLies K a)) : Df P w K mg base "spare_at" ["loads", "left", "prop", "right"] 7 (spSpare K a) := by
  refine df_mk G sc_spare_at (fun vs H Q E h => by obtain ⟨_, _, _, _, _, rfl, _⟩ := h; rfl) (fun _ _ _ _ _ _ us hl => match us, hl with | [_, _, _, _], _ => rfl) (fun f cdv A' outer sh H vs Q E hr h => ?_)
  obtain ⟨A, W, l, p, r, rfl, L, k3, k⟩ := h
  have k3' := k3
  obtain ⟨k1, k2, k4, k5⟩ := k3
  obtain ⟨dx, sk, refs, e1, _⟩ := id L.r.pk
  refine ⟨_, (pss_one (ps_ret (pcall D_less hr (by decide) (by rfl) (pa_cons (pe_ix (r := rIxT K) ix_tup (pe_ix (r := rIxL K) ix_list (pmeth0 D_Plank_props C.clP hr (by decide) (pe_fld (pv 0) rfl)) (pv 2) (fun _ _ => rfl)) pe_int (fun _ _ => rfl)) (pa_cons (pmeth D_Loads_lies_on C.clL hr (by decide) (pv 0) (pa_cons (pv 1) (pa_cons (pv 2) (pa_cons (pv 3) pa_nil)))) pa_nil))))), ?_⟩
  refine ⟨_, rfl, A.p, _, _, _, _, rfl, L.r.ob, C.clL, C.nLp, lk_plank, _, _, _, rfl, e1, lk_props, _, W, rfl, L.r.pk, fun H1 q rf s1 hq eq pq => ?_⟩
  obtain ⟨x, st, hx, _, est⟩ := Wd.at (W := W) (p := p) (by omega) (by omega)
  obtain ⟨r1, hr1, t, sv, rfl, ht, fs⟩ := Paired.get2 pq hx
  have L1 := L.same s1
  refine ⟨_, rfl, _, _, _, _, rfl, rfl, SqL.of eq, at_of (j := p.toNat) (by omega) hr1, _, _, _, _, rfl, rfl, ht, rfl, ?_⟩
  refine ⟨_, rfl, A.p, _, _, rfl, L1.r.ob, lk_lies, _, rfl, _, rfl, _, rfl, A, W, l, p, r, rfl, L1, k3', fun H2 v2 x2 L2 f2 => ?_⟩
  have kp2 := L1.keep x2
  refine ⟨sv, v2, st, _, rfl, fs.keep kp2, f2, ⟨_, _, by rw [← est]; exact L1.r.ok.sz_st k3', L1.r.ok.sz_ld k3', by decide⟩, trivial, fun H3 v3 s3 f3 => ?_⟩
  rw [← est] at f3
  exact k H3 v3 (((Same.ext s1).trans x2).trans (Same.ext s3)) (L2.same s3) f3
end Pf
end

section
namespace Pf
open PySem PySem.Spec PyProof.Rows L2
variable {P : Program} {w : World} {K : PySem.W.Frag} {mg : Str → Option Value} {base : Heap} {a : Ad}
abbrev Wd.Gu (W : Wd) (x u : Rat) : Fail := Pf.Gu W.sp (W.hs x) u
def spGoing (K : PySem.W.Frag) (a : Ad) : Sp := fun vs H Q _ => ∃ (A : LdA) (W : Wd) (xv uv v : V) (x u : Rat) (s : List Int), vs = [.ref A.p, xv, uv, v] ∧ Ld K a H A W ∧ Fr K H xv x ∧ Sz 128 x ∧ Fr K H uv u ∧ Sz 3901 u ∧ LotV K H v s ∧ Lot (W.n : Int) s ∧
  ∀ H' l, Ext A H H' → Ld K a H' A W → H l = none → H' l = some (.lst ((bad (W.Gu x u) W.n s).map V.int)) → Q (.ref l) H'
abbrev N_going : List Str := ["loads", "spot", "much", "lot", "found", "left", "prop", "right", "share", "rest"]
theorem sc_going : FnScope N_going ["loads", "spot", "much", "lot"] (defScope s_going) := ⟨rfl, rfl, rfl, by decide +kernel, rfl, by decide +kernel, by decide +kernel⟩
theorem ok_going (G : Gd K mg "going" s_going) (C : Ct K mg a) (D_with_sides : Df P w K mg base "with_sides" ["plank", "lot"] 3 (spSides K a)) (D_less : Df P w K mg base "less" ["one", "other"] 3 (sp2 K (· - ·) any2)) (D_times : Df P w K mg base "times" ["one", "other"] 3 (sp2 K (· * ·) any2))
    (D_spare_at : Df P w K mg base "spare_at" ["loads", "left", "prop", "right"] 7 (spSpare K a)) (D_is_below : Df P w K mg base "is_below" ["one", "other"] 1 (spBelow K)) (D_Loads_share : Mf P w K mg base a.L "share" ["self", "left", "rest", "right", "spot"] 5 (spShare K a)) :
    Df P w K mg base "going" ["loads", "spot", "much", "lot"] 8 (spGoing K a) := by
  refine df_mk G sc_going (fun vs H Q E h => by obtain ⟨_, _, _, _, _, _, _, _, rfl, _⟩ := h; rfl) (fun _ _ _ _ _ _ us hl => match us, hl with | [_, _, _, _], _ => rfl) (fun f cdv A' outer sh H vs Q E hr h => ?_)
  obtain ⟨A, W, xv, uv, v, x, u, s, rfl, L, fx, zx, fu, zu, hv, lt, k⟩ := h
  have l12 := lot12 lt
  have n12 := L.r.ok.n12
  refine ⟨_, (pss_cons (ps_set (i := 4) sc_going.nd rfl (by first | exact Or.inl rfl | exact Or.inr rfl) (pe_lst pa_nil))
    (pss_cons (ps_for PassesOwn.never rfl (pi_list (pcall D_with_sides hr (by decide) (by rfl) (pa_cons (pe_fld (pv 0) rfl) (pa_cons (pv 3) pa_nil)))) (pg_tup (by rfl) (pgs_cons (pg_name (i := 5) sc_going.nd rfl (by first | exact Or.inl rfl | exact Or.inr rfl)) (pgs_cons (pg_name (i := 6) sc_going.nd rfl (by first | exact Or.inl rfl | exact Or.inr rfl)) (pgs_cons (pg_name (i := 7) sc_going.nd rfl (by first | exact Or.inl rfl | exact Or.inr rfl)) pgs_nil))))
    (pss_cons (ps_set (i := 8) sc_going.nd rfl (by first | exact Or.inl rfl | exact Or.inr rfl) (pmeth D_Loads_share C.clL hr (by decide) (pv 0) (pa_cons (pv 5) (pa_cons (pv 6) (pa_cons (pv 7) (pa_cons (pv 1) pa_nil))))))
      (pss_cons (ps_set (i := 9) sc_going.nd rfl (by first | exact Or.inl rfl | exact Or.inr rfl) (pcall D_less hr (by decide) (by rfl) (pa_cons (pcall D_spare_at hr (by decide) (by rfl) (pa_cons (pv 0) (pa_cons (pv 5) (pa_cons (pv 6) (pa_cons (pv 7) pa_nil))))) (pa_cons (pcall D_times hr (by decide) (by rfl) (pa_cons (pv 2) (pa_cons (pv 8) pa_nil))) pa_nil))))
      (pss_one (ps_if (PW.pt (pw_or (pt_val (pcall D_is_below hr (by decide) (by rfl) (pa_cons (pv 9) (pa_cons (pe_glob (v := .ref _) (by rfl) C.NOUGHT rfl) pa_nil)))) (pw_or1 (PW.pt (pw_and (pt_cmpR (op_eqD hr.units) (pv 9) (pe_glob (v := .ref _) (by rfl) C.NOUGHT rfl) (nomark _)) (pw_and1 (pt_cmpR (op_neD hr.units) (pv 8) (pe_glob (v := .ref _) (by rfl) C.NOUGHT rfl) (nomark _))))))))
      (pss_one (ps_expr (pe_bm PySem.F.plainAttrs_list PySem.F.slot_list_append PySem.F.type_list_append mt_append (pv 4) (pa_cons (pv 6) pa_nil))))
      pss_nil)))))
    (pss_one (ps_ret (pv 4))))), ?_⟩
  refine ⟨by decide, fun F hF => ?_⟩
  have R1 : Rn K a A W H (upd H F (.lst [])) := (Rn.refl L).same (same_new hF)
  refine ⟨_, rfl, A.p, _, _, _, _, rfl, R1.l.r.ob, C.clL, C.nLp, lk_plank, _, rfl, _, W, v, s, rfl, R1.l.r.pk, n12, hv.keep R1.keep, lt, fun H2 l rf s2 hl eL pr => ?_⟩
  have R2 := R1.same s2
  have eF2 := s2 F _ upd_same
  have neF : F ≠ l := by rintro rfl; rw [upd_same] at hl; cases hl
  refine ⟨_, rfl, ⟨_, SqL.of eL⟩, for_list (K := K) (a := l) (xs := rf) (fun i σ H' => (∃ x5 x6 x7 x8 x9, σ = [some (.ref A.p), some xv, some uv, some v, some (.ref F), x5, x6, x7, x8, x9]) ∧ (Keep H2 H' ∧ H' l = some (.lst rf)) ∧ H' F = some (.lst (lotTs (W.Gu x u) W.n ((sides (-1) s W.n).take i))) ∧ Rn K a A W H H')
    ⟨⟨_, _, _, _, _, rfl⟩, ⟨Keep.refl H2, eL⟩, eF2, R2⟩ (fun i σ H' _ I => SqL.of I.2.1.2) (fun i y σ H' hy I => ?_) (fun σ H' I => ?_)⟩
  · obtain ⟨⟨x5, x6, x7, x8, x9, rfl⟩, ⟨I, el⟩, eF, I0⟩ := I
    obtain ⟨⟨q1, q2, q3⟩, hq, T, rfl, hT⟩ := Paired.get? pr hy
    have k3 := key_of_sides lt (List.mem_of_getElem? hq)
    have z := lotTs_snoc (F := W.Gu x u) (n := W.n) hq
    have zl : (lotTs (W.Gu x u) W.n ((sides (-1) s W.n).take i)).length ≤ 12 := by
      refine Nat.le_trans lotTs_len ?_
      rw [List.length_take, sides_length]
      omega
    have o := I0.l.r.ok
    refine ⟨T, _, rfl, sqt_keep I hT, rfl, _, _, rfl, _, _, rfl, _, _, rfl, rfl, ?_⟩
    refine ⟨_, rfl, A.p, _, _, rfl, I0.l.r.ob, lk_share, _, rfl, _, rfl, _, rfl, _, rfl, A, W, q1, q2, q3, xv, x, rfl, I0.l.r, k3, fx.keep I0.keep, zx, fun H3 sv s3 fs => ?_⟩
    have J3 := I0.same s3
    refine ⟨_, rfl, _, rfl, _, rfl, _, rfl, A, W, q1, q2, q3, rfl, J3.l, k3, fun H4 pv x4 L4 fp => ?_⟩
    have J4 := J3.go x4 L4
    have kp4 := J3.l.keep x4
    refine ⟨_, rfl, _, rfl, uv, sv, u, _, rfl, fu.keep J4.keep, fs.keep kp4, ⟨_, _, zu, o.sz_sh k3 zx, by decide⟩, trivial, fun H5 tv s5 ft => ?_⟩
    have zs := o.sz_sh k3 zx
    have zt := zu.mul zs
    refine ⟨pv, tv, _, _, rfl, fp.same s5, ft, ⟨_, _, o.sz_sp k3, zt, by decide⟩, trivial, fun H6 rv s6 fr => ?_⟩
    have I6 : Keep H2 H6 ∧ H6 l = some (.lst rf) := ⟨(((I.trans (Same.keep s3)).trans kp4).trans (Same.keep s5)).trans (Same.keep s6), s6 _ _ (s5 _ _ (J3.l.lst x4 (s3 _ _ el)))⟩
    have J6 := (J4.same s5).same s6
    have fs6 := ((fs.keep kp4).same s5).same s6
    have zr := (o.sz_sp k3).sub zt
    have eF6 : H6 F = some (.lst (lotTs (W.Gu x u) W.n ((sides (-1) s W.n).take i))) := s6 _ _ (s5 _ _ (J3.l.lst x4 (s3 _ _ eF)))
    refine ⟨_, rfl, _, _, _, _, rfl, fr, fr_no C H6, ⟨_, _, zr, sz_zero, by decide⟩, ?_⟩
    have yes : W.Gu x u q1 q2 q3 = true → (Keep H2 (upd H6 F (.lst (lotTs (W.Gu x u) W.n ((sides (-1) s W.n).take i) ++ [V.int q2]))) ∧ (upd H6 F (.lst (lotTs (W.Gu x u) W.n ((sides (-1) s W.n).take i) ++ [V.int q2]))) l = some (.lst rf)) ∧ (upd H6 F (.lst (lotTs (W.Gu x u) W.n ((sides (-1) s W.n).take i) ++ [V.int q2]))) F = some (.lst (lotTs (W.Gu x u) W.n ((sides (-1) s W.n).take (i + 1)))) ∧
        Rn K a A W H (upd H6 F (.lst (lotTs (W.Gu x u) W.n ((sides (-1) s W.n).take i) ++ [V.int q2]))) := fun c =>
      ⟨⟨I6.1.trans (Keep.upd (by rw [eF6]; exact trivial)), by rw [upd_ne neF.symm]; exact I6.2⟩, by rw [upd_same, z, if_pos c], J6.put hF eF6⟩
    have no : W.Gu x u q1 q2 q3 ≠ true → H6 F = some (.lst (lotTs (W.Gu x u) W.n ((sides (-1) s W.n).take (i + 1)))) := fun c => by
      rw [eF6, z, if_neg c]
    have zl6 : (lotTs (W.Gu x u) W.n ((sides (-1) s W.n).take i)).length < sizeLine := small_lt (by omega)
    refine ⟨_, rfl, ite2 (fun c1 => ?_) (fun c1 => ?_)⟩
    · have c1 := of_decide_eq_true c1
      have g : W.Gu x u q1 q2 q3 = true := decide_eq_true (Or.inl c1)
      exact iteT ⟨_, rfl, (.inl ⟨rfl, _, SqL.of eF6⟩), _, rfl, F, _, _, rfl, rfl, eF6, zl6, ⟨_, _, _, _, _, rfl⟩, yes g⟩
    · refine ⟨_, rfl, _, _, dp_fr fr, dp_fr (fr_no C H6), shaped_fr _, shaped_fr _, _, rfl, ?_⟩
      rw [eqv_fr]
      have c1 : ¬ _ := fun z => c1 (decide_eq_true z)
      refine ite2 (fun c2 => ?_) (fun c2 => ?_)
      · have c2 := of_decide_eq_true c2
        refine ⟨_, rfl, _, _, dp_fr fs6, dp_fr (fr_no C H6), shaped_fr _, shaped_fr _, _, rfl, ?_⟩
        rw [eqv_fr]
        refine ite2 (fun c3 => ?_) (fun c3 => ?_)
        · have g : W.Gu x u q1 q2 q3 = true := decide_eq_true (Or.inr ⟨c2, by simpa using c3⟩)
          exact ⟨_, rfl, (.inl ⟨rfl, _, SqL.of eF6⟩), _, rfl, F, _, _, rfl, rfl, eF6, zl6, ⟨_, _, _, _, _, rfl⟩, yes g⟩
        · refine ⟨⟨_, _, _, _, _, rfl⟩, I6, no (fun g => ?_), J6⟩
          rcases of_decide_eq_true g with g | g
          · exact c1 g
          · exact c3 (by simpa using g.2)
      · refine iteF ⟨⟨_, _, _, _, _, rfl⟩, I6, no (fun g => ?_), J6⟩
        rcases of_decide_eq_true g with g | g
        · exact c1 g
        · exact c2 (decide_eq_true g.1)
  · obtain ⟨⟨x5, x6, x7, x8, x9, rfl⟩, I, eF, I0⟩ := I
    rw [Paired.length pr, List.take_length] at eF
    exact ⟨_, rfl, k H' F I0.x I0.l hF eF⟩
end Pf
end

section
namespace Pf
open PySem PySem.Spec PyProof.Rows L2
variable {P : Program} {w : World} {K : PySem.W.Frag} {mg : Str → Option Value} {base : Heap} {a : Ad}
theorem dpa_frs {H : Hp} : ∀ {ys : List V} {qs : List Rat}, Frs K H ys qs → DpAll K H ys (qs.map frD)
  | _, _, .nil => .nil
  | _, _, .cons h t => .cons (dp_fr h) (dpa_frs t)
theorem lay_frs : ∀ qs : List Rat, PyData.canLayAll0 (qs.map frD) = true
  | [] => by simp [PyData.canLayAll0]
  | q :: qs => by rw [List.map_cons, PyData.canLayAll0, lay_frs qs]; simp [PyData.canLay0, frD, PyData.canLayAll0]
theorem dep_frs : ∀ qs : List Rat, PyData.depthAll (qs.map frD) ≤ 2
  | [] => by simp [PyData.depthAll]
  | q :: qs => by rw [List.map_cons, PyData.depthAll]; have := dep_frs qs; simp [PyData.depth, frD, PyData.depthAll]; omega
theorem eqva_frs : ∀ s t : List Rat, PyData.eqvAll (s.map frD) (t.map frD) = decide (s = t)
  | [], [] => by simp [PyData.eqvAll]
  | [], _ :: _ => by simp [PyData.eqvAll]
  | _ :: _, [] => by simp [PyData.eqvAll]
  | x :: s, y :: t => by
    rw [List.map_cons, List.map_cons, PyData.eqvAll, eqv_fr, eqva_frs s t]
    by_cases h : x = y
    · subst h; simp
    · simp [h]
theorem eq_nilF {H : Hp} {l q : Addr} {ys : List V} {s : List Rat} {Q : VK} (h : SqL K H l ys) (f : Frs K H ys s) (hq : SqL K H q []) (k : Q (.bl (decide (s = []))) H) : rEqD K (.ref l) (.ref q) H Q :=
  ⟨_, _, .lst h (dpa_frs f), .lst hq .nil, shaped_lst (lay_frs s) (by have := dep_frs s; omega), shaped_lst (ds := []) (by simp [PyData.canLayAll0]) (by simp [PyData.depthAll]), by
    have e := eqva_frs s []
    rw [show ([] : List Rat).map frD = [] from rfl] at e
    rw [PyData.eqv, e]; exact k⟩
/-- nothing, or a fraction -/
def OV (K : PySem.W.Frag) (H : Hp) (r : V) : Option Rat → Prop
  | none => r = .non
  | some u => Fr K H r u
theorem OV.keep {H H' : Hp} {r : V} {m : Option Rat} (e : Keep H H') (h : OV K H r m) : OV K H' r m := by
  cases m with
  | none => exact h
  | some u => exact Fr.keep e h
abbrev mostTs (sp hs : Int → Int → Int → Rat) (qs : List (Int × Int × Int)) : List Rat := (qs.filter fun t => decide (hs t.1 t.2.1 t.2.2 ≠ 0)).map fun t => sp t.1 t.2.1 t.2.2 / hs t.1 t.2.1 t.2.2
theorem mostTs_snoc {sp hs : Int → Int → Int → Rat} {qs : List (Int × Int × Int)} {i : Nat} {q1 q2 q3 : Int} (h : qs[i]? = some (q1, q2, q3)) : mostTs sp hs (qs.take (i + 1)) = if hs q1 q2 q3 ≠ 0 then mostTs sp hs (qs.take i) ++ [sp q1 q2 q3 / hs q1 q2 q3] else mostTs sp hs (qs.take i) := by
  unfold mostTs
  rw [List.take_add_one, h, List.filter_append, List.map_append]
  by_cases c : hs q1 q2 q3 ≠ 0
  · rw [if_pos c]; simp [c]
  · rw [if_neg c]; simp [c]
theorem mostTs_len {sp hs : Int → Int → Int → Rat} {qs : List (Int × Int × Int)} : (mostTs sp hs qs).length ≤ qs.length := by
  unfold mostTs
  rw [List.length_map]
  exact List.length_filter_le _ _
def spMost (K : PySem.W.Frag) (a : Ad) : Sp := fun vs H Q _ => ∃ (A : LdA) (W : Wd) (xv v : V) (x : Rat) (s : List Int), vs = [.ref A.p, xv, v] ∧ Ld K a H A W ∧ Fr K H xv x ∧ Sz 128 x ∧ LotV K H v s ∧ Lot (W.n : Int) s ∧
  ∀ H' r, Ext A H H' → Ld K a H' A W → OV K H' r (most W.sp (W.hs x) W.n s) → (∀ u, most W.sp (W.hs x) W.n s = some u → Sz 3901 u) → Q r H'
abbrev N_most_at : List Str := ["loads", "spot", "lot", "some", "left", "prop", "right", "share"]
theorem sc_most_at : FnScope N_most_at ["loads", "spot", "lot"] (defScope s_most_at) := ⟨rfl, rfl, rfl, by decide +kernel, rfl, by decide +kernel, by decide +kernel⟩
theorem ok_most (G : Gd K mg "most_at" s_most_at) (C : Ct K mg a) (D_with_sides : Df P w K mg base "with_sides" ["plank", "lot"] 3 (spSides K a)) (D_over : Df P w K mg base "over" ["one", "other"] 3 (sp2 K (· / ·) pos2)) (D_spare_at : Df P w K mg base "spare_at" ["loads", "left", "prop", "right"] 7 (spSpare K a))
    (D_least : Df P w K mg base "least" ["some"] 2 (spLeast K)) (D_Loads_share : Mf P w K mg base a.L "share" ["self", "left", "rest", "right", "spot"] 5 (spShare K a)) : Df P w K mg base "most_at" ["loads", "spot", "lot"] 8 (spMost K a) := by
  refine df_mk G sc_most_at (fun vs H Q E h => by obtain ⟨_, _, _, _, _, _, rfl, _⟩ := h; rfl) (fun _ _ _ _ _ _ us hl => match us, hl with | [_, _, _], _ => rfl) (fun f cdv A' outer sh H vs Q E hr h => ?_)
  obtain ⟨A, W, xv, v, x, s, rfl, L, fx, zx, hv, lt, k⟩ := h
  have l12 := lot12 lt
  have n12 := L.r.ok.n12
  refine ⟨_, (pss_cons (ps_set (i := 3) sc_most_at.nd rfl (by first | exact Or.inl rfl | exact Or.inr rfl) (pe_lst pa_nil))
    (pss_cons (ps_for PassesOwn.never rfl (pi_list (pcall D_with_sides hr (by decide) (by rfl) (pa_cons (pe_fld (pv 0) rfl) (pa_cons (pv 2) pa_nil)))) (pg_tup (by rfl) (pgs_cons (pg_name (i := 4) sc_most_at.nd rfl (by first | exact Or.inl rfl | exact Or.inr rfl)) (pgs_cons (pg_name (i := 5) sc_most_at.nd rfl (by first | exact Or.inl rfl | exact Or.inr rfl)) (pgs_cons (pg_name (i := 6) sc_most_at.nd rfl (by first | exact Or.inl rfl | exact Or.inr rfl)) pgs_nil))))
    (pss_cons (ps_set (i := 7) sc_most_at.nd rfl (by first | exact Or.inl rfl | exact Or.inr rfl) (pmeth D_Loads_share C.clL hr (by decide) (pv 0) (pa_cons (pv 4) (pa_cons (pv 5) (pa_cons (pv 6) (pa_cons (pv 1) pa_nil))))))
      (pss_one (ps_if (pt_cmpR (op_neD hr.units) (pv 7) (pe_glob (v := .ref _) (by rfl) C.NOUGHT rfl) (nomark _))
      (pss_one (ps_expr (pe_bm PySem.F.plainAttrs_list PySem.F.slot_list_append PySem.F.type_list_append mt_append (pv 3) (pa_cons (pcall D_over hr (by decide) (by rfl) (pa_cons (pcall D_spare_at hr (by decide) (by rfl) (pa_cons (pv 0) (pa_cons (pv 4) (pa_cons (pv 5) (pa_cons (pv 6) pa_nil))))) (pa_cons (pv 7) pa_nil))) pa_nil))))
      pss_nil))))
    (pss_one (ps_ret (pe_ifExp (pt_cmpR (op_eqD hr.units) (pv 3) (pe_lst pa_nil) (nomark _)) pe_non (pcall D_least hr (by decide) (by rfl) (pa_cons (pv 3) pa_nil))))))), ?_⟩
  refine ⟨by decide, fun F hF => ?_⟩
  have R1 : Rn K a A W H (upd H F (.lst [])) := (Rn.refl L).same (same_new hF)
  refine ⟨_, rfl, A.p, _, _, _, _, rfl, R1.l.r.ob, C.clL, C.nLp, lk_plank, _, rfl, _, W, v, s, rfl, R1.l.r.pk, n12, hv.keep R1.keep, lt, fun H2 l rf s2 hl eL pr => ?_⟩
  have R2 := R1.same s2
  have eF2 := s2 F _ upd_same
  have neF : F ≠ l := by rintro rfl; rw [upd_same] at hl; cases hl
  refine ⟨_, rfl, ⟨_, SqL.of eL⟩, for_list (K := K) (a := l) (xs := rf) (fun i σ H' => (∃ x5 x6 x7 x8, σ = [some (.ref A.p), some xv, some v, some (.ref F), x5, x6, x7, x8]) ∧ (Keep H2 H' ∧ H' l = some (.lst rf)) ∧ (∃ ys, H' F = some (.lst ys) ∧ Frs K H' ys (mostTs W.sp (W.hs x) ((sides (-1) s W.n).take i)) ∧ ∀ u ∈ mostTs W.sp (W.hs x) ((sides (-1) s W.n).take i), Sz 3901 u) ∧ Rn K a A W H H')
    ⟨⟨_, _, _, _, rfl⟩, ⟨Keep.refl H2, eL⟩, ⟨_, eF2, .nil, fun _ z => nomatch z⟩, R2⟩ (fun i σ H' _ I => SqL.of I.2.1.2) (fun i y σ H' hy I => ?_) (fun σ H' I => ?_)⟩
  · obtain ⟨⟨x5, x6, x7, x8, rfl⟩, ⟨I, el⟩, ⟨ys, eF, fys, szs⟩, I0⟩ := I
    obtain ⟨⟨q1, q2, q3⟩, hq, T, rfl, hT⟩ := Paired.get? pr hy
    have k3 := key_of_sides lt (List.mem_of_getElem? hq)
    have z := mostTs_snoc (sp := W.sp) (hs := W.hs x) hq
    have zl : ys.length ≤ 12 := by
      rw [Paired.length fys]
      refine Nat.le_trans mostTs_len ?_
      rw [List.length_take, sides_length]
      omega
    have o := I0.l.r.ok
    have zs := o.sz_sh k3 zx
    refine ⟨T, _, rfl, sqt_keep I hT, rfl, _, _, rfl, _, _, rfl, _, _, rfl, rfl, ?_⟩
    refine ⟨_, rfl, A.p, _, _, rfl, I0.l.r.ob, lk_share, _, rfl, _, rfl, _, rfl, _, rfl, A, W, q1, q2, q3, xv, x, rfl, I0.l.r, k3, fx.keep I0.keep, zx, fun H3 sv s3 fs => ?_⟩
    have J3 := I0.same s3
    have e3 := s3 _ _ eF
    refine ⟨_, rfl, _, _, dp_fr fs, dp_fr (fr_no C H3), shaped_fr _, shaped_fr _, _, rfl, ?_⟩
    rw [eqv_fr]
    refine ite2 (fun c => ?_) (fun c => ?_)
    · have c : W.hs x q1 q2 q3 ≠ 0 := by simpa using c
      rw [if_pos c] at z
      have pos : 0 < W.hs x q1 q2 q3 := by have := (o.nums x).nn _ _ _ k3; grind
      refine ⟨_, rfl, (.inl ⟨rfl, _, SqL.of e3⟩), _, rfl, _, rfl, _, rfl, _, rfl, A, W, q1, q2, q3, rfl, J3.l, k3, fun H4 pv x4 L4 fp => ?_⟩
      have J4 := J3.go x4 L4
      have kp4 := J3.l.keep x4
      refine ⟨_, rfl, pv, sv, _, _, rfl, fp, fs.keep kp4, ⟨_, _, o.sz_sp k3, zs, by decide⟩, pos, fun H5 ov s5 fo => ?_⟩
      have e5 := s5 _ _ (J3.l.lst x4 e3)
      have J5 := J4.same s5
      have I5 : Keep H2 H5 ∧ H5 l = some (.lst rf) := ⟨((I.trans (Same.keep s3)).trans kp4).trans (Same.keep s5), s5 _ _ (J3.l.lst x4 (s3 _ _ el))⟩
      have kpF : Keep H5 (upd H5 F (.lst (ys ++ [ov]))) := Keep.upd (by rw [e5]; exact trivial)
      refine ⟨F, _, _, rfl, rfl, e5, small_lt (by omega), ⟨_, _, _, _, rfl⟩, ⟨I5.1.trans kpF, by rw [upd_ne neF.symm]; exact I5.2⟩, ⟨_, upd_same, ?_, ?_⟩, J5.put hF e5⟩
      · rw [z]
        exact Paired.snoc (fo.keep kpF) ((((Frs.keep (Same.keep s3) fys).keep kp4).keep (Same.keep s5)).keep kpF)
      · rw [z]
        intro u hu
        rcases List.mem_append.mp hu with hu | hu
        · exact szs u hu
        · rw [List.mem_singleton.mp hu]
          exact (o.sz_sp k3).div zs pos
    · have c : ¬ W.hs x q1 q2 q3 ≠ 0 := by simpa using c
      rw [if_neg c] at z
      refine ⟨⟨_, _, _, _, rfl⟩, ⟨I.trans (Same.keep s3), s3 _ _ el⟩, ⟨ys, e3, ?_, ?_⟩, J3⟩
      · rw [z]; exact Frs.keep (Same.keep s3) fys
      · rw [z]; exact szs
  · obtain ⟨⟨x5, x6, x7, x8, rfl⟩, I, ⟨ys, eF, fys, szs⟩, I0⟩ := I
    rw [Paired.length pr, List.take_length] at fys szs
    refine ⟨_, rfl, by decide, fun q hq => eq_nilF (s := mostTs W.sp (W.hs x) (sides (-1) s W.n)) (SqL.of ?_) (Frs.keep (Same.keep (same_new hq)) fys) (SqL.of upd_same) ⟨_, rfl, ?_⟩⟩
    · rw [upd_ne (ne_of_none eF hq)]; exact eF
    have sq := same_new (o := .lst []) hq
    have I1 := I0.same sq
    have e1 := sq _ _ eF
    have f1 := Frs.keep (Same.keep sq) fys
    have em : most W.sp (W.hs x) W.n s = leastO (mostTs W.sp (W.hs x) (sides (-1) s W.n)) := rfl
    rw [em] at k
    generalize mostTs W.sp (W.hs x) (sides (-1) s W.n) = qs at k fys szs f1
    cases qs with
    | nil => exact iteT (k _ _ I1.x I1.l rfl (fun u z => by cases z))
    | cons q0 qs =>
      refine iteF ⟨_, rfl, F, ys, q0, qs, 3901, rfl, SqL.of e1, f1, szs, by decide, fun r fr => k _ _ I1.x I1.l fr fun u z => ?_⟩
      cases z
      exact foldl_mem_sz (szs _ List.mem_cons_self) fun y hy => szs y (List.mem_cons_of_mem _ hy)
end Pf
end

section
namespace Pf
open PySem PySem.Spec PyProof.Rows L2
variable {P : Program} {w : World} {K : PySem.W.Frag} {mg : Str → Option Value} {base : Heap} {a : Ad}
theorem parts_none {sp hs : Int → Int → Int → Rat} {n : Nat} {row s : List Int} (h : most sp hs n s = none) : parts sp hs n row s = [(row, s, none)] := by
  rw [parts.eq_def, h]
theorem parts_some {sp hs : Int → Int → Int → Rat} {n : Nat} {row s : List Int} {u : Rat} (N : Nums n sp hs) (hl : Lot (n : Int) s) (h : most sp hs n s = some u) :
    parts sp hs n row s = (row, s, some u) :: parts sp hs n (settle (Gu sp hs u) n s).1 (settle (Gu sp hs u) n s).2 := by
  rw [parts.eq_def, h]
  have := settle_len_lt (most_bad N hl h)
  simp [this]
/-- a part as it is told: its row is a list of its own, no other than F -/
def Pt (K : PySem.W.Frag) (F : Addr) (H0 H : Hp) (r : V) (q : Part) : Prop := ∃ t rl lv mv, r = .ref t ∧ SqT K H t [.ref rl, lv, mv] ∧ H0 rl = none ∧ rl ≠ F ∧ H rl = some (.lst (q.1.map V.int)) ∧ LotV K H lv q.2.1 ∧ OV K H mv q.2.2 ∧ ∀ u, q.2.2 = some u → Sz 3901 u
theorem Pt.rn {F : Addr} {H0 H H' : Hp} {r : V} {q : Part} {A : LdA} {W : Wd} (R : Rn K a A W H H') (h : Pt K F H0 H r q) : Pt K F H0 H' r q := by
  obtain ⟨t, rl, lv, mv, rfl, h1, h2, h3, h4, h5, h6, h7⟩ := h
  exact ⟨t, rl, lv, mv, rfl, sqt_keep R.keep h1, h2, h3, R.l0.lst R.x h4, h5.keep R.keep, h6.keep R.keep, h7⟩
theorem Pt.put {F : Addr} {H0 H : Hp} {r : V} {q : Part} {o : HO} {xs : List V} (e : H F = some (.lst xs)) (h : Pt K F H0 H r q) : Pt K F H0 (upd H F o) r q := by
  obtain ⟨t, rl, lv, mv, rfl, h1, h2, h3, h4, h5, h6, h7⟩ := h
  have kp : Keep H (upd H F o) := Keep.upd (by rw [e]; exact trivial)
  exact ⟨t, rl, lv, mv, rfl, sqt_keep kp h1, h2, h3, by rw [upd_ne h3]; exact h4, h5.keep kp, h6.keep kp, h7⟩
def spFalls (K : PySem.W.Frag) (a : Ad) : Sp := fun vs H Q _ => ∃ (A : LdA) (W : Wd) (xv : V) (x : Rat), vs = [.ref A.p, xv] ∧ Ld K a H A W ∧ Fr K H xv x ∧ Sz 128 x ∧
  ∀ H' l refs, Ext A H H' → Ld K a H' A W → H l = none → H' l = some (.lst refs) → Paired (Pt K l H H') refs (parts W.sp (W.hs x) W.n (settle W.F0 W.n (allP W.n)).1 (settle W.F0 W.n (allP W.n)).2) → refs.length ≤ 20 → Q (.ref l) H'
abbrev N_falls_of : List Str := ["loads", "spot", "row", "lot", "found", "some"]
theorem sc_falls_of : FnScope N_falls_of ["loads", "spot"] (defScope s_falls_of) := ⟨rfl, rfl, rfl, by decide +kernel, rfl, by decide +kernel, by decide +kernel⟩
theorem ok_falls (G : Gd K mg "falls_of" s_falls_of) (C : Ct K mg a) (D_settled : Df P w K mg base "settled" ["loads", "lot"] 10 (spSettled K a)) (D_lot_of : Df P w K mg base "lot_of" ["plank", "lot"] 3 (spLotOf K a)) (D_most_at : Df P w K mg base "most_at" ["loads", "spot", "lot"] 8 (spMost K a))
    (D_going : Df P w K mg base "going" ["loads", "spot", "much", "lot"] 8 (spGoing K a)) (D_without : Df P w K mg base "without" ["lot", "prop"] 1 (spWithout K)) : Df P w K mg base "falls_of" ["loads", "spot"] 11 (spFalls K a) := by
  refine df_mk G sc_falls_of (fun vs H Q E h => by obtain ⟨_, _, _, _, rfl, _⟩ := h; rfl) (fun _ _ _ _ _ _ us hl => match us, hl with | [_, _], _ => rfl) (fun f cdv A' outer sh H vs Q E hr h => ?_)
  obtain ⟨A, W, xv, x, rfl, L, fx, zx, k⟩ := h
  have n12 := L.r.ok.n12
  refine ⟨_, (pss_cons (ps_asg (pcall D_settled hr (by decide) (by rfl) (pa_cons (pv 0) (pa_cons (pcall D_lot_of hr (by decide) (by rfl) (pa_cons (pe_fld (pv 0) rfl) (pa_cons pe_non pa_nil))) pa_nil))) (pg_tup (by rfl) (pgs_cons (pg_name (i := 2) sc_falls_of.nd rfl (by first | exact Or.inl rfl | exact Or.inr rfl)) (pgs_cons (pg_name (i := 3) sc_falls_of.nd rfl (by first | exact Or.inl rfl | exact Or.inr rfl)) pgs_nil))))
    (pss_cons (ps_set (i := 4) sc_falls_of.nd rfl (by first | exact Or.inl rfl | exact Or.inr rfl) (pe_lst (pa_cons (pe_tup (pa_cons (pv 2) (pa_cons (pv 3) (pa_cons (pcall D_most_at hr (by decide) (by rfl) (pa_cons (pv 0) (pa_cons (pv 1) (pa_cons (pv 3) pa_nil)))) pa_nil)))) pa_nil)))
    (pss_cons (ps_while PassesOwn.never (pt_cmpR op_notN (pe_ix (r := rIxT K) ix_tup (pe_ix (r := rIxL K) ix_list (pv 4) (pe_un un_neg pe_int) (fun _ _ => rfl)) pe_int (fun _ _ => rfl)) pe_non (nomark _))
    (pss_cons (ps_set (i := 2) sc_falls_of.nd rfl (by first | exact Or.inl rfl | exact Or.inr rfl) (pe_lst pa_nil))
      (pss_cons (ps_set (i := 5) sc_falls_of.nd rfl (by first | exact Or.inl rfl | exact Or.inr rfl) (pcall D_going hr (by decide) (by rfl) (pa_cons (pv 0) (pa_cons (pv 1) (pa_cons (pe_ix (r := rIxT K) ix_tup (pe_ix (r := rIxL K) ix_list (pv 4) (pe_un un_neg pe_int) (fun _ _ => rfl)) pe_int (fun _ _ => rfl)) (pa_cons (pv 3) pa_nil))))))
      (pss_cons (ps_while PassesOwn.never (pt_cmpR (op_neD hr.units) (pv 5) (pe_lst pa_nil) (nomark _))
      (pss_cons (ps_expr (pe_bm PySem.F.plainAttrs_list PySem.F.slot_list_append PySem.F.type_list_append mt_append (pv 2) (pa_cons (pe_ix (r := rIxL K) ix_list (pv 5) pe_int (fun _ _ => rfl)) pa_nil)))
        (pss_cons (ps_set (i := 3) sc_falls_of.nd rfl (by first | exact Or.inl rfl | exact Or.inr rfl) (pcall D_without hr (by decide) (by rfl) (pa_cons (pv 3) (pa_cons (pe_ix (r := rIxL K) ix_list (pv 5) pe_int (fun _ _ => rfl)) pa_nil))))
        (pss_one (ps_set (i := 5) sc_falls_of.nd rfl (by first | exact Or.inl rfl | exact Or.inr rfl) (pcall D_going hr (by decide) (by rfl) (pa_cons (pv 0) (pa_cons (pv 1) (pa_cons (pe_ix (r := rIxT K) ix_tup (pe_ix (r := rIxL K) ix_list (pv 4) (pe_un un_neg pe_int) (fun _ _ => rfl)) pe_int (fun _ _ => rfl)) (pa_cons (pv 3) pa_nil))))))))))
      (pss_one (ps_expr (pe_bm PySem.F.plainAttrs_list PySem.F.slot_list_append PySem.F.type_list_append mt_append (pv 4) (pa_cons (pe_tup (pa_cons (pv 2) (pa_cons (pv 3) (pa_cons (pcall D_most_at hr (by decide) (by rfl) (pa_cons (pv 0) (pa_cons (pv 1) (pa_cons (pv 3) pa_nil)))) pa_nil)))) pa_nil))))))))
    (pss_one (ps_ret (pv 4)))))), ?_⟩
  refine ⟨_, rfl, _, rfl, A.p, _, _, _, _, rfl, L.r.ob, C.clL, C.nLp, lk_plank, _, W, rfl, L.r.pk, n12, fun H1 lv s1 hlv => ?_⟩
  have L1 := L.same s1
  refine ⟨A, W, lv, allP W.n, rfl, L1, hlv, allP_lot _, fun H2 t r v2 x2 L2 f2 e2 hv2 ht2 => ?_⟩
  have R2 : Rn K a A W H H2 := ((Rn.refl L).same s1).go x2 L2
  have r0 := s1.free f2
  have lt2 : Lot (W.n : Int) (settle W.F0 W.n (allP W.n)).2 := by
    refine settle_ind (F := W.F0) (n := W.n) (P := fun s => Lot (W.n : Int) s → Lot (W.n : Int) (settle W.F0 W.n s).2) (fun s ih lt => ?_) (allP W.n) (allP_lot _)
    cases hb : bad W.F0 W.n s with
    | nil => rw [settle_nil hb]; exact lt
    | cons p rest => rw [settle_cons hb]; exact ih p rest hb (lt.wo p)
  refine ⟨t, _, rfl, ht2, rfl, _, _, rfl, _, _, rfl, rfl, ?_⟩
  generalize (settle W.F0 W.n (allP W.n)).1 = row0 at k e2
  generalize (settle W.F0 W.n (allP W.n)).2 = s0 at k hv2 lt2
  have l12 := lot12 lt2
  refine ⟨_, rfl, _, rfl, _, rfl, _, rfl, _, rfl, A, W, xv, v2, x, s0, rfl, L2, fx.keep R2.keep, zx, hv2, lt2, fun H3 mv x3 L3 om zm => ?_⟩
  have R3 := R2.go x3 L3
  refine ⟨by show 3 ≤ sizeLine; decide, fun T hT => ⟨by show 1 ≤ sizeLine; decide, fun F hF => ?_⟩⟩
  have sT := same_new (o := .tup [V.ref r, v2, mv]) hT
  have RT := R3.same sT
  have F0 : H F = none := RT.free hF
  have r3 := L2.lst x3 e2
  have neF : r ≠ F := by
    rintro rfl
    rw [sT _ _ r3] at hF
    cases hF
  have sF := same_new (o := .lst [V.ref T]) hF
  have RF := RT.same sF
  have kp3 : Keep H2 (upd (upd H3 T (.tup [V.ref r, v2, mv])) F (.lst [V.ref T])) := ((L2.keep x3).trans (Same.keep sT)).trans (Same.keep sF)
  have P0 : Pt K F H (upd (upd H3 T (.tup [V.ref r, v2, mv])) F (.lst [V.ref T])) (.ref T) (row0, s0, most W.sp (W.hs x) W.n s0) :=
    ⟨T, r, v2, mv, rfl, SqT.of (sF _ _ upd_same), r0, neF, sF _ _ (sT _ _ r3), hv2.keep kp3, om.keep ((Same.keep sT).trans (Same.keep sF)), zm⟩
  have hv3 := hv2.keep kp3
  have eF0 : (upd (upd H3 T (.tup [V.ref r, v2, mv])) F (.lst [V.ref T])) F = some (.lst [V.ref T]) := upd_same
  generalize upd (upd H3 T (.tup [V.ref r, v2, mv])) F (.lst [V.ref T]) = H4 at RF P0 hv3 eF0
  refine ⟨fun m σ H' => ∃ (x2 x5 : Option V) (lv : V) (s row : List Int) (done : List V) (dp : List Part) (last : V), m = s.length ∧ σ = [some (.ref A.p), some xv, x2, some lv, some (.ref F), x5] ∧ Rn K a A W H H' ∧ H' F = some (.lst (done ++ [last])) ∧ Paired (Pt K F H H') done dp ∧
    Pt K F H H' last (row, s, most W.sp (W.hs x) W.n s) ∧ LotV K H' lv s ∧ Lot (W.n : Int) s ∧ dp.length + s.length ≤ 12 ∧ parts W.sp (W.hs x) W.n row0 s0 = dp ++ parts W.sp (W.hs x) W.n row s,
    ⟨_, _, _, v2, s0, row0, [], [], _, rfl, rfl, RF, eF0, .nil, P0, hv3, lt2, by show 0 + s0.length ≤ 12; omega, rfl⟩, fun m σ H' I => ?_⟩
  obtain ⟨x2', x5', lv', s, row, done, dp, last, rfl, rfl, I, eF, pd, pl, hv, lt, len, ep⟩ := I
  obtain ⟨t', rl, lv1, mv1, rfl, g1, g2, g3, g4, g5, g6, g7⟩ := id pl
  have ld : done.length ≤ 12 := by have := Paired.length pd; omega
  refine ⟨_, rfl, 1, rfl, F, _, _, _, rfl, rfl, SqL.of eF, atI_last _ _, _, _, _, _, rfl, rfl, g1, rfl, rfl, _, rfl, ?_⟩
  cases hm : most W.sp (W.hs x) W.n s with
  | none =>
    have g6' : mv1 = V.non := by
      have q := g6
      show mv1 = V.non
      rw [show (row, s, most W.sp (W.hs x) W.n s).2.2 = most W.sp (W.hs x) W.n s from rfl, hm] at q
      exact q
    rw [g6']
    refine iteF ⟨_, rfl, ?_⟩
    rw [parts_none hm] at ep
    rw [ep] at k
    rw [hm] at pl
    exact k _ _ _ I.x I.l F0 eF (Paired.snoc pl pd) (by rw [List.length_append]; show done.length + 1 ≤ 20; omega)
  | some u =>
    have g6' : Fr K H' mv1 u := by
      have q := g6
      rw [show (row, s, most W.sp (W.hs x) W.n s).2.2 = most W.sp (W.hs x) W.n s from rfl, hm] at q
      exact q
    have zu : Sz 3901 u := g7 u hm
    have N := L.r.ok.nums x
    have mb := most_bad N lt hm
    have sl := settle_len_lt mb
    rw [parts_some N lt hm] at ep
    obtain ⟨pm, rfl, _⟩ := id g6'
    refine iteT ⟨_, fun _ _ z => z, ?_⟩
    refine ⟨by decide, fun R hR => ?_⟩
    have I1 : Rn K a A W H' (upd H' R (.lst [])) := (Rn.refl I.l).same (same_new hR)
    have eR1 : (upd H' R (.lst [])) R = some (.lst []) := upd_same
    have R0 := I.free hR
    have neR : R ≠ F := by rintro rfl; rw [eF] at hR; cases hR
    generalize upd H' R (.lst []) = H5 at I1 eR1
    have eF5 := I.l.lst I1.x eF
    have gg := sqt_keep I1.keep g1
    refine ⟨_, rfl, _, rfl, _, rfl, 1, rfl, F, _, _, _, rfl, rfl, SqL.of eF5, atI_last _ _, _, _, _, _, rfl, rfl, gg, rfl, _, rfl, A, W, xv, _, lv', x, u, s, rfl, I1.l, (fx.keep I.keep).keep I1.keep, zx, g6'.keep I1.keep, zu, hv.keep I1.keep, lt, fun H6 l6 x6 L6 f6 e6 => ?_⟩
    have I6 := I1.go x6 L6
    refine ⟨fun m σ H'' => ∃ (v' : V) (s' row' : List Int) (l : Addr), m = s'.length ∧ σ = [some (.ref A.p), some xv, some (.ref R), some v', some (.ref F), some (.ref l)] ∧ Rn K a A W H' H'' ∧ LotV K H'' v' s' ∧ Lot (W.n : Int) s' ∧ H'' R = some (.lst (row'.map V.int)) ∧
      H'' l = some (.lst ((bad (W.Gu x u) W.n s').map V.int)) ∧ R ≠ l ∧ row'.length + s'.length ≤ 12 ∧ settle (W.Gu x u) W.n s = (row' ++ (settle (W.Gu x u) W.n s').1, (settle (W.Gu x u) W.n s').2), ⟨_, lv', s, [], l6, rfl, rfl, I6, hv.keep I6.keep, lt, I1.l.lst x6 eR1, e6, ?_, ?_, rfl⟩, fun m σ H'' J => ?_⟩
    · rintro rfl; rw [eR1] at f6; cases f6
    · have := lot12 lt; show 0 + s.length ≤ 12; omega
    · obtain ⟨v', s', row', l, rfl, rfl, J, hv', lt', eR, el, ne, len', es⟩ := J
      refine ⟨_, rfl, by decide, fun q hq => ne_nil (s := bad (W.Gu x u) W.n s') (SqL.of ?_) (SqL.of upd_same) ⟨_, rfl, ?_⟩⟩
      · rw [upd_ne (ne_of_none el hq)]; exact el
      have sq := same_new (o := .lst []) hq
      have J2 := J.same sq
      have eR2 := sq _ _ eR
      have el2 := sq _ _ el
      have hv2 := hv'.same sq
      generalize upd H'' q (.lst []) = H7 at sq J2 eR2 el2 hv2
      have eF7 := I.l.lst J2.x eF
      have gg7 := sqt_keep J2.keep g1
      cases hb : bad (W.Gu x u) W.n s' with
      | nil =>
        rw [settle_nil hb, List.append_nil] at es
        have K2 := I.trans J2
        refine iteF ⟨_, rfl, (.inl ⟨rfl, _, SqL.of eF7⟩), _, rfl, _, rfl, _, rfl, _, rfl, _, rfl, A, W, xv, v', x, s', rfl, J2.l, fx.keep K2.keep, zx, hv2, lt', fun H8 mv8 x8 L8 om8 zm8 => ?_⟩
        have J8 := J2.go x8 L8
        refine ⟨by show 3 ≤ sizeLine; decide, fun T8 hT8 => ?_⟩
        have sT8 := same_new (o := .tup [V.ref R, v', mv8]) hT8
        have J9 := J8.same sT8
        have eT9 : (upd H8 T8 (.tup [V.ref R, v', mv8])) T8 = some (.tup [V.ref R, v', mv8]) := upd_same
        have eR9 := sT8 _ _ (J2.l.lst x8 eR2)
        have hv9 := (hv2.keep (J2.l.keep x8)).same sT8
        have om9 := om8.keep (Same.keep sT8)
        generalize upd H8 T8 (.tup [V.ref R, v', mv8]) = H9 at J9 eT9 eR9 hv9 om9
        have eF9 := I.l.lst J9.x eF
        have K9 := I.trans J9
        have pd9 : Paired (Pt K F H H9) done dp := Paired.mapP pd fun _ _ z => z.rn J9
        have pl9 := pl.rn J9
        have pn9 : Pt K F H H9 (.ref T8) (row', s', most W.sp (W.hs x) W.n s') := ⟨T8, R, v', mv8, rfl, SqT.of eT9, R0, neR, eR9, hv9, om9, zm8⟩
        have e1 : (settle (W.Gu x u) W.n s).1 = row' := by rw [es]
        have e2 : (settle (W.Gu x u) W.n s).2 = s' := by rw [es]
        have sl' : s'.length < s.length := by
          have := sl
          rw [show Pf.Gu W.sp (W.hs x) u = W.Gu x u from rfl, e2] at this
          exact this
        have kpu : Keep H9 (upd H9 F (.lst (done ++ [V.ref t'] ++ [V.ref T8]))) := Keep.upd (by rw [eF9]; exact trivial)
        refine ⟨F, _, _, rfl, rfl, eF9, small_lt (by rw [List.length_append]; show done.length + 1 < 100000; omega), s'.length, sl', _, _, v', s', row', done ++ [V.ref t'], dp ++ [(row, s, some u)], .ref T8, rfl, rfl, K9.put F0 eF9, upd_same, ?_, pn9.put eF9, hv9.keep kpu, lt', ?_, ?_⟩
        · rw [hm] at pl9
          exact Paired.mapP (Paired.snoc pl9 pd9) fun _ _ z => z.put eF9
        · rw [List.length_append]; show dp.length + 1 + s'.length ≤ 12; omega
        · rw [ep, show Pf.Gu W.sp (W.hs x) u = W.Gu x u from rfl, e1, e2, List.append_assoc]; rfl
      | cons p rest =>
        have hp : p ∈ s' := bad_sub (F := W.Gu x u) (n := W.n) (by rw [hb]; exact List.mem_cons_self)
        have wl := wo_lt hp
        rw [hb] at el2
        refine iteT ⟨_, fun _ _ z => z, ?_⟩
        refine ⟨_, rfl, (.inl ⟨rfl, _, SqL.of eR2⟩), _, rfl, l, _, 0, _, rfl, rfl, SqL.of el2, atI_nat (j := 0) (v := V.int p) rfl, R, _, _, rfl, rfl, eR2, small_lt (by rw [List.length_map]; omega), ?_⟩
        have J3 : Rn K a A W H' (upd H7 R (.lst (row'.map V.int ++ [V.int p]))) := J2.put hR eR2
        have el3 : (upd H7 R (.lst (row'.map V.int ++ [V.int p]))) l = some (.lst ((p :: rest).map V.int)) := by rw [upd_ne ne.symm]; exact el2
        have eR3 : (upd H7 R (.lst (row'.map V.int ++ [V.int p]))) R = some (.lst ((row' ++ [p]).map V.int)) := by rw [upd_same, List.map_append]; rfl
        have hv3 : LotV K (upd H7 R (.lst (row'.map V.int ++ [V.int p]))) v' s' := hv2.keep (Keep.upd (by rw [eR2]; exact trivial))
        generalize upd H7 R (.lst (row'.map V.int ++ [V.int p])) = H8 at J3 el3 eR3 hv3
        refine ⟨_, rfl, _, rfl, l, _, 0, _, rfl, rfl, SqL.of el3, atI_nat (j := 0) (v := V.int p) rfl, v', s', p, rfl, hv3, by omega, fun H9 v9 s9 hv9 => ?_⟩
        have J9 := J3.same s9
        have lt9 := lt'.wo p
        have eF9 := I.l.lst J9.x eF
        have gg9 := sqt_keep J9.keep g1
        refine ⟨_, rfl, _, rfl, _, rfl, 1, rfl, F, _, _, _, rfl, rfl, SqL.of eF9, atI_last _ _, _, _, _, _, rfl, rfl, gg9, rfl, _, rfl, A, W, xv, _, v9, x, u, wo s' p, rfl, J9.l, (fx.keep I.keep).keep J9.keep, zx, g6'.keep J9.keep, zu, hv9, lt9, fun H10 l10 x10 L10 f10 e10 => ?_⟩
        have eR9 := s9 _ _ eR3
        refine ⟨_, wl, v9, wo s' p, row' ++ [p], l10, rfl, rfl, J9.go x10 L10, hv9.keep (J9.l.keep x10), lt9, J9.l.lst x10 eR9, e10, ?_, ?_, ?_⟩
        · rintro rfl; rw [eR9] at f10; cases f10
        · rw [List.length_append]; show row'.length + 1 + _ ≤ 12; omega
        · rw [es, settle_cons hb, List.append_assoc]; rfl
end Pf
end

section
namespace Pf
open PySem PySem.Spec PyProof.Rows L2
variable {P : Program} {w : World} {K : PySem.W.Frag} {mg : Str → Option Value} {base : Heap} {a : Ad}
theorem Pt.since {F : Addr} {H0 H1 H : Hp} {r : V} {q : Part} (s : Same H0 H1) (h : Pt K F H1 H r q) : Pt K F H0 H r q := by
  obtain ⟨t, rl, lv, mv, rfl, h1, h2, h3⟩ := h
  exact ⟨t, rl, lv, mv, rfl, h1, s.free h2, h3⟩
/-- all that the program tells of a place -/
abbrev Wd.told (W : Wd) (x : Rat) : List Part := parts W.sp (W.hs x) W.n (settle W.F0 W.n (allP W.n)).1 (settle W.F0 W.n (allP W.n)).2
theorem ext_same {A : LdA} {H H1 H2 : Hp} (s : Same H H1) (x : Ext A H1 H2) (h1 : H A.dk = none) (h2 : H A.dv = none) : Same H H2 := fun b o e => x b o (s b o e) (ne_of_none e h1) (ne_of_none e h2)
def spFurther (K : PySem.W.Frag) (a : Ad) : Sp := fun vs H Q _ => ∃ (p l : Addr) (W : Wd) (refs : List V) (xv : V) (x : Rat), vs = [.ref p, .ref l, xv] ∧ Plk K a H p W ∧ W.Ok ∧ SqL K H l refs ∧ Paired (Wt K H) refs W.hv ∧ Fr K H xv x ∧ Spt W x ∧
  ∀ H' f rs, Same H H' → H f = none → H' f = some (.lst rs) → Paired (Pt K f H H') rs (W.told x) → rs.length ≤ 20 → Q (.ref f) H'
abbrev N_further : List Str := ["plank", "weights", "place", "loads"]
theorem sc_further : FnScope N_further ["plank", "weights", "place"] (defScope s_further) := ⟨rfl, rfl, rfl, by decide +kernel, rfl, by decide +kernel, by decide +kernel⟩
theorem ok_further (G : Gd K mg "further" s_further) (D_loads_of : Df P w K mg base "loads_of" ["plank", "weights"] 7 (spLoadsOf K a)) (D_check_spot : Df P w K mg base "check_spot" ["plank", "thing"] 5 (spCheckSpot K a)) (D_falls_of : Df P w K mg base "falls_of" ["loads", "spot"] 11 (spFalls K a)) :
    Df P w K mg base "further" ["plank", "weights", "place"] 12 (spFurther K a) := by
  refine df_mk G sc_further (fun vs H Q E h => by obtain ⟨_, _, _, _, _, _, rfl, _⟩ := h; rfl) (fun _ _ _ _ _ _ us hl => match us, hl with | [_, _, _], _ => rfl) (fun f cdv A' outer sh H vs Q E hr h => ?_)
  obtain ⟨p, l, W, refs, xv, x, rfl, pk, o, hl, hw, fx, sx, k⟩ := h
  refine ⟨_, (pss_cons (ps_set (i := 3) sc_further.nd rfl (by first | exact Or.inl rfl | exact Or.inr rfl) (pcall D_loads_of hr (by decide) (by rfl) (pa_cons (pv 0) (pa_cons (pv 1) pa_nil))))
    (pss_cons (ps_expr (pcall D_check_spot hr (by decide) (by rfl) (pa_cons (pv 0) (pa_cons (pv 2) pa_nil))))
    (pss_one (ps_ret (pcall D_falls_of hr (by decide) (by rfl) (pa_cons (pv 3) (pa_cons (pv 2) pa_nil))))))), ?_⟩
  refine ⟨_, rfl, _, rfl, p, l, W, refs, rfl, pk, o, hl, hw, fun H1 A s1 ep L1 fk fv => ?_⟩
  subst ep
  refine ⟨_, rfl, _, rfl, _, W, xv, x, rfl, L1.r.pk, o, fx.same s1, sx, fun H2 s2 => ?_⟩
  have s12 := s1.trans s2
  refine ⟨_, rfl, _, rfl, A, W, xv, x, rfl, L1.same s2, fx.same s12, sx.sz, fun H3 f rs x3 L3 f3 e3 p3 l3 => ?_⟩
  exact k H3 f rs (ext_same s12 x3 fk fv) (s12.free f3) e3 (Paired.mapP p3 fun _ _ z => z.since s12) l3
/-- who fails: before any further weight, or above the last most -/
def Wd.Fm (W : Wd) (x : Rat) : Option Rat → Fail
  | none => W.F0
  | some u => W.Gu x u
theorem pick {A : LdA} {W : Wd} {H : Hp} {σ : L2.St} {Q : VK} {xv av v : V} {x : Rat} {m : Option Rat} {s : List Int} (h0 : σ[0]? = some (some (.ref A.p))) (h1 : σ[1]? = some (some xv)) (h2 : σ[2]? = some (some av)) (h3 : σ[3]? = some (some v)) (L : Ld K a H A W) (fx : Fr K H xv x) (zx : Sz 128 x)
    (om : OV K H av m) (zm : ∀ u, m = some u → Sz 3901 u) (hv : LotV K H v s) (lt : Lot (W.n : Int) s) (k : ∀ H' l, Ext A H H' → Ld K a H' A W → H l = none → H' l = some (.lst ((bad (W.Fm x m) W.n s).map V.int)) → Q (.ref l) H') :
    tIf (tTest (tOp (fun x y H Q => y = V.non ∧ Q (V.bl (decide (x = V.non))) H) (tVar 2) (tC V.non))) (tCall (spOverlaid K a) [] E0 (tCons (tVar 0) (tCons (tVar 3) tNil))) (tCall (spGoing K a) [] E0 (tCons (tVar 0) (tCons (tVar 1) (tCons (tVar 2) (tCons (tVar 3) tNil))))) σ H Q := by
  refine ⟨_, h2, rfl, _, rfl, ?_⟩
  cases m with
  | none =>
    have e : av = V.non := om
    rw [e]
    exact iteT ⟨_, h0, _, h3, A, W, v, s, rfl, L, hv, lt, k⟩
  | some u =>
    obtain ⟨p, rfl, _⟩ := id om
    exact iteF ⟨_, h0, _, h1, _, h2, _, h3, A, W, xv, _, v, x, u, s, rfl, L, fx, zx, om, zm u rfl, hv, lt, k⟩
def spGoes (K : PySem.W.Frag) (a : Ad) : Sp := fun vs H Q _ => ∃ (A : LdA) (W : Wd) (xv av v : V) (rl : Addr) (x : Rat) (m : Option Rat) (s row : List Int), vs = [.ref A.p, xv, av, v, .ref rl] ∧ Ld K a H A W ∧ Fr K H xv x ∧ Sz 128 x ∧ OV K H av m ∧ (∀ u, m = some u → Sz 3901 u) ∧ LotV K H v s ∧ Lot (W.n : Int) s ∧
  H rl = some (.lst (row.map V.int)) ∧ row = (settle (W.Fm x m) W.n s).1 ∧ ∀ H' v', Ext A H H' → Ld K a H' A W → LotV K H' v' (settle (W.Fm x m) W.n s).2 → Q v' H'
abbrev N_goes_so : List Str := ["loads", "spot", "ahead", "lot", "row", "prop", "some"]
theorem sc_goes_so : FnScope N_goes_so ["loads", "spot", "ahead", "lot", "row"] (defScope s_goes_so) := ⟨rfl, rfl, rfl, by decide +kernel, rfl, by decide +kernel, by decide +kernel⟩
theorem ok_goes (G : Gd K mg "goes_so" s_goes_so) (D_overlaid : Df P w K mg base "overlaid" ["loads", "lot"] 9 (spOverlaid K a)) (D_going : Df P w K mg base "going" ["loads", "spot", "much", "lot"] 8 (spGoing K a)) (D_without : Df P w K mg base "without" ["lot", "prop"] 1 (spWithout K)) :
    Df P w K mg base "goes_so" ["loads", "spot", "ahead", "lot", "row"] 10 (spGoes K a) := by
  refine df_mk G sc_goes_so (fun vs H Q E h => by obtain ⟨_, _, _, _, _, _, _, _, _, _, rfl, _⟩ := h; rfl) (fun _ _ _ _ _ _ us hl => match us, hl with | [_, _, _, _, _], _ => rfl) (fun f cdv A' outer sh H vs Q E hr h => ?_)
  obtain ⟨A, W, xv, av, v, rl, x, m, s, row, rfl, L, fx, zx, om, zm, hv, lt, hrl, er, k⟩ := h
  refine ⟨_, (pss_cons (ps_for PassesOwn.never rfl (pi_list (pv 4)) (pg_name (i := 5) sc_goes_so.nd rfl (by first | exact Or.inl rfl | exact Or.inr rfl))
    (pss_cons (ps_set (i := 6) sc_goes_so.nd rfl (by first | exact Or.inl rfl | exact Or.inr rfl) (pe_ifExp (pt_cmpR op_isN (pv 2) pe_non (nomark _)) (pcall D_overlaid hr (by decide) (by rfl) (pa_cons (pv 0) (pa_cons (pv 3) pa_nil))) (pcall D_going hr (by decide) (by rfl) (pa_cons (pv 0) (pa_cons (pv 1) (pa_cons (pv 2) (pa_cons (pv 3) pa_nil)))))))
      (pss_cons (ps_if (pt_cmpR (r := rIn K true) op_notIn_seq (pv 5) (pv 6) (by rfl))
      (pss_one (ps_ret pe_non))
      pss_nil)
      (pss_one (ps_set (i := 3) sc_goes_so.nd rfl (by first | exact Or.inl rfl | exact Or.inr rfl) (pcall D_without hr (by decide) (by rfl) (pa_cons (pv 3) (pa_cons (pv 5) pa_nil))))))))
    (pss_cons (ps_set (i := 6) sc_goes_so.nd rfl (by first | exact Or.inl rfl | exact Or.inr rfl) (pe_ifExp (pt_cmpR op_isN (pv 2) pe_non (nomark _)) (pcall D_overlaid hr (by decide) (by rfl) (pa_cons (pv 0) (pa_cons (pv 3) pa_nil))) (pcall D_going hr (by decide) (by rfl) (pa_cons (pv 0) (pa_cons (pv 1) (pa_cons (pv 2) (pa_cons (pv 3) pa_nil)))))))
    (pss_one (ps_ret (pe_ifExp (pt_cmpR (op_eqD hr.units) (pv 6) (pe_lst pa_nil) (nomark _)) (pv 3) pe_non))))), ?_⟩
  refine ⟨_, rfl, _, rfl, ⟨_, SqL.of hrl⟩, for_list (K := K) (a := rl) (xs := row.map V.int) (fun i σ H' => ∃ v' s' x5 x6, σ = [some (.ref A.p), some xv, some av, some v', some (.ref rl), x5, x6] ∧ Rn K a A W H H' ∧ LotV K H' v' s' ∧ Lot (W.n : Int) s' ∧ (settle (W.Fm x m) W.n s').1 = row.drop i ∧ (settle (W.Fm x m) W.n s').2 = (settle (W.Fm x m) W.n s).2)
    ⟨v, s, _, _, rfl, Rn.refl L, hv, lt, er.symm, rfl⟩ (fun i σ H' _ I => by obtain ⟨_, _, _, _, _, I, _⟩ := I; exact SqL.of (L.lst I.x hrl)) (fun i y σ H' hy I => ?_) (fun σ H' I => ?_)⟩
  · obtain ⟨v', s', x5, x6, rfl, I, hv', lt', e1, e2⟩ := I
    rw [List.getElem?_map] at hy
    obtain ⟨p, hp, rfl⟩ := Option.map_eq_some_iff.mp hy
    obtain ⟨hi, ep⟩ := List.getElem?_eq_some_iff.mp hp
    rw [List.drop_eq_getElem_cons hi, ep] at e1
    have hb : ∃ rest, bad (W.Fm x m) W.n s' = p :: rest := by
      cases hb : bad (W.Fm x m) W.n s' with
      | nil => rw [settle_nil hb] at e1; cases e1
      | cons q rest =>
        rw [settle_cons hb] at e1
        have := (List.cons.inj e1).1
        exact ⟨rest, by rw [this]⟩
    obtain ⟨rest, hb⟩ := hb
    rw [settle_cons hb] at e1 e2
    have e1' := (List.cons.inj e1).2
    refine pick (A := A) (m := m) (s := s') rfl rfl rfl rfl I.l (fx.keep I.keep) zx (om.keep I.keep) zm hv' lt' fun H1 l x1 L1 f1 el => ?_
    have I1 := I.go x1 L1
    refine ⟨_, rfl, _, rfl, l, _, rfl, .inl (SqL.of el), rfl, flat_ints _, _, rfl, ?_⟩
    rw [inV_ints, decide_eq_true (show p ∈ bad (W.Fm x m) W.n s' by rw [hb]; exact List.mem_cons_self)]
    refine iteF ?_
    have l12 := lot12 lt'
    have n12 := L.r.ok.n12
    refine ⟨_, rfl, _, rfl, v', s', p, rfl, hv'.keep (I.l.keep x1), by omega, fun H2 v2 s2 hv2 => ?_⟩
    exact ⟨v2, wo s' p, _, _, rfl, I1.same s2, hv2, lt'.wo p, e1', e2⟩
  · obtain ⟨v', s', x5, x6, rfl, I, hv', lt', e1, e2⟩ := I
    rw [List.length_map, List.drop_length] at e1
    have hb : bad (W.Fm x m) W.n s' = [] := by
      cases hb : bad (W.Fm x m) W.n s' with
      | nil => rfl
      | cons q rest => rw [settle_cons hb] at e1; cases e1
    refine pick (A := A) (m := m) (s := s') rfl rfl rfl rfl I.l (fx.keep I.keep) zx (om.keep I.keep) zm hv' lt' fun H1 l x1 L1 f1 el => ?_
    have I1 := I.go x1 L1
    rw [hb] at el
    refine ⟨_, rfl, by decide, fun q hq => eq_nil (s := []) (SqL.of ?_) (SqL.of upd_same) ⟨_, rfl, ?_⟩⟩
    · rw [upd_ne (ne_of_none el hq)]; exact el
    have sq := same_new (o := .lst []) hq
    refine iteT ⟨_, rfl, ?_⟩
    rw [settle_nil hb] at e2
    have I2 := I1.same sq
    refine k _ _ I2.x I2.l ?_
    rw [← e2]
    exact (hv'.keep (I.l.keep x1)).same sq
end Pf
end

section
namespace Pf
open PySem PySem.Spec PyProof.Rows L2
variable {P : Program} {w : World} {K : PySem.W.Frag} {mg : Str → Option Value} {base : Heap} {a : Ad}
theorem settle_lot {F : Fail} {n : Int} (s : List Int) : Lot n s → Lot n (settle F n s).2 := by
  refine settle_ind (F := F) (n := n) (P := fun s => Lot n s → Lot n (settle F n s).2) (fun s ih lt => ?_) s
  cases hb : bad F n s with
  | nil => rw [settle_nil hb]; exact lt
  | cons p rest => rw [settle_cons hb]; exact ih p rest hb (lt.wo p)
theorem settle_sub {F : Fail} {n : Int} (s : List Int) : ∀ p ∈ (settle F n s).1, p ∈ s := by
  refine settle_ind (F := F) (n := n) (P := fun s => ∀ p ∈ (settle F n s).1, p ∈ s) (fun s ih p hp => ?_) s
  cases hb : bad F n s with
  | nil => rw [settle_nil hb] at hp; cases hp
  | cons q rest =>
    rw [settle_cons hb] at hp
    rcases List.mem_cons.mp hp with e | hp
    · rw [e]; exact bad_sub (F := F) (n := n) (by rw [hb]; exact List.mem_cons_self)
    · exact (mem_wo.mp (ih q rest hb p hp)).1
theorem settle_nodup {F : Fail} {n : Int} (s : List Int) : (settle F n s).1.Nodup := by
  refine settle_ind (F := F) (n := n) (P := fun s => (settle F n s).1.Nodup) (fun s ih => ?_) s
  cases hb : bad F n s with
  | nil => rw [settle_nil hb]; exact List.nodup_nil
  | cons q rest =>
    rw [settle_cons hb]
    exact List.nodup_cons.mpr ⟨fun z => (mem_wo.mp (settle_sub _ q z)).2 rfl, ih q rest hb⟩
theorem eqv_fro {x y : Rat} : PyData.eqv (frD x) (frD y) = decide (x = y) := eqv_fr x y
def spIsPart (K : PySem.W.Frag) (a : Ad) : Sp := fun vs H Q _ => ∃ (A : LdA) (W : Wd) (xv av v r : V) (F : Addr) (H0 : Hp) (x : Rat) (m : Option Rat) (s row s2 : List Int), vs = [.ref A.p, xv, av, v, r] ∧ Ld K a H A W ∧ Fr K H xv x ∧ Sz 128 x ∧ OV K H av m ∧ (∀ u, m = some u → Sz 3901 u) ∧ LotV K H v s ∧ Lot (W.n : Int) s ∧
  settle (W.Fm x m) W.n s = (row, s2) ∧ Pt K F H0 H r (row, s2, most W.sp (W.hs x) W.n s2) ∧ ∀ H', Ext A H H' → Ld K a H' A W → Q (.bl true) H'
abbrev N_is_part : List Str := ["loads", "spot", "ahead", "lot", "thing", "due"]
theorem sc_is_part : FnScope N_is_part ["loads", "spot", "ahead", "lot", "thing"] (defScope s_is_part) := ⟨rfl, rfl, rfl, by decide +kernel, rfl, by decide +kernel, by decide +kernel⟩
theorem ok_is_part (G : Gd K mg "is_part" s_is_part) (B : Bt mg) (C : Ct K mg a) (D_are_unlike_props : Df P w K mg base "are_unlike_props" ["lot", "thing"] 2 (spUnlike K)) (D_goes_so : Df P w K mg base "goes_so" ["loads", "spot", "ahead", "lot", "row"] 10 (spGoes K a))
    (D_is_lot : Df P w K mg base "is_lot" ["plank", "thing"] 2 (spIsLot K a)) (D_most_at : Df P w K mg base "most_at" ["loads", "spot", "lot"] 8 (spMost K a)) (D_is_fraction : Df P w K mg base "is_fraction" ["thing"] 2 (spIsFr K)) :
    Df P w K mg base "is_part" ["loads", "spot", "ahead", "lot", "thing"] 11 (spIsPart K a) := by
  refine df_mk G sc_is_part (fun vs H Q E h => by obtain ⟨_, _, _, _, _, _, _, _, _, _, _, _, _, rfl, _⟩ := h; rfl) (fun _ _ _ _ _ _ us hl => match us, hl with | [_, _, _, _, _], _ => rfl) (fun f cdv A' outer sh H vs Q E hr h => ?_)
  obtain ⟨A, W, xv, av, v, r, F, H0, x, m, s, row, s2, rfl, L, fx, zx, om, zm, hv, lt, es, pt, k⟩ := h
  have n12 := L.r.ok.n12
  have e1 : (settle (W.Fm x m) W.n s).1 = row := by rw [es]
  have e2 : (settle (W.Fm x m) W.n s).2 = s2 := by rw [es]
  have sub : ∀ p ∈ row, p ∈ s := by rw [← e1]; exact settle_sub s
  have nd : row.Nodup := by rw [← e1]; exact settle_nodup s
  have lt2 : Lot (W.n : Int) s2 := by rw [← e2]; exact settle_lot s lt
  have ls := lot12 lt
  have lr := nodup_le nd sub
  have ls2 := lot12 lt2
  obtain ⟨t, rl, lv, mv, rfl, g1, g2, g3, g4, g5, g6, g7⟩ := id pt
  refine ⟨_, (pss_cons (ps_if (PW.pt (pw_or (pt_not (pt_val (pe_callB call_isi (by rfl) B.isinstance (by decide +kernel) (pa_cons (pv 4) (pa_cons (pe_bltn (v := .ty "tuple") (by rfl) B.tuple (by decide +kernel) rfl) pa_nil))))) (pw_or (pt_cmpR op_ne (pe_callB call_len_seq (by rfl) B.len (by decide +kernel) (pa_cons (pv 4) pa_nil)) pe_int (nomark _)) (pw_or1 (pt_not (pt_val (pcall D_are_unlike_props hr (by decide) (by rfl) (pa_cons (pv 3) (pa_cons (pe_ix (r := rIxT K) ix_tup (pv 4) pe_int (fun _ _ => rfl)) pa_nil)))))))))
    (pss_one (ps_ret pe_bl))
    pss_nil)
    (pss_cons (ps_if (PW.pt (pw_or (pt_not (pt_val (pcall D_is_lot hr (by decide) (by rfl) (pa_cons (pe_fld (pv 0) rfl) (pa_cons (pe_ix (r := rIxT K) ix_tup (pv 4) pe_int (fun _ _ => rfl)) pa_nil))))) (pw_or1 (pt_cmpR (op_neD hr.units) (pcall D_goes_so hr (by decide) (by rfl) (pa_cons (pv 0) (pa_cons (pv 1) (pa_cons (pv 2) (pa_cons (pv 3) (pa_cons (pe_ix (r := rIxT K) ix_tup (pv 4) pe_int (fun _ _ => rfl)) pa_nil)))))) (pe_ix (r := rIxT K) ix_tup (pv 4) pe_int (fun _ _ => rfl)) (nomark _)))))
    (pss_one (ps_ret pe_bl))
    pss_nil)
    (pss_cons (ps_set (i := 5) sc_is_part.nd rfl (by first | exact Or.inl rfl | exact Or.inr rfl) (pcall D_most_at hr (by decide) (by rfl) (pa_cons (pv 0) (pa_cons (pv 1) (pa_cons (pe_ix (r := rIxT K) ix_tup (pv 4) pe_int (fun _ _ => rfl)) pa_nil)))))
    (pss_one (ps_ret (pe_ifExp (pt_cmpR op_isN (pv 5) pe_non (nomark _)) (pe_cmpR op_isN (pe_ix (r := rIxT K) ix_tup (pv 4) pe_int (fun _ _ => rfl)) pe_non (nomark _)) (pe_and (pcall D_is_fraction hr (by decide) (by rfl) (pa_cons (pe_ix (r := rIxT K) ix_tup (pv 4) pe_int (fun _ _ => rfl)) pa_nil)) (pe_one (pe_cmpR (op_eqD hr.units) (pe_ix (r := rIxT K) ix_tup (pv 4) pe_int (fun _ _ => rfl)) (pv 5) (nomark _)))))))))), ?_⟩
  refine ⟨_, rfl, _, _, .type "tuple", _, true, rfl, .ty "tuple", tyx_tup g1, kit_ty (by decide +kernel), _, rfl, ?_⟩
  refine iteF ⟨_, rfl, _, _, rfl, .inr g1, rfl, _, rfl, ?_⟩
  refine iteF ⟨_, rfl, _, rfl, _, _, _, _, rfl, rfl, g1, rfl, v, s, rl, row, rfl, hv, SqL.of g4, nd, sub, by omega, fun H1 s1 => ⟨_, rfl, ?_⟩⟩
  refine iteF ?_
  have L1 := L.same s1
  have R1 : Rn K a A W H H1 := (Rn.refl L).same s1
  have g11 := sqt_same s1 g1
  refine ⟨_, rfl, A.p, _, _, _, _, rfl, L1.r.ob, C.clL, C.nLp, lk_plank, _, rfl, _, _, _, _, rfl, rfl, g11, rfl, _, W, lv, s2, rfl, L1.r.pk, g5.same s1, lt2, by omega, fun H2 s2' => ⟨_, rfl, ?_⟩⟩
  have R2 := R1.same s2'
  have g12 := sqt_keep R2.keep g1
  refine iteF ⟨_, rfl, _, rfl, _, rfl, _, rfl, _, rfl, _, _, _, _, rfl, rfl, g12, rfl, A, W, xv, av, v, rl, x, m, s, row, rfl, R2.l, fx.keep R2.keep, zx, om.keep R2.keep, zm, hv.keep R2.keep, lt, L.lst R2.x g4, e1.symm, fun H3 v3 x3 L3 hv3 => ?_⟩
  have R3 := R2.go x3 L3
  have g13 := sqt_keep R3.keep g1
  rw [e2] at hv3
  refine ⟨_, rfl, _, _, _, _, rfl, rfl, g13, rfl, _, _, dp_lot hv3, dp_lot (g5.keep R3.keep), shaped_lot _, shaped_lot _, _, rfl, ?_⟩
  rw [eqv_lots, decide_eq_true rfl]
  refine iteF ⟨_, rfl, _, rfl, _, rfl, _, _, _, _, rfl, rfl, g13, rfl, A, W, xv, lv, x, s2, rfl, R3.l, fx.keep R3.keep, zx, g5.keep R3.keep, lt2, fun H4 dv x4 L4 od zd => ?_⟩
  have R4 := R3.go x4 L4
  have g14 := sqt_keep R4.keep g1
  have om4 := g6.keep R4.keep
  refine ⟨_, rfl, rfl, _, rfl, ?_⟩
  generalize most W.sp (W.hs x) W.n s2 = mm at od om4 zd
  have om4 : OV K H4 mv mm := om4
  cases mm with
  | none =>
    have ed : dv = V.non := od
    have em : mv = V.non := om4
    rw [ed]
    refine iteT ⟨_, rfl, _, _, _, _, rfl, rfl, g14, rfl, rfl, ?_⟩
    rw [em]
    exact k _ R4.x R4.l
  | some u =>
    obtain ⟨pd, rfl, _⟩ := id od
    refine iteF ⟨_, rfl, _, _, _, _, rfl, rfl, g14, rfl, mv, u, rfl, om4, fun H5 s5 => ⟨_, rfl, ?_⟩⟩
    have g15 := sqt_same s5 g14
    refine iteT ⟨_, rfl, _, _, _, _, rfl, rfl, g15, rfl, _, rfl, _, _, dp_fr (Fr.same s5 om4), dp_fr (Fr.same s5 od), shaped_fr _, shaped_fr _, ?_⟩
    rw [eqv_fr, decide_eq_true rfl]
    exact k _ (R4.same s5).x (R4.same s5).l
end Pf
end

section
namespace Pf
open PySem PySem.Spec PyProof.Rows L2
variable {P : Program} {w : World} {K : PySem.W.Frag} {mg : Str → Option Value} {base : Heap} {a : Ad}
theorem parts_head {sp hs : Int → Int → Int → Rat} {n : Nat} {row s : List Int} (N : Nums n sp hs) (hl : Lot (n : Int) s) :
    ∃ rest, parts sp hs n row s = (row, s, most sp hs n s) :: rest ∧ ((most sp hs n s = none ∧ rest = []) ∨ ∃ u, most sp hs n s = some u ∧ rest = parts sp hs n (settle (Gu sp hs u) n s).1 (settle (Gu sp hs u) n s).2) := by
  cases h : most sp hs n s with
  | none => exact ⟨[], parts_none h, .inl ⟨rfl, rfl⟩⟩
  | some u => exact ⟨_, parts_some N hl h, .inr ⟨u, rfl, rfl⟩⟩
/-! ### parts as data -/
/-- a part, wherever it stands -/
def Pw (K : PySem.W.Frag) (H : Hp) (r : V) (q : Part) : Prop := ∃ t rl lv mv, r = .ref t ∧ SqT K H t [.ref rl, lv, mv] ∧ SqL K H rl (q.1.map V.int) ∧ LotV K H lv q.2.1 ∧ OV K H mv q.2.2
theorem Pt.pw {F : Addr} {H0 H : Hp} {r : V} {q : Part} (h : Pt K F H0 H r q) : Pw K H r q := by
  obtain ⟨t, rl, lv, mv, rfl, h1, h2, h3, h4, h5, h6, h7⟩ := h
  exact ⟨t, rl, lv, mv, rfl, h1, SqL.of h4, h5, h6⟩
theorem Pw.same {H H' : Hp} {r : V} {q : Part} (s : Same H H') (h : Pw K H r q) : Pw K H' r q := by
  obtain ⟨t, rl, lv, mv, rfl, h1, h2, h3, h4⟩ := h
  exact ⟨t, rl, lv, mv, rfl, sqt_same s h1, sql_same s h2, h3.same s, h4.keep (Same.keep s)⟩
def ovD : Option Rat → PyData
  | none => .none
  | some u => frD u
def partD (q : Part) : PyData := .tuple [.list (q.1.map PyData.int), .tuple (q.2.1.map PyData.int), ovD q.2.2]
theorem dp_ov {H : Hp} {v : V} {m : Option Rat} (h : OV K H v m) : Dp K H v (ovD m) := by
  cases m with
  | none =>
    have e : v = V.non := h
    rw [e]
    exact .non
  | some u => exact dp_fr h
theorem dp_part {H : Hp} {r : V} {q : Part} (h : Pw K H r q) : Dp K H r (partD q) := by
  obtain ⟨t, rl, lv, mv, rfl, h1, h2, h3, h4⟩ := h
  exact .tup h1 (.cons (dp_lst h2) (.cons (dp_lot h3) (.cons (dp_ov h4) .nil)))
theorem dpa_parts {H : Hp} : ∀ {rs : List V} {qs : List Part}, Paired (Pw K H) rs qs → DpAll K H rs (qs.map partD)
  | _, _, .nil => .nil
  | _, _, .cons h t => .cons (dp_part h) (dpa_parts t)
theorem lay_ov (m : Option Rat) : PyData.canLay0 (ovD m) = true := by
  cases m with
  | none => simp [ovD, PyData.canLay0]
  | some u => simp [ovD, frD, PyData.canLay0, PyData.canLayAll0]
theorem dep_ov (m : Option Rat) : PyData.depth (ovD m) ≤ 2 := by
  cases m with
  | none => simp [ovD, PyData.depth]
  | some u => simp [ovD, frD, PyData.depth, PyData.depthAll]
theorem lay_parts : ∀ qs : List Part, PyData.canLayAll0 (qs.map partD) = true
  | [] => by simp [PyData.canLayAll0]
  | q :: qs => by
    rw [List.map_cons, PyData.canLayAll0, lay_parts qs]
    simp [PyData.canLay0, partD, PyData.canLayAll0, lay_ints, lay_ov]
theorem dep_part (q : Part) : PyData.depth (partD q) ≤ 5 := by
  have h1 := dep_ints q.1
  have h2 := dep_ints q.2.1
  have h3 := dep_ov q.2.2
  simp [partD, PyData.depth, PyData.depthAll]
  omega
theorem dep_parts : ∀ qs : List Part, PyData.depthAll (qs.map partD) ≤ 5
  | [] => by simp [PyData.depthAll]
  | q :: qs => by
    rw [List.map_cons, PyData.depthAll]
    have := dep_parts qs
    have := dep_part q
    omega
theorem eqv_ov (x y : Option Rat) : PyData.eqv (ovD x) (ovD y) = decide (x = y) := by
  cases x with
  | none => cases y with
    | none => simp [ovD, PyData.eqv]
    | some v => simp [ovD, frD, PyData.eqv]
  | some u => cases y with
    | none => simp [ovD, frD, PyData.eqv]
    | some v =>
      have := eqv_fr u v
      simp only [ovD]
      rw [this]
      simp
theorem eqv_part (x y : Part) : PyData.eqv (partD x) (partD y) = decide (x = y) := by
  obtain ⟨r, s, m⟩ := x
  obtain ⟨r', s', m'⟩ := y
  simp only [partD, PyData.eqv, PyData.eqvAll, eqva_ints, eqv_ov, Bool.and_true]
  by_cases h1 : r = r'
  · by_cases h2 : s = s'
    · by_cases h3 : m = m'
      · simp [h1, h2, h3]
      · simp [h3]
    · simp [h2]
  · simp [h1]
theorem eqva_parts : ∀ s t : List Part, PyData.eqvAll (s.map partD) (t.map partD) = decide (s = t)
  | [], [] => by simp [PyData.eqvAll]
  | [], _ :: _ => by simp [PyData.eqvAll]
  | _ :: _, [] => by simp [PyData.eqvAll]
  | x :: s, y :: t => by
    rw [List.map_cons, List.map_cons, PyData.eqvAll, eqv_part, eqva_parts s t]
    by_cases h : x = y
    · subst h; simp
    · simp [h]
theorem dp_parts {H : Hp} {l : Addr} {rs : List V} {qs : List Part} (h : SqL K H l rs) (p : Paired (Pw K H) rs qs) : Dp K H (.ref l) (.list (qs.map partD)) := .lst h (dpa_parts p)
theorem shaped_parts (qs : List Part) : SeqAt.shaped (.list (qs.map partD)) = true := shaped_lst (lay_parts qs) (by have := dep_parts qs; omega)
theorem eqv_parts (x y : List Part) : PyData.eqv (.list (x.map partD)) (.list (y.map partD)) = decide (x = y) := by rw [PyData.eqv]; exact eqva_parts x y
def spIsFurther (K : PySem.W.Frag) (a : Ad) : Sp := fun vs H Q _ => ∃ (p l t F : Addr) (W : Wd) (refs rs : List V) (xv : V) (x : Rat) (H0 : Hp), vs = [.ref p, .ref l, xv, .ref t] ∧ Plk K a H p W ∧ W.Ok ∧ SqL K H l refs ∧ Paired (Wt K H) refs W.hv ∧ Fr K H xv x ∧ Spt W x ∧
  H t = some (.lst rs) ∧ Paired (Pt K F H0 H) rs (W.told x) ∧ ∀ H', Same H H' → Q (.bl true) H'
abbrev N_is_further : List Str := ["plank", "weights", "place", "thing", "loads", "lot", "ahead", "at", "part"]
theorem sc_is_further : FnScope N_is_further ["plank", "weights", "place", "thing"] (defScope s_is_further) := ⟨rfl, rfl, rfl, by decide +kernel, rfl, by decide +kernel, by decide +kernel⟩
theorem ok_is_further (G : Gd K mg "is_further" s_is_further) (B : Bt mg) (D_loads_of : Df P w K mg base "loads_of" ["plank", "weights"] 7 (spLoadsOf K a)) (D_check_spot : Df P w K mg base "check_spot" ["plank", "thing"] 5 (spCheckSpot K a)) (D_lot_of : Df P w K mg base "lot_of" ["plank", "lot"] 3 (spLotOf K a))
    (D_is_part : Df P w K mg base "is_part" ["loads", "spot", "ahead", "lot", "thing"] 11 (spIsPart K a)) : Df P w K mg base "is_further" ["plank", "weights", "place", "thing"] 12 (spIsFurther K a) := by
  refine df_mk G sc_is_further (fun vs H Q E h => by obtain ⟨_, _, _, _, _, _, _, _, _, _, rfl, _⟩ := h; rfl) (fun _ _ _ _ _ _ us hl => match us, hl with | [_, _, _, _], _ => rfl) (fun f cdv A' outer sh H vs Q E hr h => ?_)
  obtain ⟨p, l, t, F, W, refs, rs, xv, x, H0, rfl, pk, o, hl, hw, fx, sx, ht, pt, k⟩ := h
  have N := o.nums x
  refine ⟨_, (pss_cons (ps_set (i := 4) sc_is_further.nd rfl (by first | exact Or.inl rfl | exact Or.inr rfl) (pcall D_loads_of hr (by decide) (by rfl) (pa_cons (pv 0) (pa_cons (pv 1) pa_nil))))
    (pss_cons (ps_expr (pcall D_check_spot hr (by decide) (by rfl) (pa_cons (pv 0) (pa_cons (pv 2) pa_nil))))
    (pss_cons (ps_if (PW.pt (pw_or (pt_not (pt_val (pe_callB call_isi (by rfl) B.isinstance (by decide +kernel) (pa_cons (pv 3) (pa_cons (pe_bltn (v := .ty "list") (by rfl) B.list_ (by decide +kernel) rfl) pa_nil))))) (pw_or1 (pt_cmpR (op_eqD hr.units) (pv 3) (pe_lst pa_nil) (nomark _)))))
    (pss_one (ps_ret pe_bl))
    pss_nil)
    (pss_cons (ps_par (i := 5) (j := 6) (by rfl) sc_is_further.nd rfl rfl (by decide) rfl rfl (pa_cons (pcall D_lot_of hr (by decide) (by rfl) (pa_cons (pv 0) (pa_cons pe_non pa_nil))) (pa_cons pe_non pa_nil)) (by rfl))
    (pss_cons (ps_for PassesOwn.never rfl (pi_enum (by rfl) B.enumerate (pa_cons (pv 3) pa_nil)) (pg_tup (by rfl) (pgs_cons (pg_name (i := 7) sc_is_further.nd rfl (by first | exact Or.inl rfl | exact Or.inr rfl)) (pgs_cons (pg_name (i := 8) sc_is_further.nd rfl (by first | exact Or.inl rfl | exact Or.inr rfl)) pgs_nil)))
    (pss_cons (ps_if (PW.pt (pw_or (PW.pt (pw_and (pt_cmpR op_gt (pv 7) pe_int (nomark _)) (pw_and1 (pt_cmpR op_isN (pv 6) pe_non (nomark _))))) (pw_or1 (pt_not (pt_val (pcall D_is_part hr (by decide) (by rfl) (pa_cons (pv 4) (pa_cons (pv 2) (pa_cons (pv 6) (pa_cons (pv 5) (pa_cons (pv 8) pa_nil)))))))))))
      (pss_one (ps_ret pe_bl))
      pss_nil)
      (pss_one (ps_par (i := 5) (j := 6) (by rfl) sc_is_further.nd rfl rfl (by decide) rfl rfl (pa_cons (pe_ix (r := rIxT K) ix_tup (pv 8) pe_int (fun _ _ => rfl)) (pa_cons (pe_ix (r := rIxT K) ix_tup (pv 8) pe_int (fun _ _ => rfl)) pa_nil)) (by rfl)))))
    (pss_one (ps_ret (pe_cmpR op_isN (pv 6) pe_non (nomark _))))))))), ?_⟩
  refine ⟨_, rfl, _, rfl, p, l, W, refs, rfl, pk, o, hl, hw, fun H1 A s1 ep L1 fk fv => ?_⟩
  subst ep
  refine ⟨_, rfl, _, rfl, _, W, xv, x, rfl, L1.r.pk, o, fx.same s1, sx, fun H2 s2 => ?_⟩
  have s12 := s1.trans s2
  have L2' := L1.same s2
  have ht2 := s12 _ _ ht
  refine ⟨_, rfl, _, _, .type "list", _, true, rfl, .ty "list", tyx_lst (SqL.of ht2), kit_ty (by decide +kernel), _, rfl, ?_⟩
  have Pw : Rn K a A W H2 H2 := Rn.refl L2'
  have pt2 : Paired (Pt K F H0 H2) rs (W.told x) := Paired.mapP pt fun _ _ z => by
    obtain ⟨t', rl, lv, mv, rfl, h1, h2, h3, h4, h5, h6, h7⟩ := z
    exact ⟨t', rl, lv, mv, rfl, sqt_same s12 h1, h2, h3, s12 _ _ h4, h5.same s12, h6.keep (Same.keep s12), h7⟩
  obtain ⟨rest0, ph0, _⟩ := parts_head (row := (settle W.F0 W.n (allP W.n)).1) N (settle_lot (F := W.F0) _ (allP_lot W.n))
  refine iteF ⟨_, rfl, by decide, fun q hq => ?_⟩
  have sq := same_new (o := .lst []) hq
  refine ⟨_, _, dp_parts (SqL.of (sq _ _ ht2)) (Paired.mapP pt2 fun _ _ z => z.pw.same sq), .lst (SqL.of upd_same) .nil, shaped_parts _, shaped_lst (ds := []) (by simp [PyData.canLayAll0]) (by simp [PyData.depthAll]), _, rfl, ?_⟩
  have e0 := eqv_parts (W.told x) []
  rw [show ([] : List Part).map partD = [] from rfl, decide_eq_false (show W.told x ≠ [] by rw [Wd.told, ph0]; exact fun z => by cases z)] at e0
  rw [e0]
  have ht3 := sq _ _ ht2
  have R3 := Pw.same sq
  have pt3 : Paired (Pt K F H0 (upd H2 q (.lst []))) rs (W.told x) := Paired.mapP pt2 fun _ _ z => z.rn R3
  have s13 := s12.trans sq
  generalize upd H2 q (.lst []) = H3 at R3 pt3 s13 ht3
  refine iteF ⟨_, rfl, _, W, rfl, R3.l.r.pk, o.n12, fun H4 lv s4 hlv => ?_⟩
  have R4 := R3.same s4
  have ht4 := s4 _ _ ht3
  have pt4 : Paired (Pt K F H0 H4) rs (W.told x) := Paired.mapP pt3 fun _ _ z => z.rn ((Rn.refl R3.l).same s4)
  refine ⟨_, _, rfl, _, rfl, t, rs, rfl, SqL.of ht4, for_it (walk_enum (K := K) (a := t) (xs := rs)) (fun i σ H' => ∃ lotv av s m x7 x8, σ = [some (.ref A.pl), some (.ref l), some xv, some (.ref t), some (.ref A.p), some lotv, some av, x7, x8] ∧ Rn K a A W H4 H' ∧ LotV K H' lotv s ∧ Lot (W.n : Int) s ∧ OV K H' av m ∧ (∀ u, m = some u → Sz 3901 u) ∧
    (((W.told x).drop i = parts W.sp (W.hs x) W.n (settle (W.Fm x m) W.n s).1 (settle (W.Fm x m) W.n s).2 ∧ (0 < i → m ≠ none)) ∨ ((W.told x).drop i = [] ∧ m = none)))
    ⟨lv, .non, allP W.n, none, _, _, rfl, Rn.refl R4.l, hlv, allP_lot _, rfl, (fun _ z => nomatch z), .inl ⟨rfl, fun z => absurd z (by omega)⟩⟩ (fun i σ H' _ I => by obtain ⟨_, _, _, _, _, _, _, I, _⟩ := I; exact SqL.of (R4.l.lst I.x ht4)) (fun i y σ H' H5 hi I hy => ?_) (fun σ H' I => ?_)⟩
  · obtain ⟨lotv, av, s, m, x7, x8, rfl, I, hv, lt, om, zm, I2⟩ := I
    obtain ⟨T, u, z, rfl, hT, rfl, hu, hz⟩ := hy
    cases hu
    have hz : rs[i]? = some z := hz
    obtain ⟨q, hq, pq⟩ := Paired.get? pt4 hz
    obtain ⟨hqi, eq⟩ := List.getElem?_eq_some_iff.mp hq
    have ed := List.drop_eq_getElem_cons hqi
    rw [eq] at ed
    have ⟨I3, I4⟩ : (W.told x).drop i = parts W.sp (W.hs x) W.n (settle (W.Fm x m) W.n s).1 (settle (W.Fm x m) W.n s).2 ∧ (0 < i → m ≠ none) := by
      rcases I2 with I2 | ⟨I2, _⟩
      · exact I2
      · rw [I2] at ed; cases ed
    have lt2 := settle_lot (F := W.Fm x m) _ lt
    obtain ⟨rest, ph, ph2⟩ := parts_head (row := (settle (W.Fm x m) W.n s).1) N lt2
    rw [I3, ph] at ed
    obtain ⟨eq1, er⟩ := List.cons.inj ed
    have pq' : Pt K F H0 H' z ((settle (W.Fm x m) W.n s).1, (settle (W.Fm x m) W.n s).2, most W.sp (W.hs x) W.n (settle (W.Fm x m) W.n s).2) := by rw [eq1]; exact pq.rn I
    have sT := same_new (o := .tup [V.int (i : Nat), z]) hT
    have I5 := I.same sT
    have pq5 := pq'.rn ((Rn.refl I.l).same sT)
    have kp5 := Same.keep sT
    refine ⟨T, _, rfl, SqT.of upd_same, rfl, _, _, rfl, _, _, rfl, rfl, ?_⟩
    generalize upd H' T (.tup [V.int (i : Nat), z]) = H5 at I5 pq5 kp5
    have tail : ∀ Q' : VK, (∀ H6, Ext A H5 H6 → Ld K a H6 A W → Q' (.bl true) H6) → tCall (spIsPart K a) [] E0 (tCons (tVar 4) (tCons (tVar 2) (tCons (tVar 6) (tCons (tVar 5) (tCons (tVar 8) tNil)))))
        (([some (V.ref A.pl), some (V.ref l), some xv, some (V.ref t), some (V.ref A.p), some lotv, some av, x7, x8].set 7 (some (V.int (i : Nat)))).set 8 (some z)) H5 Q' := fun Q' k' =>
      ⟨_, rfl, _, rfl, _, rfl, _, rfl, _, rfl, A, W, xv, av, lotv, z, F, H0, x, m, s, _, _, rfl, I5.l, (fx.same s13).keep ((Same.keep s4).trans I5.keep), sx.sz, om.keep kp5, zm, hv.keep kp5, lt, rfl, pq5, k'⟩
    obtain ⟨t', rl, lv', mv, rfl, g1, g2, g3, g4, g5, g6, g7⟩ := id pq5
    have fin : ∀ H6, Ext A H5 H6 → Ld K a H6 A W → ∃ lotv av s m x7 x8, ((([some (V.ref A.pl), some (V.ref l), some xv, some (V.ref t), some (V.ref A.p), some lotv, some av, x7, x8].set 7 (some (V.int (i : Nat)))).set 8 (some (V.ref t'))).set 5 (some lv')).set 6 (some mv) = [some (V.ref A.pl), some (V.ref l), some xv, some (V.ref t), some (V.ref A.p), some lotv, some av, x7, x8] ∧ Rn K a A W H4 H6 ∧ LotV K H6 lotv s ∧ Lot (W.n : Int) s ∧ OV K H6 av m ∧ (∀ u, m = some u → Sz 3901 u) ∧
        (((W.told x).drop (i + 1) = parts W.sp (W.hs x) W.n (settle (W.Fm x m) W.n s).1 (settle (W.Fm x m) W.n s).2 ∧ (0 < i + 1 → m ≠ none)) ∨ ((W.told x).drop (i + 1) = [] ∧ m = none)) := fun H6 x6 L6 => by
      have kp6 := I5.l.keep x6
      refine ⟨lv', mv, _, _, _, _, rfl, I5.go x6 L6, g5.keep kp6, lt2, g6.keep kp6, g7, ?_⟩
      rw [← er]
      rcases ph2 with ⟨p1, p2⟩ | ⟨u, p1, p2⟩
      · exact .inr ⟨p2, p1⟩
      · rw [p1]
        exact .inl ⟨p2, fun _ => fun z => nomatch z⟩
    have goal : ∀ H6, Ext A H5 H6 → Ld K a H6 A W → SqT K H6 t' [.ref rl, lv', mv] := fun H6 x6 L6 => sqt_keep (I5.l.keep x6) g1
    by_cases hi0 : 0 < i
    · refine ⟨_, rfl, _, _, rfl, rfl, _, rfl, ?_⟩
      rw [decide_eq_true (show (0 : Int) < (i : Nat) by omega)]
      refine iteT ⟨_, rfl, rfl, _, rfl, ?_⟩
      have na : decide (av = V.non) = false := by
        cases m with
        | none => exact absurd rfl (I4 hi0)
        | some u => obtain ⟨pp, rfl, _⟩ := om; rfl
      rw [na]
      refine iteF (tail _ fun H6 x6 L6 => ⟨_, rfl, iteF ?_⟩)
      have g := goal H6 x6 L6
      exact ⟨_, rfl, _, _, _, _, rfl, rfl, g, rfl, _, rfl, _, _, _, _, rfl, rfl, g, rfl, _, _, rfl, fin H6 x6 L6⟩
    · refine ⟨_, rfl, _, _, rfl, rfl, _, rfl, ?_⟩
      rw [decide_eq_false (show ¬ (0 : Int) < (i : Nat) by omega)]
      refine iteF (iteF (tail _ fun H6 x6 L6 => ⟨_, rfl, iteF ?_⟩))
      have g := goal H6 x6 L6
      exact ⟨_, rfl, _, _, _, _, rfl, rfl, g, rfl, _, rfl, _, _, _, _, rfl, rfl, g, rfl, _, _, rfl, fin H6 x6 L6⟩
  · obtain ⟨lotv, av, s, m, x7, x8, rfl, I, hv, lt, om, zm, I2⟩ := I
    rcases I2 with ⟨I2, _⟩ | ⟨_, I2⟩
    · rw [Paired.length pt4, List.drop_length] at I2
      obtain ⟨rest, ph, _⟩ := parts_head (row := (settle (W.Fm x m) W.n s).1) N (settle_lot (F := W.Fm x m) _ lt)
      rw [ph] at I2; cases I2
    · subst I2
      have e : av = V.non := om
      subst e
      refine ⟨_, rfl, rfl, ?_⟩
      exact k _ (ext_same (s13.trans s4) I.x fk fv)
end Pf
end

section
namespace Pf
open PySem PySem.Spec PyProof.Rows L2
variable {P : Program} {w : World} {K : PySem.W.Frag} {mg : Str → Option Value} {base : Heap} {a : Ad}
/-- the mosts of those parts where a prop still stands -/
abbrev stoodIn (p : Int) (qs : List Part) : List (Option Rat) := (qs.filter fun q => decide (p ∈ q.2.1)).map (·.2.2)
theorem stoodIn_snoc {p : Int} {qs : List Part} {i : Nat} {q : Part} (h : qs[i]? = some q) : stoodIn p (qs.take (i + 1)) = if p ∈ q.2.1 then stoodIn p (qs.take i) ++ [q.2.2] else stoodIn p (qs.take i) := by
  unfold stoodIn
  rw [List.take_add_one, h, List.filter_append, List.map_append]
  by_cases c : p ∈ q.2.1
  · rw [if_pos c]; simp [c]
  · rw [if_neg c]; simp [c]
theorem stoodIn_len {p : Int} {qs : List Part} : (stoodIn p qs).length ≤ qs.length := by
  unfold stoodIn
  rw [List.length_map]
  exact List.length_filter_le _ _
theorem paired_last {α β : Type} {F : α → β → Prop} : ∀ {ys : List α} {qs : List β} {m : β}, Paired F ys qs → qs.getLast? = some m → ∃ ys' v, ys = ys' ++ [v] ∧ F v m
  | _, _, _, .nil, h => by cases h
  | _, _, m, .cons (a := x) (b := y) r .nil, h => by
    have e : y = m := by simpa using h
    subst e
    exact ⟨[], x, rfl, r⟩
  | _, _, m, .cons (a := x) r (.cons r' t), h => by
    rw [List.getLast?_cons_cons] at h
    obtain ⟨ys', v, e, f⟩ := paired_last (.cons r' t) h
    exact ⟨x :: ys', v, by rw [e]; rfl, f⟩
def spFelled (K : PySem.W.Frag) (a : Ad) : Sp := fun vs H Q _ => ∃ (p l : Addr) (W : Wd) (refs : List V) (xv : V) (x : Rat) (pr : Int) (m : Option Rat), vs = [.ref p, .ref l, xv, .int pr] ∧ Plk K a H p W ∧ W.Ok ∧ SqL K H l refs ∧ Paired (Wt K H) refs W.hv ∧ Fr K H xv x ∧ Spt W x ∧
  pr ∈ (settle W.F0 W.n (allP W.n)).2 ∧ (stoodIn pr (W.told x)).getLast? = some m ∧ ∀ H' r, Same H H' → OV K H' r m → Q r H'
abbrev N_felled : List Str := ["plank", "weights", "place", "prop", "loads", "parts", "row", "lot", "most"]
theorem sc_felled : FnScope N_felled ["plank", "weights", "place", "prop"] (defScope s_felled) := ⟨rfl, rfl, rfl, by decide +kernel, rfl, by decide +kernel, by decide +kernel⟩
theorem ok_felled (G : Gd K mg "felled" s_felled) (D_loads_of : Df P w K mg base "loads_of" ["plank", "weights"] 7 (spLoadsOf K a)) (D_check_spot : Df P w K mg base "check_spot" ["plank", "thing"] 5 (spCheckSpot K a)) (D_falls_of : Df P w K mg base "falls_of" ["loads", "spot"] 11 (spFalls K a))
    (D_check_prop : Df P w K mg base "check_prop" ["lot", "thing"] 2 (spCheckProp K)) : Df P w K mg base "felled" ["plank", "weights", "place", "prop"] 12 (spFelled K a) := by
  refine df_mk G sc_felled (fun vs H Q E h => by obtain ⟨_, _, _, _, _, _, _, _, rfl, _⟩ := h; rfl) (fun _ _ _ _ _ _ us hl => match us, hl with | [_, _, _, _], _ => rfl) (fun f cdv A' outer sh H vs Q E hr h => ?_)
  obtain ⟨p, l, W, refs, xv, x, pr, m, rfl, pk, o, hl, hw, fx, sx, hp, hm, k⟩ := h
  have N := o.nums x
  refine ⟨_, (pss_cons (ps_set (i := 4) sc_felled.nd rfl (by first | exact Or.inl rfl | exact Or.inr rfl) (pcall D_loads_of hr (by decide) (by rfl) (pa_cons (pv 0) (pa_cons (pv 1) pa_nil))))
    (pss_cons (ps_expr (pcall D_check_spot hr (by decide) (by rfl) (pa_cons (pv 0) (pa_cons (pv 2) pa_nil))))
    (pss_cons (ps_set (i := 5) sc_felled.nd rfl (by first | exact Or.inl rfl | exact Or.inr rfl) (pcall D_falls_of hr (by decide) (by rfl) (pa_cons (pv 4) (pa_cons (pv 2) pa_nil))))
    (pss_cons (ps_expr (pcall D_check_prop hr (by decide) (by rfl) (pa_cons (pe_ix (r := rIxT K) ix_tup (pe_ix (r := rIxL K) ix_list (pv 5) pe_int (fun _ _ => rfl)) pe_int (fun _ _ => rfl)) (pa_cons (pv 3) pa_nil))))
    (pss_one (ps_ret (pe_ix (r := rIxL K) ix_list (pe_lc (own := [("row", 6), ("lot", 7), ("most", 8)]) (g := gTup K 3 (gCons (gName 6) (gCons (gName 7) (gCons (gName 8) gNil)))) rfl sc_felled.nd (pi_list (pv 5)) (blkOk_by (N := N_felled) (sc := defScope s_felled) (by decide +kernel)) (fun _ _ _ _ _ => (pg_tup (by rfl) (pgs_cons (pg_name (i := 6) sc_felled.nd rfl (by first | exact Or.inl rfl | exact Or.inr rfl)) (pgs_cons (pg_name (i := 7) sc_felled.nd rfl (by first | exact Or.inl rfl | exact Or.inr rfl)) (pgs_cons (pg_name (i := 8) sc_felled.nd rfl (by first | exact Or.inl rfl | exact Or.inr rfl)) pgs_nil))))) (fun _ _ _ _ _ => pts_one (pt_cmpR (r := rIn K false) op_in_seq (pv 3) (pv 7) (by rfl))) (fun _ _ _ _ _ => (pv 8))) (pe_un un_neg pe_int) (fun _ _ => rfl)))))))), ?_⟩
  refine ⟨_, rfl, _, rfl, p, l, W, refs, rfl, pk, o, hl, hw, fun H1 A s1 ep L1 fk fv => ?_⟩
  subst ep
  refine ⟨_, rfl, _, rfl, _, W, xv, x, rfl, L1.r.pk, o, fx.same s1, sx, fun H2 s2 => ?_⟩
  have s12 := s1.trans s2
  refine ⟨_, rfl, _, rfl, A, W, xv, x, rfl, L1.same s2, fx.same s12, sx.sz, fun H3 f rs x3 L3 f3 e3 p3 l3 => ?_⟩
  have s13 := ext_same s12 x3 fk fv
  obtain ⟨rest, ph, _⟩ := parts_head (row := (settle W.F0 W.n (allP W.n)).1) N (settle_lot (F := W.F0) _ (allP_lot W.n))
  have h0 : (W.told x)[0]? = some ((settle W.F0 W.n (allP W.n)).1, (settle W.F0 W.n (allP W.n)).2, most W.sp (W.hs x) W.n (settle W.F0 W.n (allP W.n)).2) := by rw [Wd.told, ph]; rfl
  obtain ⟨r0, hr0, t0, rl0, lv0, mv0, rfl, g1, g2, g3, g4, g5, g6, g7⟩ := Paired.get2 p3 h0
  refine ⟨_, rfl, f, _, 0, _, rfl, rfl, SqL.of e3, atI_nat (j := 0) hr0, _, _, _, _, rfl, rfl, g1, rfl, _, rfl, lv0, pr, _, rfl, g5, hp, ?_⟩
  refine ⟨_, rfl, _, rfl, ⟨_, SqL.of e3⟩, fun D hD => ?_⟩
  have lr := Paired.length p3
  refine lc_list (K := K) (a := f) (xs := rs) (fun i H' => Same H3 H' ∧ ∃ ys, H' D = some (.lst ys) ∧ Paired (OV K H') ys (stoodIn pr ((W.told x).take i))) ⟨same_new hD, _, upd_same, .nil⟩ (fun i H' _ I => SqL.of (I.1 _ _ e3)) (fun i y H' hy I => ?_) (fun H' I => ?_)
  · obtain ⟨I, ys, eD, oy⟩ := I
    obtain ⟨q, hq, t, rl, lv, mv, rfl, z1, z2, z3, z4, z5, z6, z7⟩ := Paired.get? p3 hy
    have zz := stoodIn_snoc (p := pr) hq
    have zl : ys.length ≤ 20 := by
      rw [Paired.length oy]
      refine Nat.le_trans stoodIn_len ?_
      rw [List.length_take]
      exact Nat.le_trans (Nat.min_le_right _ _) (by rw [← lr]; exact l3)
    obtain ⟨lt', rfl, hlv⟩ := z5
    refine ⟨t, _, rfl, sqt_same I z1, rfl, _, _, rfl, _, _, rfl, _, _, rfl, rfl, rfl, _, rfl, _, rfl, lt', _, rfl, .inr (sqt_same I hlv), rfl, flat_ints _, _, rfl, ?_⟩
    rw [inV_ints]
    refine ite2 (fun c => ?_) (fun c => ?_)
    · have kp : Keep H' (upd H' D (.lst (ys ++ [mv]))) := Keep.upd (by rw [eD]; exact trivial)
      refine ⟨_, rfl, _, eD, small_lt (by omega), same_mut I hD, _, upd_same, ?_⟩
      rw [zz, if_pos (of_decide_eq_true c)]
      exact Paired.snoc ((z6.keep (Same.keep I)).keep kp) (Paired.mapP oy fun _ _ z => z.keep kp)
    · refine ⟨I, ys, eD, ?_⟩
      rw [zz, if_neg (fun z => c (decide_eq_true z))]
      exact oy
  · obtain ⟨I, ys, eD, oy⟩ := I
    rw [lr, List.take_length] at oy
    obtain ⟨ys', v, rfl, hv⟩ := paired_last oy hm
    exact ⟨1, rfl, D, _, _, _, rfl, rfl, SqL.of eD, atI_last _ _, k H' v (s13.trans I) hv⟩
end Pf
end

section
namespace Pf
open PySem PySem.Spec PyProof.Rows L2
variable {P : Program} {w : World} {K : PySem.W.Frag} {mg : Str → Option Value} {base : Heap} {a : Ad}
abbrev N_law_cut : List Str := ["_law_top", "_law_bottom", "_law_one", "_law_other"]
theorem sc_law_cut : FnScope N_law_cut ["_law_top", "_law_bottom"] (defScope s_law_cut) := ⟨rfl, rfl, rfl, by decide +kernel, rfl, by decide +kernel, by decide +kernel⟩
theorem ok_lcut (G : Gd K mg "_law_cut" s_law_cut) (B : Bt mg) : Df P w K mg base "_law_cut" ["_law_top", "_law_bottom"] 1 (spCut K) := by
  refine df_mk G sc_law_cut (fun vs H Q E h => by obtain ⟨a, b, rfl, _⟩ := h; rfl) (fun _ _ _ _ _ _ us hl => match us, hl with | [_, _], _ => rfl) (fun f cdv A outer s H vs Q E hr h => ?_)
  obtain ⟨t, b, rfl, hb, h9, q⟩ := h
  refine ⟨_, (pss_cons (ps_par (i := 2) (j := 3) (by rfl) sc_law_cut.nd rfl rfl (by decide) rfl rfl (pa_cons (pe_callB call_abs (by rfl) B.abs (by decide +kernel) (pa_cons (pv 0) pa_nil)) (pa_cons (pv 1) pa_nil)) (by rfl))
    (pss_cons (ps_while PassesOwn.never (pt_cmpR op_gt (pv 3) pe_int (nomark _))
    (pss_one (ps_par (i := 2) (j := 3) (by rfl) sc_law_cut.nd rfl rfl (by decide) rfl rfl (pa_cons (pv 3) (pa_cons (pe_op op_mod (pe_callTy call_int1 (by rfl) B.int (by decide +kernel) (pa_cons (pv 2) pa_nil)) (pv 3)) pa_nil)) (by rfl))))
    (pss_one (ps_ret (pe_tup (pa_cons (pe_op op_fdivW (pv 0) (pv 2)) (pa_cons (pe_op op_fdivW (pv 1) (pv 2)) pa_nil))))))), ?_⟩
  have c1 : CDivW t ((Nat.gcd t.natAbs b.natAbs : Nat) : Int) := gcd_facts hb h9
  have c2 : CDivW b ((Nat.gcd t.natAbs b.natAbs : Nat) : Int) := gcd_facts (t := t) hb h9
  refine ⟨_, rfl, _, rfl, _, rfl, _, _, rfl, ?_⟩
  refine ⟨fun m σ H' => H' = H ∧ ∃ c d : Nat, σ = [some (.int t), some (.int b), some (.int (c : Int)), some (.int (d : Int))] ∧ Nat.gcd c d = Nat.gcd t.natAbs b.natAbs ∧ m = d, ⟨b.natAbs, rfl, t.natAbs, b.natAbs, ?_, rfl, rfl⟩, fun m σ H' I => ?_⟩
  · have eb : b = ((b.natAbs : Nat) : Int) := by omega
    rw [abs_is]
    show [some (V.int t), some (V.int b), some (V.int ((t.natAbs : Nat) : Int)), some (V.int b)] = _
    rw [← eb]
  · obtain ⟨rfl, c, d, rfl, e, rfl⟩ := I
    refine ⟨_, rfl, _, _, rfl, rfl, _, rfl, ?_⟩
    by_cases hd : m = 0
    · subst hd
      rw [Nat.gcd_zero_right] at e
      rw [decide_eq_false (by omega)]
      subst e
      exact iteF ⟨_, rfl, _, rfl, _, _, rfl, rfl, c1, _, rfl, _, rfl, _, _, rfl, rfl, c2, by show 2 ≤ sizeLine; decide, cut_body hb q⟩
    · rw [decide_eq_true (by omega)]
      refine iteT ⟨_, fun _ _ z => z, ?_⟩
      refine ⟨_, rfl, _, rfl, .inl ⟨_, rfl, _, rfl, _, _, rfl, rfl, (by omega), _, _, rfl, c % m, ?_, rfl, m, c % m, ?_, ?_, rfl⟩⟩
      · exact Nat.mod_lt _ (by omega)
      · show [some (V.int t), some (V.int b), some (V.int (m : Int)), some (V.int ((c : Int) % (m : Int)))] = _
        rw [Int.natCast_emod]
      · rw [Nat.gcd_comm m, ← Nat.gcd_rec, Nat.gcd_comm]
        exact e
abbrev N_law_plus : List Str := ["_law_one", "_law_other"]
theorem sc_law_plus : FnScope N_law_plus ["_law_one", "_law_other"] (defScope s_law_plus) := ⟨rfl, rfl, rfl, by decide +kernel, rfl, by decide +kernel, by decide +kernel⟩
theorem ok_lplus (G : Gd K mg "_law_plus" s_law_plus) (D_law_cut : Df P w K mg base "_law_cut" ["_law_top", "_law_bottom"] 1 (spCut K)) : Df P w K mg base "_law_plus" ["_law_one", "_law_other"] 2 (sp2 K (· + ·) any2) := by
  refine df_mk G sc_law_plus (fun vs H Q E h => by obtain ⟨x, y, a, b, rfl, _⟩ := h; rfl) (fun _ _ _ _ _ _ us hl => match us, hl with | [_, _], _ => rfl) (fun f cdv A outer s H vs Q E hr h => ?_)
  obtain ⟨x, y, a, b, rfl, ⟨p, rfl, h1⟩, ⟨p', rfl, h2⟩, ⟨m, n, s1, s2, hs⟩, _, q⟩ := h
  refine ⟨_, (pss_one (ps_ret (pcall D_law_cut hr (by decide) (by rfl) (pa_cons (pe_op op_add (pe_op op_mulW (pe_ix (r := rIxT K) ix_tup (pv 0) pe_int (fun _ _ => rfl)) (pe_ix (r := rIxT K) ix_tup (pv 1) pe_int (fun _ _ => rfl))) (pe_op op_mulW (pe_ix (r := rIxT K) ix_tup (pv 1) pe_int (fun _ _ => rfl)) (pe_ix (r := rIxT K) ix_tup (pv 0) pe_int (fun _ _ => rfl)))) (pa_cons (pe_op op_mulW (pe_ix (r := rIxT K) ix_tup (pv 0) pe_int (fun _ _ => rfl)) (pe_ix (r := rIxT K) ix_tup (pv 1) pe_int (fun _ _ => rfl))) pa_nil))))), ?_⟩
  have hs' : n + m ≤ 8990 := by omega
  refine ⟨_, rfl, _, _, _, _, rfl, rfl, h1, rfl, _, rfl, _, _, _, _, rfl, rfl, h2, rfl, _, _, rfl, rfl, mulW s1.num s2.den hs, _, rfl, _, _, _, _, rfl, rfl, h2, rfl, _, rfl, _, _, _, _, rfl, rfl, h1, rfl, _, _, rfl, rfl, mulW s2.num s1.den hs', _, _, rfl, rfl, _, rfl, _, _, _, _, rfl, rfl, h1, rfl, _, rfl, _, _, _, _, rfl, rfl, h2, rfl, _, _, rfl, rfl, mulW s1.den s2.den hs, _, _, rfl, mul_den_pos a b, den9 s1.den s2.den hs, ?_⟩
  rw [q_add]
  exact q
abbrev N_law_minus : List Str := ["_law_one", "_law_other"]
theorem sc_law_minus : FnScope N_law_minus ["_law_one", "_law_other"] (defScope s_law_minus) := ⟨rfl, rfl, rfl, by decide +kernel, rfl, by decide +kernel, by decide +kernel⟩
theorem ok_lminus (G : Gd K mg "_law_minus" s_law_minus) (D_law_cut : Df P w K mg base "_law_cut" ["_law_top", "_law_bottom"] 1 (spCut K)) : Df P w K mg base "_law_minus" ["_law_one", "_law_other"] 2 (sp2 K (· - ·) any2) := by
  refine df_mk G sc_law_minus (fun vs H Q E h => by obtain ⟨x, y, a, b, rfl, _⟩ := h; rfl) (fun _ _ _ _ _ _ us hl => match us, hl with | [_, _], _ => rfl) (fun f cdv A outer s H vs Q E hr h => ?_)
  obtain ⟨x, y, a, b, rfl, ⟨p, rfl, h1⟩, ⟨p', rfl, h2⟩, ⟨m, n, s1, s2, hs⟩, _, q⟩ := h
  refine ⟨_, (pss_one (ps_ret (pcall D_law_cut hr (by decide) (by rfl) (pa_cons (pe_op op_sub (pe_op op_mulW (pe_ix (r := rIxT K) ix_tup (pv 0) pe_int (fun _ _ => rfl)) (pe_ix (r := rIxT K) ix_tup (pv 1) pe_int (fun _ _ => rfl))) (pe_op op_mulW (pe_ix (r := rIxT K) ix_tup (pv 1) pe_int (fun _ _ => rfl)) (pe_ix (r := rIxT K) ix_tup (pv 0) pe_int (fun _ _ => rfl)))) (pa_cons (pe_op op_mulW (pe_ix (r := rIxT K) ix_tup (pv 0) pe_int (fun _ _ => rfl)) (pe_ix (r := rIxT K) ix_tup (pv 1) pe_int (fun _ _ => rfl))) pa_nil))))), ?_⟩
  have hs' : n + m ≤ 8990 := by omega
  refine ⟨_, rfl, _, _, _, _, rfl, rfl, h1, rfl, _, rfl, _, _, _, _, rfl, rfl, h2, rfl, _, _, rfl, rfl, mulW s1.num s2.den hs, _, rfl, _, _, _, _, rfl, rfl, h2, rfl, _, rfl, _, _, _, _, rfl, rfl, h1, rfl, _, _, rfl, rfl, mulW s2.num s1.den hs', _, _, rfl, rfl, _, rfl, _, _, _, _, rfl, rfl, h1, rfl, _, rfl, _, _, _, _, rfl, rfl, h2, rfl, _, _, rfl, rfl, mulW s1.den s2.den hs, _, _, rfl, mul_den_pos a b, den9 s1.den s2.den hs, ?_⟩
  rw [q_sub]
  exact q
abbrev N_law_by : List Str := ["_law_one", "_law_other"]
theorem sc_law_by : FnScope N_law_by ["_law_one", "_law_other"] (defScope s_law_by) := ⟨rfl, rfl, rfl, by decide +kernel, rfl, by decide +kernel, by decide +kernel⟩
theorem ok_lby (G : Gd K mg "_law_by" s_law_by) (D_law_cut : Df P w K mg base "_law_cut" ["_law_top", "_law_bottom"] 1 (spCut K)) : Df P w K mg base "_law_by" ["_law_one", "_law_other"] 2 (sp2 K (· * ·) any2) := by
  refine df_mk G sc_law_by (fun vs H Q E h => by obtain ⟨x, y, a, b, rfl, _⟩ := h; rfl) (fun _ _ _ _ _ _ us hl => match us, hl with | [_, _], _ => rfl) (fun f cdv A outer s H vs Q E hr h => ?_)
  obtain ⟨x, y, a, b, rfl, ⟨p, rfl, h1⟩, ⟨p', rfl, h2⟩, ⟨m, n, s1, s2, hs⟩, _, q⟩ := h
  refine ⟨_, (pss_one (ps_ret (pcall D_law_cut hr (by decide) (by rfl) (pa_cons (pe_op op_mulW (pe_ix (r := rIxT K) ix_tup (pv 0) pe_int (fun _ _ => rfl)) (pe_ix (r := rIxT K) ix_tup (pv 1) pe_int (fun _ _ => rfl))) (pa_cons (pe_op op_mulW (pe_ix (r := rIxT K) ix_tup (pv 0) pe_int (fun _ _ => rfl)) (pe_ix (r := rIxT K) ix_tup (pv 1) pe_int (fun _ _ => rfl))) pa_nil))))), ?_⟩
  refine ⟨_, rfl, _, _, _, _, rfl, rfl, h1, rfl, _, rfl, _, _, _, _, rfl, rfl, h2, rfl, _, _, rfl, rfl, mulW s1.num s2.num hs, _, rfl, _, _, _, _, rfl, rfl, h1, rfl, _, rfl, _, _, _, _, rfl, rfl, h2, rfl, _, _, rfl, rfl, mulW s1.den s2.den hs, _, _, rfl, mul_den_pos a b, den9 s1.den s2.den hs, ?_⟩
  rw [q_mul]
  exact q
abbrev N_law_part_of : List Str := ["_law_one", "_law_other"]
theorem sc_law_part_of : FnScope N_law_part_of ["_law_one", "_law_other"] (defScope s_law_part_of) := ⟨rfl, rfl, rfl, by decide +kernel, rfl, by decide +kernel, by decide +kernel⟩
theorem ok_lpart (G : Gd K mg "_law_part_of" s_law_part_of) (D_law_cut : Df P w K mg base "_law_cut" ["_law_top", "_law_bottom"] 1 (spCut K)) : Df P w K mg base "_law_part_of" ["_law_one", "_law_other"] 2 (sp2 K (· / ·) pos2) := by
  refine df_mk G sc_law_part_of (fun vs H Q E h => by obtain ⟨x, y, a, b, rfl, _⟩ := h; rfl) (fun _ _ _ _ _ _ us hl => match us, hl with | [_, _], _ => rfl) (fun f cdv A outer s H vs Q E hr h => ?_)
  obtain ⟨x, y, a, b, rfl, ⟨p, rfl, h1⟩, ⟨p', rfl, h2⟩, ⟨m, n, s1, s2, hs⟩, hb, q⟩ := h
  refine ⟨_, (pss_one (ps_ret (pcall D_law_cut hr (by decide) (by rfl) (pa_cons (pe_op op_mulW (pe_ix (r := rIxT K) ix_tup (pv 0) pe_int (fun _ _ => rfl)) (pe_ix (r := rIxT K) ix_tup (pv 1) pe_int (fun _ _ => rfl))) (pa_cons (pe_op op_mulW (pe_ix (r := rIxT K) ix_tup (pv 0) pe_int (fun _ _ => rfl)) (pe_ix (r := rIxT K) ix_tup (pv 1) pe_int (fun _ _ => rfl))) pa_nil))))), ?_⟩
  refine ⟨_, rfl, _, _, _, _, rfl, rfl, h1, rfl, _, rfl, _, _, _, _, rfl, rfl, h2, rfl, _, _, rfl, rfl, mulW s1.num s2.den hs, _, rfl, _, _, _, _, rfl, rfl, h1, rfl, _, rfl, _, _, _, _, rfl, rfl, h2, rfl, _, _, rfl, rfl, mulW s1.den s2.num hs, _, _, rfl, div_den_pos hb, den9 s1.den s2.num hs, ?_⟩
  rw [q_div hb]
  exact q
abbrev N_law_is_below : List Str := ["_law_one", "_law_other"]
theorem sc_law_is_below : FnScope N_law_is_below ["_law_one", "_law_other"] (defScope s_law_is_below) := ⟨rfl, rfl, rfl, by decide +kernel, rfl, by decide +kernel, by decide +kernel⟩
theorem ok_lbelow (G : Gd K mg "_law_is_below" s_law_is_below) : Df P w K mg base "_law_is_below" ["_law_one", "_law_other"] 1 (spBelow K) := by
  refine df_mk G sc_law_is_below (fun vs H Q E h => by obtain ⟨x, y, a, b, rfl, _⟩ := h; rfl) (fun _ _ _ _ _ _ us hl => match us, hl with | [_, _], _ => rfl) (fun f cdv A outer s H vs Q E hr h => ?_)
  obtain ⟨x, y, a, b, rfl, ⟨p, rfl, h1⟩, ⟨p', rfl, h2⟩, ⟨m, n, s1, s2, hs⟩, q⟩ := h
  refine ⟨_, (pss_one (ps_ret (pe_cmpR op_lt (pe_op op_mulW (pe_ix (r := rIxT K) ix_tup (pv 0) pe_int (fun _ _ => rfl)) (pe_ix (r := rIxT K) ix_tup (pv 1) pe_int (fun _ _ => rfl))) (pe_op op_mulW (pe_ix (r := rIxT K) ix_tup (pv 1) pe_int (fun _ _ => rfl)) (pe_ix (r := rIxT K) ix_tup (pv 0) pe_int (fun _ _ => rfl))) (nomark _)))), ?_⟩
  have hs' : n + m ≤ 900000 := by omega
  rw [← dec_lt] at q
  exact ⟨_, rfl, _, _, _, _, rfl, rfl, h1, rfl, _, rfl, _, _, _, _, rfl, rfl, h2, rfl, _, _, rfl, rfl, mulX s1.num s2.den hs, _, rfl, _, _, _, _, rfl, rfl, h2, rfl, _, rfl, _, _, _, _, rfl, rfl, h1, rfl, _, _, rfl, rfl, mulX s2.num s1.den hs', _, _, rfl, rfl, q⟩
def spAmid (K : PySem.W.Frag) : Sp := fun vs H Q _ => ∃ x y a b, vs = [x, y] ∧ Fr K H x a ∧ Fr K H y b ∧ Sz 3910 a ∧ Sz 3910 b ∧ ∀ H' v, Same H H' → Fr K H' v ((a + b) / 2) → Q v H'
abbrev N_law_amid : List Str := ["_law_one", "_law_other"]
theorem sc_law_amid : FnScope N_law_amid ["_law_one", "_law_other"] (defScope s_law_amid) := ⟨rfl, rfl, rfl, by decide +kernel, rfl, by decide +kernel, by decide +kernel⟩
theorem ok_lamid (G : Gd K mg "_law_amid" s_law_amid) (D_law_part_of : Df P w K mg base "_law_part_of" ["_law_one", "_law_other"] 2 (sp2 K (· / ·) pos2)) (D_law_plus : Df P w K mg base "_law_plus" ["_law_one", "_law_other"] 2 (sp2 K (· + ·) any2)) :
    Df P w K mg base "_law_amid" ["_law_one", "_law_other"] 3 (spAmid K) := by
  refine df_mk G sc_law_amid (fun vs H Q E h => by obtain ⟨x, y, a, b, rfl, _⟩ := h; rfl) (fun _ _ _ _ _ _ us hl => match us, hl with | [_, _], _ => rfl) (fun f cdv A outer s H vs Q E hr h => ?_)
  obtain ⟨x, y, a, b, rfl, fa, fb, sa, sb, q⟩ := h
  refine ⟨_, (pss_one (ps_ret (pcall D_law_part_of hr (by decide) (by rfl) (pa_cons (pcall D_law_plus hr (by decide) (by rfl) (pa_cons (pv 0) (pa_cons (pv 1) pa_nil))) (pa_cons (pe_tup (pa_cons pe_int (pa_cons pe_int pa_nil))) pa_nil))))), ?_⟩
  refine ⟨_, rfl, _, rfl, x, y, a, b, rfl, fa, fb, ⟨_, _, sa, sb, by decide⟩, trivial, fun H1 v s1 f1 => ⟨by show 2 ≤ sizeLine; decide, fun t ht => ?_⟩⟩
  have s2 := same_new (o := .tup [V.int 2, V.int 1]) ht
  refine ⟨v, .ref t, a + b, 2, rfl, f1.same s2, ⟨t, rfl, SqT.of upd_same⟩, ⟨_, 2, sa.add sb, ⟨by decide, by decide⟩, by decide⟩, (show (0 : Rat) < 2 by decide), fun H2 v2 s3 f2 => q H2 v2 ((s1.trans s2).trans s3) f2⟩
def spCell (K : PySem.W.Frag) : Sp := fun vs H Q _ => ∃ (l : Addr) (ns : List Int) (k : Int), vs = [.ref l, .int k] ∧ SqL K H l (ns.map V.int) ∧ 0 ≤ k ∧ k ≤ 3 ∧ ∀ i, Q (.int i) H
abbrev N_law_cell : List Str := ["_law_script", "_law_k"]
theorem sc_law_cell : FnScope N_law_cell ["_law_script", "_law_k"] (defScope s_law_cell) := ⟨rfl, rfl, rfl, by decide +kernel, rfl, by decide +kernel, by decide +kernel⟩
theorem ok_lcell (G : Gd K mg "_law_cell" s_law_cell) (B : Bt mg) : Df P w K mg base "_law_cell" ["_law_script", "_law_k"] 1 (spCell K) := by
  refine df_mk G sc_law_cell (fun vs H Q E h => by obtain ⟨_, _, _, rfl, _⟩ := h; rfl) (fun _ _ _ _ _ _ us hl => match us, hl with | [_, _], _ => rfl) (fun f cdv A outer s H vs Q E hr h => ?_)
  obtain ⟨l, ns, k, rfl, hl, k0, k3, q⟩ := h
  refine ⟨_, (pss_cons (ps_if (pt_cmpR op_lt (pv 1) (pe_callB call_len_seq (by rfl) B.len (by decide +kernel) (pa_cons (pv 0) pa_nil)) (nomark _))
    (pss_one (ps_ret (pe_ix (r := rIxL K) ix_list (pv 0) (pv 1) (fun _ _ => rfl))))
    pss_nil)
    (pss_one (ps_ret (pe_op op_add (pe_op op_mulW pe_int (pv 1)) pe_int)))), ?_⟩
  refine ⟨_, rfl, _, rfl, l, _, rfl, .inl hl, _, _, rfl, rfl, _, rfl, ?_⟩
  refine ite2 (fun c => ?_) (fun c => ?_)
  · have c := of_decide_eq_true c
    rw [List.length_map] at c
    have h1 : k.toNat < ns.length := by omega
    have h2 : (ns.map V.int)[k.toNat]? = some (V.int ns[k.toNat]) := by rw [List.getElem?_map, List.getElem?_eq_getElem h1]; rfl
    exact ⟨_, rfl, _, rfl, l, _, k, _, rfl, rfl, hl, at_of (j := k.toNat) (by omega) h2, q _⟩
  · exact ⟨_, rfl, _, _, rfl, rfl, wide_mul (a := 2) (b := 2) (by decide) (by omega) (by decide) (by decide) (by decide), _, _, rfl, rfl, q _⟩
theorem mul64 {i j : Int} (h1 : i.natAbs < 2 ^ 64) (h2 : j.natAbs < 2 ^ 64) : CMulW i j := wide_mul (a := 64) (b := 64) h1 h2 (by decide) (by decide) (by decide)
theorem div64 {i j : Int} (h1 : 0 < j) (h2 : j.natAbs < 2 ^ 64) : CDivW i j := wide_div (b := 64) h1 h2 (by decide) (by decide)
def spDigits (K : PySem.W.Frag) : Sp := fun vs H Q _ => ∃ c : Int, vs = [.int c, .int 80] ∧ ∀ H' l (ds : List Int), Same H H' → H l = none → H' l = some (.lst (ds.map V.int)) → ds.length = 80 → (∀ d ∈ ds, 0 ≤ d ∧ d < 1009) → Q (.ref l) H'
abbrev N_law_digits : List Str := ["_law_cell_here", "_law_wanted", "_law_found", "_law_rest", "_law_number", "_law_k"]
theorem sc_law_digits : FnScope N_law_digits ["_law_cell_here", "_law_wanted"] (defScope s_law_digits) := ⟨rfl, rfl, rfl, by decide +kernel, rfl, by decide +kernel, by decide +kernel⟩
theorem ok_ldigits (G : Gd K mg "_law_digits" s_law_digits) (B : Bt mg) : Df P w K mg base "_law_digits" ["_law_cell_here", "_law_wanted"] 1 (spDigits K) := by
  refine df_mk G sc_law_digits (fun vs H Q E h => by obtain ⟨_, rfl, _⟩ := h; rfl) (fun _ _ _ _ _ _ us hl => match us, hl with | [_, _], _ => rfl) (fun f cdv A outer s H vs Q E hr h => ?_)
  obtain ⟨c, rfl, q⟩ := h
  refine ⟨_, (pss_cons (ps_set (i := 2) sc_law_digits.nd rfl (by first | exact Or.inl rfl | exact Or.inr rfl) (pe_lst pa_nil))
    (pss_cons (ps_set (i := 3) sc_law_digits.nd rfl (by first | exact Or.inl rfl | exact Or.inr rfl) pe_int)
    (pss_cons (ps_if (pt_cmpR op_ge (pv 0) (pe_op op_pow pe_int pe_int) (nomark _))
    (pss_one (ps_set (i := 3) sc_law_digits.nd rfl (by first | exact Or.inl rfl | exact Or.inr rfl) (pv 0)))
    pss_nil)
    (pss_cons (ps_set (i := 4) sc_law_digits.nd rfl (by first | exact Or.inl rfl | exact Or.inr rfl) (pe_op op_mod (pe_callTy call_int1 (by rfl) B.int (by decide +kernel) (pa_cons (pv 0) pa_nil)) pe_int))
    (pss_cons (ps_for PassesOwn.never rfl (pi_range1 (by rfl) B.range (pa_cons (pv 1) pa_nil)) (pg_name (i := 5) sc_law_digits.nd rfl (by first | exact Or.inl rfl | exact Or.inr rfl))
    (pss_cons (ps_set (i := 4) sc_law_digits.nd rfl (by first | exact Or.inl rfl | exact Or.inr rfl) (pe_op op_mod (pe_callTy call_int1 (by rfl) B.int (by decide +kernel) (pa_cons (pe_op op_add (pe_op op_add (pe_op op_mulW (pv 4) pe_int) (pe_op op_mulW pe_int (pv 5))) pe_int) pa_nil)) pe_int))
      (pss_cons (ps_set (i := 4) sc_law_digits.nd rfl (by first | exact Or.inl rfl | exact Or.inr rfl) (pe_op op_mod (pe_callTy call_int1 (by rfl) B.int (by decide +kernel) (pa_cons (pe_op op_mulW (pv 4) (pe_op op_add (pe_op op_fdivW (pv 4) pe_int) pe_int)) pa_nil)) pe_int))
      (pss_one (ps_if (pt_cmpR op_gt (pv 3) pe_int (nomark _))
      (pss_cons (ps_expr (pe_bm PySem.F.plainAttrs_list PySem.F.slot_list_append PySem.F.type_list_append mt_append (pv 2) (pa_cons (pe_op op_mod (pe_callTy call_int1 (by rfl) B.int (by decide +kernel) (pa_cons (pv 3) pa_nil)) pe_int) pa_nil)))
        (pss_one (ps_set (i := 3) sc_law_digits.nd rfl (by first | exact Or.inl rfl | exact Or.inr rfl) (pe_op op_fdivW (pv 3) pe_int))))
      (pss_one (ps_expr (pe_bm PySem.F.plainAttrs_list PySem.F.slot_list_append PySem.F.type_list_append mt_append (pv 2) (pa_cons (pe_op op_mod (pe_callTy call_int1 (by rfl) B.int (by decide +kernel) (pa_cons (pe_op op_fdivW (pv 4) pe_int) pa_nil)) pe_int) pa_nil)))))))))
    (pss_one (ps_ret (pv 2)))))))), ?_⟩
  refine ⟨by decide, fun D hD => ?_⟩
  have s1 := same_new (o := .lst []) hD
  have e1 : (upd H D (.lst [])) D = some (.lst []) := upd_same
  generalize upd H D (.lst []) = H1 at s1 e1
  refine ⟨_, rfl, _, _, rfl, rfl, ⟨by decide, by decide, by decide⟩, _, _, rfl, rfl, _, rfl, ?_⟩
  refine ite2 (fun _ => ⟨_, rfl, ?_⟩) (fun _ => ?_)
  all_goals
    refine ⟨_, rfl, .inl ⟨_, rfl, _, _, rfl, rfl, (show (0 : Int) < 2147483629 by decide), ?_⟩⟩
    refine ⟨_, rfl, _, rfl, by decide, by decide, for_range (lo := 0) (n := 80) (fun i σ H' => ∃ (n r : Int) (ds : List Int) (x5 : Option V), σ = [some (.int c), some (.int 80), some (.ref D), some (.int r), some (.int n), x5] ∧ Same H H' ∧ H' D = some (.lst (ds.map V.int)) ∧ ds.length = i ∧ (∀ d ∈ ds, 0 ≤ d ∧ d < 1009) ∧ 0 ≤ n ∧ n < 2147483629)
      ⟨_, _, [], _, rfl, s1, e1, rfl, (fun _ h => nomatch h), Int.emod_nonneg _ (by decide), Int.emod_lt_of_pos _ (by decide)⟩ (fun i σ H' hi I => ?_) (fun σ H' I => ?_)⟩
    · obtain ⟨n, r, ds, x5, rfl, s2, eD, el, hd, n0, n1⟩ := I
      have k0 : ((0 : Int) + (i : Nat)).natAbs < 2 ^ 64 := by omega
      have m1 := Int.emod_nonneg (n * 69621 + 40503 * (0 + (i : Nat)) + 17) (show (2147483629 : Int) ≠ 0 by decide)
      have m2 := Int.emod_lt_of_pos (n * 69621 + 40503 * (0 + (i : Nat)) + 17) (show (0 : Int) < 2147483629 by decide)
      refine ⟨_, rfl, _, _, rfl, rfl, mul64 (by omega) (by decide), _, rfl, _, _, rfl, rfl, mul64 (by decide) k0, _, _, rfl, rfl, _, _, rfl, rfl, .inl ⟨_, rfl, _, _, rfl, rfl, (show (0 : Int) < 2147483629 by decide), ?_⟩⟩
      dsimp only
      generalize (n * 69621 + 40503 * (0 + (i : Nat)) + 17) % 2147483629 = n2 at m1 m2 ⊢
      have q1 : 0 ≤ n2 / 907 ∧ n2 / 907 < 2147483629 := by omega
      have m3 := Int.emod_nonneg (n2 * (n2 / 907 + 30011)) (show (2147483587 : Int) ≠ 0 by decide)
      have m4 := Int.emod_lt_of_pos (n2 * (n2 / 907 + 30011)) (show (0 : Int) < 2147483587 by decide)
      refine ⟨_, rfl, _, rfl, _, _, rfl, rfl, div64 (by decide) (by decide), _, _, rfl, rfl, _, _, rfl, rfl, mul64 (by omega) (by omega), .inl ⟨_, rfl, _, _, rfl, rfl, (show (0 : Int) < 2147483587 by decide), ?_⟩⟩
      dsimp only
      generalize n2 * (n2 / 907 + 30011) % 2147483587 = n3 at m3 m4 ⊢
      have zl : (ds.map V.int).length < sizeLine := small_lt (by rw [List.length_map]; omega)
      have fin : ∀ d : Int, 0 ≤ d → d < 1009 → (upd H' D (.lst (ds.map V.int ++ [V.int d]))) D = some (.lst ((ds ++ [d]).map V.int)) ∧ (ds ++ [d]).length = i + 1 ∧ ∀ e ∈ ds ++ [d], 0 ≤ e ∧ e < 1009 := fun d h0 h1 => by
        refine ⟨by rw [upd_same, List.map_append]; rfl, by rw [List.length_append, el]; rfl, fun e he => ?_⟩
        rcases List.mem_append.mp he with he | he
        · exact hd e he
        · rw [List.mem_singleton.mp he]; exact ⟨h0, h1⟩
      refine ⟨_, rfl, _, _, rfl, rfl, _, rfl, ite2 (fun _ => ?_) (fun _ => ?_)⟩
      · obtain ⟨f1, f2, f3⟩ := fin (r % 1009) (Int.emod_nonneg _ (by decide)) (Int.emod_lt_of_pos _ (by decide))
        exact ⟨_, rfl, (.inl ⟨rfl, _, SqL.of eD⟩), _, rfl, .inl ⟨_, rfl, _, _, rfl, rfl, (show (0 : Int) < 1009 by decide), D, _, _, rfl, rfl, eD, zl, _, rfl, _, _, rfl, rfl, div64 (by decide) (by decide), n3, _, ds ++ [r % 1009], _, rfl, same_mut s2 hD, f1, f2, f3, m3, by omega⟩⟩
      · obtain ⟨f1, f2, f3⟩ := fin (n3 / 11 % 1009) (Int.emod_nonneg _ (by decide)) (Int.emod_lt_of_pos _ (by decide))
        exact ⟨_, rfl, (.inl ⟨rfl, _, SqL.of eD⟩), _, rfl, _, _, rfl, rfl, div64 (by decide) (by decide), .inl ⟨_, rfl, _, _, rfl, rfl, (show (0 : Int) < 1009 by decide), D, _, _, rfl, rfl, eD, zl, n3, r, ds ++ [n3 / 11 % 1009], _, rfl, same_mut s2 hD, f1, f2, f3, m3, by omega⟩⟩
    · obtain ⟨n, r, ds, x5, rfl, s2, eD, el, hd, n0, n1⟩ := I
      exact ⟨_, rfl, q H' D ds s2 hD eD el hd⟩
end Pf
end

section
namespace Pf
open PySem PySem.Spec PyProof.Rows L2
variable {P : Program} {w : World} {K : PySem.W.Frag} {mg : Str → Option Value} {base : Heap} {a : Ad}
theorem getK {H : Hp} {d : Addr} {kvs : List (L2.Key × V)} {s : Str} {v : V} (e : H d = some (.dK kvs)) (h : valV kvs (.inr s) = some v) : DGet H d (.str s) (some v) := by
  rw [← h]
  exact DGet.k (k := .inr s) e
/-- a world's length and places -/
structure WoS (H : Hp) (d : Addr) (W : Wd) : Prop where
  ex : ∃ kvs sl, H d = some (.dK kvs) ∧ valV kvs (.inr ("long" : Str)) = some (.int W.long) ∧ valV kvs (.inr ("spots" : Str)) = some (.ref sl) ∧ H sl = some (.lst ((W.ps.map (·.1)).map V.int))
theorem WoS.same {H H' : Hp} {d : Addr} {W : Wd} (s : Same H H') (h : WoS H d W) : WoS H' d W := by
  obtain ⟨kvs, sl, h1, h2, h3, h4⟩ := h.ex
  exact ⟨kvs, sl, s _ _ h1, h2, h3, s _ _ h4⟩
theorem fr_int {H : Hp} {t : Addr} {i : Int} (h : SqT K H t [.int i, .int 1]) : Fr K H (.ref t) (i : Rat) := ⟨t, rfl, h⟩
theorem q_low {x : Rat} {l h : Int} (hh : l < h) : ((x.num - l * ((x.den : Nat) : Int) : Int) : Rat) / ((((x.den : Nat) : Int) * (h - l) : Int) : Rat) = (x - (l : Rat)) / ((h : Rat) - (l : Rat)) := by
  have d := x.den_pos
  have p : 0 < ((x.den : Nat) : Int) * (h - l) := Int.mul_pos (by omega) (by omega)
  have nz : ((h : Rat) - (l : Rat)) ≠ 0 := by have := cast_sub_pos hh; grind
  refine q_mk (by omega) ?_
  rw [Rat.intCast_sub, Rat.intCast_mul, Rat.intCast_mul, Rat.intCast_sub, div_num_den x]
  have : (x - (l : Rat)) / ((h : Rat) - (l : Rat)) * ((h : Rat) - (l : Rat)) = x - l := Rat.div_mul_cancel nz
  grind
theorem q_high {x : Rat} {l h : Int} (hh : l < h) : ((h * ((x.den : Nat) : Int) - x.num : Int) : Rat) / ((((x.den : Nat) : Int) * (h - l) : Int) : Rat) = ((h : Rat) - x) / ((h : Rat) - (l : Rat)) := by
  have d := x.den_pos
  have p : 0 < ((x.den : Nat) : Int) * (h - l) := Int.mul_pos (by omega) (by omega)
  have nz : ((h : Rat) - (l : Rat)) ≠ 0 := by have := cast_sub_pos hh; grind
  refine q_mk (by omega) ?_
  rw [Rat.intCast_sub, Rat.intCast_mul, Rat.intCast_mul, Rat.intCast_sub, div_num_den x]
  have : ((h : Rat) - x) / ((h : Rat) - (l : Rat)) * ((h : Rat) - (l : Rat)) = h - x := Rat.div_mul_cancel nz
  grind
/-- the places of all rests, in a list -/
theorem places_at {W : Wd} {r : Int} (h0 : -1 ≤ r) (h1 : r ≤ W.n) : ([(0 : Int)] ++ W.ps.map (·.1) ++ [W.long])[(r + 1).toNat]? = some (W.pl r) := by
  rcases (by omega : r = -1 ∨ 0 ≤ r) with e | h
  · subst e
    rw [Wd.pl_left]
    rfl
  · have e : (r + 1).toNat = r.toNat + 1 := by omega
    rw [e]
    show (W.ps.map (·.1) ++ [W.long])[r.toNat]? = _
    rcases (by omega : r = W.n ∨ r < W.n) with e2 | h2
    · subst e2
      rw [Wd.pl_wall, Int.toNat_natCast]
      have : (W.ps.map (·.1)).length = W.n := by simp
      rw [← this]
      simp
    · obtain ⟨x, s, hx, e3, _⟩ := Wd.at (W := W) (p := r) h h2
      rw [e3, List.getElem?_append_left (by rw [List.length_map]; show r.toNat < W.n; omega), List.getElem?_map, hx]
      rfl
def spLShare (K : PySem.W.Frag) : Sp := fun vs H Q _ => ∃ (d kp : Addr) (W : Wd) (l p r : Int) (v : V) (x : Rat), vs = [.ref d, .ref kp, v] ∧ WoS H d W ∧ W.Ok ∧ SqT K H kp [.int l, .int p, .int r] ∧ Key3 W.n l p r ∧ Fr K H v x ∧ Sz 128 x ∧ ∀ H' v', Same H H' → Fr K H' v' (W.sh l p r x) → Q v' H'
abbrev N_law_share : List Str := ["_law_world_here", "_law_key", "_law_spot", "_law_places", "_law_low", "_law_here", "_law_high", "_law_rest"]
theorem sc_law_share : FnScope N_law_share ["_law_world_here", "_law_key", "_law_spot"] (defScope s_law_share) := ⟨rfl, rfl, rfl, by decide +kernel, rfl, by decide +kernel, by decide +kernel⟩
theorem ok_lshare (G : Gd K mg "_law_share" s_law_share) (D_law_is_below : Df P w K mg base "_law_is_below" ["_law_one", "_law_other"] 1 (spBelow K)) (D_law_cut : Df P w K mg base "_law_cut" ["_law_top", "_law_bottom"] 1 (spCut K)) :
    Df P w K mg base "_law_share" ["_law_world_here", "_law_key", "_law_spot"] 2 (spLShare K) := by
  refine df_mk G sc_law_share (fun vs H Q E h => by obtain ⟨_, _, _, _, _, _, _, _, rfl, _⟩ := h; rfl) (fun _ _ _ _ _ _ us hl => match us, hl with | [_, _, _], _ => rfl) (fun f cdv A' outer sh H vs Q E hr h => ?_)
  obtain ⟨d, kp, W, l, p, r, v, x, rfl, wo, o, hk, k3, ⟨q, rfl, hx⟩, zx, k⟩ := h
  have hu := hu_of hr
  obtain ⟨b0, b1, b2, b3⟩ := o.pl3 k3
  have n12 := o.n12
  obtain ⟨k1, k2, k4, k5⟩ := k3
  refine ⟨_, (pss_cons (ps_set (i := 3) sc_law_share.nd rfl (by first | exact Or.inl rfl | exact Or.inr rfl) (pe_op op_cat (pe_op op_cat (pe_lst (pa_cons pe_int pa_nil)) (pe_dget hu (pv 0) pe_str (fun _ _ => rfl))) (pe_lst (pa_cons (pe_dget hu (pv 0) pe_str (fun _ _ => rfl)) pa_nil))))
    (pss_cons (ps_asg (pe_lc (own := [("_law_rest", 7)]) (g := gName 7) rfl sc_law_share.nd (pi_tup (pv 1)) (blkOk_by (N := N_law_share) (sc := defScope s_law_share) (by decide +kernel)) (fun _ _ _ _ _ => (pg_name (i := 7) sc_law_share.nd rfl (by first | exact Or.inl rfl | exact Or.inr rfl))) (fun _ _ _ _ _ => pts_nil) (fun _ _ _ _ _ => (pe_ix (r := rIxL K) ix_list (pv 3) (pe_op op_add (pv 7) pe_int) (fun _ _ => rfl)))) (pg_lst (by rfl) (pgs_cons (pg_name (i := 4) sc_law_share.nd rfl (by first | exact Or.inl rfl | exact Or.inr rfl)) (pgs_cons (pg_name (i := 5) sc_law_share.nd rfl (by first | exact Or.inl rfl | exact Or.inr rfl)) (pgs_cons (pg_name (i := 6) sc_law_share.nd rfl (by first | exact Or.inl rfl | exact Or.inr rfl)) pgs_nil)))))
    (pss_cons (ps_if (PW.pt (pw_and (pt_val (pcall D_law_is_below hr (by decide) (by rfl) (pa_cons (pe_tup (pa_cons (pv 4) (pa_cons pe_int pa_nil))) (pa_cons (pv 2) pa_nil)))) (pw_and1 (pt_not (pt_val (pcall D_law_is_below hr (by decide) (by rfl) (pa_cons (pe_tup (pa_cons (pv 5) (pa_cons pe_int pa_nil))) (pa_cons (pv 2) pa_nil))))))))
    (pss_one (ps_ret (pcall D_law_cut hr (by decide) (by rfl) (pa_cons (pe_op op_sub (pe_ix (r := rIxT K) ix_tup (pv 2) pe_int (fun _ _ => rfl)) (pe_op op_mulW (pv 4) (pe_ix (r := rIxT K) ix_tup (pv 2) pe_int (fun _ _ => rfl)))) (pa_cons (pe_op op_mulW (pe_ix (r := rIxT K) ix_tup (pv 2) pe_int (fun _ _ => rfl)) (pe_op op_sub (pv 5) (pv 4))) pa_nil)))))
    pss_nil)
    (pss_cons (ps_if (PW.pt (pw_and (pt_val (pcall D_law_is_below hr (by decide) (by rfl) (pa_cons (pe_tup (pa_cons (pv 5) (pa_cons pe_int pa_nil))) (pa_cons (pv 2) pa_nil)))) (pw_and1 (pt_val (pcall D_law_is_below hr (by decide) (by rfl) (pa_cons (pv 2) (pa_cons (pe_tup (pa_cons (pv 6) (pa_cons pe_int pa_nil))) pa_nil)))))))
    (pss_one (ps_ret (pcall D_law_cut hr (by decide) (by rfl) (pa_cons (pe_op op_sub (pe_op op_mulW (pv 6) (pe_ix (r := rIxT K) ix_tup (pv 2) pe_int (fun _ _ => rfl))) (pe_ix (r := rIxT K) ix_tup (pv 2) pe_int (fun _ _ => rfl))) (pa_cons (pe_op op_mulW (pe_ix (r := rIxT K) ix_tup (pv 2) pe_int (fun _ _ => rfl)) (pe_op op_sub (pv 6) (pv 5))) pa_nil)))))
    pss_nil)
    (pss_one (ps_ret (pe_tup (pa_cons pe_int (pa_cons pe_int pa_nil))))))))), ?_⟩
  obtain ⟨kvs, sl, e1, e2, e3, e4⟩ := wo.ex
  refine ⟨by decide, fun A hA => ?_⟩
  have s1 := same_new (o := .lst [V.int 0]) hA
  refine ⟨_, rfl, d, _, rfl, getK (s1 _ _ e1) e3, A, sl, _, _, rfl, rfl, upd_same, s1 _ _ e4, small (by simp; show 1 + W.n ≤ 100000; omega), fun B hB => ?_⟩
  have s2 := s1.trans (same_new (o := .lst ([V.int 0] ++ (W.ps.map (·.1)).map V.int)) hB)
  have eB : (upd (upd H A (.lst [V.int 0])) B (.lst ([V.int 0] ++ (W.ps.map (·.1)).map V.int))) B = some (.lst ([V.int 0] ++ (W.ps.map (·.1)).map V.int)) := upd_same
  generalize upd (upd H A (.lst [V.int 0])) B (.lst ([V.int 0] ++ (W.ps.map (·.1)).map V.int)) = H2 at s2 eB
  refine ⟨_, rfl, d, _, rfl, getK (s2 _ _ e1) e2, by show 1 ≤ sizeLine; decide, fun C hC => ?_⟩
  have s3 := s2.trans (same_new (o := .lst [V.int W.long]) hC)
  have sC := same_new (o := .lst [V.int W.long]) hC
  refine ⟨B, C, _, _, rfl, rfl, sC _ _ eB, upd_same, small (by simp; show W.n ≤ 99998; omega), fun D hD => ?_⟩
  have s4 := s3.trans (same_new (o := .lst ([V.int 0] ++ (W.ps.map (·.1)).map V.int ++ [V.int W.long])) hD)
  have eD : (upd (upd H2 C (.lst [V.int W.long])) D (.lst ([V.int 0] ++ (W.ps.map (·.1)).map V.int ++ [V.int W.long]))) D = some (.lst ([V.int 0] ++ (W.ps.map (·.1)).map V.int ++ [V.int W.long])) := upd_same
  generalize upd (upd H2 C (.lst [V.int W.long])) D (.lst ([V.int 0] ++ (W.ps.map (·.1)).map V.int ++ [V.int W.long])) = H4 at s4 eD
  have epl : [V.int 0] ++ (W.ps.map (·.1)).map V.int ++ [V.int W.long] = ([(0 : Int)] ++ W.ps.map (·.1) ++ [W.long]).map V.int := by simp
  rw [epl] at eD
  have hk4 := sqt_same s4 hk
  refine ⟨_, rfl, _, rfl, ⟨_, hk4⟩, fun L hL => ?_⟩
  refine lc_each (w := walk_tup (K := K) (a := kp) (xs := [V.int l, V.int p, V.int r])) hL (by show 3 ≤ 100000; decide) (fun i y _ => [V.int (W.pl l), V.int (W.pl p), V.int (W.pl r)][i]? = some y) (fun _ _ _ _ _ z => z) (fun H' s => sqt_same s hk4) (fun i y H1 H2 hi s' hy Q' k' => ?_) (fun H' g => ?_)
  · obtain ⟨rfl, hy⟩ := hy
    have eD1 := s' D _ eD
    have get : ∀ r' : Int, -1 ≤ r' → r' ≤ W.n → atI (([(0 : Int)] ++ W.ps.map (·.1) ++ [W.long]).map V.int) (r' + 1) = some (V.int (W.pl r')) := fun r' h0 h1 => by
      have := places_at h0 h1
      refine at_of (j := (r' + 1).toNat) (by omega) ?_
      rw [List.getElem?_map, this]
      rfl
    match i, hi, hy with
    | 0, _, hy =>
      cases hy
      exact ⟨rfl, _, rfl, _, rfl, _, _, rfl, rfl, D, _, _, _, rfl, rfl, SqL.of eD1, get l k1 (by omega), k' _ _ (Same.refl _) rfl⟩
    | 1, _, hy =>
      cases hy
      exact ⟨rfl, _, rfl, _, rfl, _, _, rfl, rfl, D, _, _, _, rfl, rfl, SqL.of eD1, get p (by omega) (by omega), k' _ _ (Same.refl _) rfl⟩
    | 2, _, hy =>
      cases hy
      exact ⟨rfl, _, rfl, _, rfl, _, _, rfl, rfl, D, _, _, _, rfl, rfl, SqL.of eD1, get r (by omega) (by omega), k' _ _ (Same.refl _) rfl⟩
  · obtain ⟨s5, ys, eL, ly, hys⟩ := g
    have eys : ys = [V.int (W.pl l), V.int (W.pl p), V.int (W.pl r)] := by
      apply List.ext_getElem?
      intro j
      cases e : ys[j]? with
      | some y => exact (hys j y e).symm
      | none =>
        have h := List.getElem?_eq_none_iff.mp e
        rw [ly] at h
        exact (List.getElem?_eq_none (show 3 ≤ j from h)).symm
    subst eys
    have s6 := s4.trans s5
    refine ⟨L, _, rfl, SqL.of eL, rfl, _, _, rfl, _, _, rfl, _, _, rfl, rfl, ?_⟩
    have hx6 := sqt_same s6 hx
    have hxf : Fr K H' (.ref q) x := ⟨q, rfl, hx6⟩
    have zi : ∀ i : Int, 0 ≤ i → i ≤ 1000 → Sz 11 (i : Rat) := fun i a b => sz_len (by omega) b
    have den0 : ∀ i : Int, 0 < i → i ≤ 1000 → 0 < ((x.den : Nat) : Int) * i ∧ (((x.den : Nat) : Int) * i).natAbs < 2 ^ 9000 := fun i a b =>
      ⟨Int.mul_pos (by have := x.den_pos; omega) a, pow_up (m := 128 + 11) (by decide) (wide_lt zx.den (by show i.natAbs < 2048; omega))⟩
    have ml : ∀ i : Int, 0 ≤ i → i ≤ 1000 → CMulW i ((x.den : Nat) : Int) := fun i a b => mulW (m := 11) (n := 128) (by show i.natAbs < 2048; omega) zx.den (by decide)
    have mr : ∀ i : Int, 0 < i → i ≤ 1000 → CMulW ((x.den : Nat) : Int) i := fun i a b => mulW (m := 128) (n := 11) zx.den (by show i.natAbs < 2048; omega) (by decide)
    have zl := zi _ b0 (by omega)
    have zp := zi (W.pl p) (by omega) (by omega)
    have zr := zi (W.pl r) (by omega) b3
    have two : 2 ≤ sizeLine := by decide
    refine ⟨_, rfl, two, fun t1 h1 => ⟨_, rfl, .ref t1, .ref q, (W.pl l : Rat), x, rfl, fr_int (SqT.of upd_same), hxf.same (same_new h1), ⟨_, _, zl, zx, by decide⟩, ⟨_, rfl, ?_⟩⟩⟩
    have s7 := s6.trans (same_new (o := .tup [V.int (W.pl l), V.int 1]) h1)
    have hx7 := sqt_same (same_new (o := .tup [V.int (W.pl l), V.int 1]) h1) hx6
    generalize upd H' t1 (.tup [V.int (W.pl l), V.int 1]) = H7 at s7 hx7
    refine ite2 (fun c1 => ?_) (fun c1 => ?_)
    · have c1 := of_decide_eq_true c1
      refine ⟨_, rfl, two, fun t2 h2 => ⟨_, rfl, .ref t2, .ref q, (W.pl p : Rat), x, rfl, fr_int (SqT.of upd_same), (show Fr K H7 (.ref q) x from ⟨q, rfl, hx7⟩).same (same_new h2), ⟨_, _, zp, zx, by decide⟩, ⟨_, rfl, ?_⟩⟩⟩
      have s8 := s7.trans (same_new (o := .tup [V.int (W.pl p), V.int 1]) h2)
      have hx8 := sqt_same (same_new (o := .tup [V.int (W.pl p), V.int 1]) h2) hx7
      generalize upd H7 t2 (.tup [V.int (W.pl p), V.int 1]) = H8 at s8 hx8
      by_cases c2 : (W.pl p : Rat) < x
      · rw [decide_eq_true c2]
        refine iteF ?_
        refine ⟨_, rfl, two, fun t3 h3 => ⟨_, rfl, .ref t3, .ref q, (W.pl p : Rat), x, rfl, fr_int (SqT.of upd_same), (show Fr K H8 (.ref q) x from ⟨q, rfl, hx8⟩).same (same_new h3), ⟨_, _, zp, zx, by decide⟩, ⟨_, rfl, ?_⟩⟩⟩
        have s9 := s8.trans (same_new (o := .tup [V.int (W.pl p), V.int 1]) h3)
        have hx9 := sqt_same (same_new (o := .tup [V.int (W.pl p), V.int 1]) h3) hx8
        generalize upd H8 t3 (.tup [V.int (W.pl p), V.int 1]) = H9 at s9 hx9
        refine ite2 (fun c3 => ?_) (fun c3 => ?_)
        · have c3 := of_decide_eq_true c3
          refine ⟨_, rfl, _, rfl, two, fun t4 h4 => ⟨.ref q, .ref t4, x, (W.pl r : Rat), rfl, (show Fr K H9 (.ref q) x from ⟨q, rfl, hx9⟩).same (same_new h4), fr_int (SqT.of upd_same), ⟨_, _, zx, zr, by decide⟩, ⟨_, rfl, ?_⟩⟩⟩
          have s10 := s9.trans (same_new (o := .tup [V.int (W.pl r), V.int 1]) h4)
          have hx10 := sqt_same (same_new (o := .tup [V.int (W.pl r), V.int 1]) h4) hx9
          generalize upd H9 t4 (.tup [V.int (W.pl r), V.int 1]) = H10 at s10 hx10
          refine ite2 (fun c4 => ?_) (fun c4 => ?_)
          · have c4 := of_decide_eq_true c4
            obtain ⟨d1, d2⟩ := den0 (W.pl r - W.pl p) (by omega) (by omega)
            refine ⟨_, rfl, _, rfl, _, _, _, _, rfl, rfl, hx10, rfl, _, _, rfl, rfl, ml _ (by omega) b3, _, rfl, _, _, _, _, rfl, rfl, hx10, rfl, _, _, rfl, rfl, _, rfl, _, _, _, _, rfl, rfl, hx10, rfl, _, rfl, _, rfl, _, _, rfl, rfl, _, _, rfl, rfl, mr _ (by omega) (by omega), _, _, rfl, d1, d2, fun H11 v' s11 f11 => ?_⟩
            rw [q_high b2] at f11
            refine k H11 v' (s10.trans s11) ?_
            have e : W.sh l p r x = ((W.pl r : Rat) - x) / ((W.pl r : Rat) - (W.pl p : Rat)) := by
              show Pf.sh (W.pl l) (W.pl p) (W.pl r) x = _
              unfold Pf.sh
              rw [if_neg (fun z => absurd c2 (Rat.not_lt.mpr z.2)), if_pos ⟨c3, c4⟩]
            rw [e]
            exact f11
          · refine ⟨two, fun t5 h5 => k _ _ (s10.trans (same_new h5)) ?_⟩
            have e : W.sh l p r x = 0 := by
              show Pf.sh (W.pl l) (W.pl p) (W.pl r) x = _
              unfold Pf.sh
              rw [if_neg (fun z => absurd c2 (Rat.not_lt.mpr z.2)), if_neg (fun z => c4 (decide_eq_true z.2))]
            rw [e]
            exact ⟨t5, rfl, SqT.of upd_same⟩
        · refine ⟨two, fun t5 h5 => k _ _ (s9.trans (same_new h5)) ?_⟩
          have e : W.sh l p r x = 0 := by
            show Pf.sh (W.pl l) (W.pl p) (W.pl r) x = _
            unfold Pf.sh
            rw [if_neg (fun z => absurd c2 (Rat.not_lt.mpr z.2)), if_neg (fun z => c3 (decide_eq_true z.1))]
          rw [e]
          exact ⟨t5, rfl, SqT.of upd_same⟩
      · rw [decide_eq_false c2]
        obtain ⟨d1, d2⟩ := den0 (W.pl p - W.pl l) (by omega) (by omega)
        refine iteT ⟨_, rfl, _, _, _, _, rfl, rfl, hx8, rfl, _, rfl, _, rfl, _, _, _, _, rfl, rfl, hx8, rfl, _, _, rfl, rfl, ml _ b0 (by omega), _, _, rfl, rfl, _, rfl, _, _, _, _, rfl, rfl, hx8, rfl, _, rfl, _, rfl, _, _, rfl, rfl, _, _, rfl, rfl, mr _ (by omega) (by omega), _, _, rfl, d1, d2, fun H11 v' s11 f11 => ?_⟩
        rw [q_low b1] at f11
        refine k H11 v' (s8.trans s11) ?_
        have e : W.sh l p r x = (x - (W.pl l : Rat)) / ((W.pl p : Rat) - (W.pl l : Rat)) := by
          show Pf.sh (W.pl l) (W.pl p) (W.pl r) x = _
          unfold Pf.sh
          rw [if_pos ⟨c1, Rat.not_lt.mp c2⟩]
        rw [e]
        exact f11
    · refine ⟨_, rfl, two, fun t3 h3 => ⟨_, rfl, .ref t3, .ref q, (W.pl p : Rat), x, rfl, fr_int (SqT.of upd_same), (show Fr K H7 (.ref q) x from ⟨q, rfl, hx7⟩).same (same_new h3), ⟨_, _, zp, zx, by decide⟩, ⟨_, rfl, ?_⟩⟩⟩
      have s9 := s7.trans (same_new (o := .tup [V.int (W.pl p), V.int 1]) h3)
      have hx9 := sqt_same (same_new (o := .tup [V.int (W.pl p), V.int 1]) h3) hx7
      generalize upd H7 t3 (.tup [V.int (W.pl p), V.int 1]) = H9 at s9 hx9
      refine ite2 (fun c3 => ?_) (fun c3 => ?_)
      · have c3 := of_decide_eq_true c3
        refine ⟨_, rfl, _, rfl, two, fun t4 h4 => ⟨.ref q, .ref t4, x, (W.pl r : Rat), rfl, (show Fr K H9 (.ref q) x from ⟨q, rfl, hx9⟩).same (same_new h4), fr_int (SqT.of upd_same), ⟨_, _, zx, zr, by decide⟩, ⟨_, rfl, ?_⟩⟩⟩
        have s10 := s9.trans (same_new (o := .tup [V.int (W.pl r), V.int 1]) h4)
        have hx10 := sqt_same (same_new (o := .tup [V.int (W.pl r), V.int 1]) h4) hx9
        generalize upd H9 t4 (.tup [V.int (W.pl r), V.int 1]) = H10 at s10 hx10
        refine ite2 (fun c4 => ?_) (fun c4 => ?_)
        · have c4 := of_decide_eq_true c4
          obtain ⟨d1, d2⟩ := den0 (W.pl r - W.pl p) (by omega) (by omega)
          refine ⟨_, rfl, _, rfl, _, _, _, _, rfl, rfl, hx10, rfl, _, _, rfl, rfl, ml _ (by omega) b3, _, rfl, _, _, _, _, rfl, rfl, hx10, rfl, _, _, rfl, rfl, _, rfl, _, _, _, _, rfl, rfl, hx10, rfl, _, rfl, _, rfl, _, _, rfl, rfl, _, _, rfl, rfl, mr _ (by omega) (by omega), _, _, rfl, d1, d2, fun H11 v' s11 f11 => ?_⟩
          rw [q_high b2] at f11
          refine k H11 v' (s10.trans s11) ?_
          have e : W.sh l p r x = ((W.pl r : Rat) - x) / ((W.pl r : Rat) - (W.pl p : Rat)) := by
            show Pf.sh (W.pl l) (W.pl p) (W.pl r) x = _
            unfold Pf.sh
            rw [if_neg (fun z => c1 (decide_eq_true z.1)), if_pos ⟨c3, c4⟩]
          rw [e]
          exact f11
        · refine ⟨two, fun t5 h5 => k _ _ (s10.trans (same_new h5)) ?_⟩
          have e : W.sh l p r x = 0 := by
            show Pf.sh (W.pl l) (W.pl p) (W.pl r) x = _
            unfold Pf.sh
            rw [if_neg (fun z => c1 (decide_eq_true z.1)), if_neg (fun z => c4 (decide_eq_true z.2))]
          rw [e]
          exact ⟨t5, rfl, SqT.of upd_same⟩
      · refine ⟨two, fun t5 h5 => k _ _ (s9.trans (same_new h5)) ?_⟩
        have e : W.sh l p r x = 0 := by
          show Pf.sh (W.pl l) (W.pl p) (W.pl r) x = _
          unfold Pf.sh
          rw [if_neg (fun z => c1 (decide_eq_true z.1)), if_neg (fun z => c3 (decide_eq_true z.1))]
        rw [e]
        exact ⟨t5, rfl, SqT.of upd_same⟩
end Pf
end

section
namespace Pf
open PySem PySem.Spec PyProof.Rows L2
variable {P : Program} {w : World} {K : PySem.W.Frag} {mg : Str → Option Value} {base : Heap} {a : Ad}
theorem ld_take {W : Wd} {l p r : Int} {i : Nat} {q : Rat × Rat} (h : W.hv[i]? = some q) : ldFrom 0 (W.hv.take (i + 1)) (W.pl l) (W.pl p) (W.pl r) = ldFrom 0 (W.hv.take i) (W.pl l) (W.pl p) (W.pl r) + q.2 * W.sh l p r q.1 := by
  unfold ldFrom
  rw [List.take_add_one, h, List.foldl_append]
  rfl
theorem Wd.Ok.sz_ldi {W : Wd} (o : W.Ok) {l p r : Int} (k : Key3 W.n l p r) (i : Nat) (hi : i ≤ W.hv.length) : Sz 1740 (ldFrom 0 (W.hv.take i) (W.pl l) (W.pl p) (W.pl r)) := by
  have h := sumQ_sz (o.sz_parts k) i (by rw [List.length_map]; exact hi)
  have e : sumQ ((W.hv.map fun q => q.2 * W.sh l p r q.1).take i) = ldFrom 0 (W.hv.take i) (W.pl l) (W.pl p) (W.pl r) := by
    unfold sumQ ldFrom
    rw [← List.map_take, List.foldl_map]
    rfl
  rw [e] at h
  refine h.mono ?_
  have := o.h6
  have : (288 + 1) * i ≤ 289 * 6 := Nat.mul_le_mul_left _ (by omega)
  omega
def spLLoad (K : PySem.W.Frag) : Sp := fun vs H Q _ => ∃ (d hl kp : Addr) (W : Wd) (refs : List V) (l p r : Int), vs = [.ref d, .ref hl, .ref kp] ∧ WoS H d W ∧ W.Ok ∧ SqL K H hl refs ∧ Paired (Wt K H) refs W.hv ∧ SqT K H kp [.int l, .int p, .int r] ∧ Key3 W.n l p r ∧ ∀ H' v', Same H H' → Fr K H' v' (W.ld l p r) → Q v' H'
abbrev N_law_load : List Str := ["_law_world_here", "_law_heavy_here", "_law_key", "_law_found", "_law_spot", "_law_much"]
theorem sc_law_load : FnScope N_law_load ["_law_world_here", "_law_heavy_here", "_law_key"] (defScope s_law_load) := ⟨rfl, rfl, rfl, by decide +kernel, rfl, by decide +kernel, by decide +kernel⟩
theorem ok_lload (G : Gd K mg "_law_load" s_law_load) (D_law_plus : Df P w K mg base "_law_plus" ["_law_one", "_law_other"] 2 (sp2 K (· + ·) any2)) (D_law_by : Df P w K mg base "_law_by" ["_law_one", "_law_other"] 2 (sp2 K (· * ·) any2))
    (D_law_share : Df P w K mg base "_law_share" ["_law_world_here", "_law_key", "_law_spot"] 2 (spLShare K)) : Df P w K mg base "_law_load" ["_law_world_here", "_law_heavy_here", "_law_key"] 3 (spLLoad K) := by
  refine df_mk G sc_law_load (fun vs H Q E h => by obtain ⟨_, _, _, _, _, _, _, _, rfl, _⟩ := h; rfl) (fun _ _ _ _ _ _ us hl => match us, hl with | [_, _, _], _ => rfl) (fun f cdv A' outer sh H vs Q E hr h => ?_)
  obtain ⟨d, hl, kp, W, refs, l, p, r, rfl, wo, o, hh, hw, hk, k3, k⟩ := h
  refine ⟨_, (pss_cons (ps_set (i := 3) sc_law_load.nd rfl (by first | exact Or.inl rfl | exact Or.inr rfl) (pe_tup (pa_cons pe_int (pa_cons pe_int pa_nil))))
    (pss_cons (ps_for PassesOwn.never rfl (pi_list (pv 1)) (pg_tup (by rfl) (pgs_cons (pg_name (i := 4) sc_law_load.nd rfl (by first | exact Or.inl rfl | exact Or.inr rfl)) (pgs_cons (pg_name (i := 5) sc_law_load.nd rfl (by first | exact Or.inl rfl | exact Or.inr rfl)) pgs_nil)))
    (pss_one (ps_set (i := 3) sc_law_load.nd rfl (by first | exact Or.inl rfl | exact Or.inr rfl) (pcall D_law_plus hr (by decide) (by rfl) (pa_cons (pv 3) (pa_cons (pcall D_law_by hr (by decide) (by rfl) (pa_cons (pv 5) (pa_cons (pcall D_law_share hr (by decide) (by rfl) (pa_cons (pv 0) (pa_cons (pv 2) (pa_cons (pv 4) pa_nil)))) pa_nil))) pa_nil))))))
    (pss_one (ps_ret (pv 3))))), ?_⟩
  refine ⟨by show 2 ≤ sizeLine; decide, fun z hz => ?_⟩
  have s1 := same_new (o := .tup [V.int 0, V.int 1]) hz
  have f0 : Fr K (upd H z (.tup [V.int 0, V.int 1])) (.ref z) 0 := ⟨z, rfl, SqT.of upd_same⟩
  generalize upd H z (.tup [V.int 0, V.int 1]) = H1 at s1 f0
  refine ⟨_, rfl, _, rfl, ⟨_, sql_same s1 hh⟩, for_list (K := K) (a := hl) (xs := refs) (fun i σ H' => ∃ v x4 x5, σ = [some (.ref d), some (.ref hl), some (.ref kp), some v, x4, x5] ∧ Same H H' ∧ Fr K H' v (ldFrom 0 (W.hv.take i) (W.pl l) (W.pl p) (W.pl r))) ⟨_, _, _, rfl, s1, f0⟩ (fun i σ H' _ I => by obtain ⟨_, _, _, _, s, _⟩ := I; exact sql_same s hh) (fun i y σ H' hy I => ?_) (fun σ H' I => ?_)⟩
  · obtain ⟨v, x4, x5, rfl, s, fv⟩ := I
    obtain ⟨⟨q1, q2⟩, hq, t, xv, mv, rfl, ht, fx, fm⟩ := Paired.get? hw hy
    obtain ⟨h1, h2, h3, h4, h5⟩ := o.hv0 _ (List.mem_of_getElem? hq)
    have hi := (List.getElem?_eq_some_iff.mp hq).1
    refine ⟨t, _, rfl, sqt_same s ht, rfl, _, _, rfl, _, _, rfl, rfl, ?_⟩
    refine ⟨_, rfl, _, rfl, _, rfl, _, rfl, _, rfl, d, kp, W, l, p, r, xv, q1, rfl, wo.same s, o, sqt_same s hk, k3, fx.same s, h4, fun H2 sv s2 fs => ?_⟩
    have zs := o.sz_sh k3 h4
    refine ⟨mv, sv, q2, _, rfl, (fm.same s).same s2, fs, ⟨_, _, h5, zs, by decide⟩, trivial, fun H3 bv s3 fb => ?_⟩
    refine ⟨v, bv, _, _, rfl, (fv.same s2).same s3, fb, ⟨_, _, o.sz_ldi k3 i (by omega), h5.mul zs, by decide⟩, trivial, fun H4 nv s4 fn => ?_⟩
    refine ⟨nv, _, _, rfl, ((s.trans s2).trans s3).trans s4, ?_⟩
    rw [ld_take hq]
    exact fn
  · obtain ⟨v, x4, x5, rfl, s, fv⟩ := I
    rw [Paired.length hw, List.take_length] at fv
    exact ⟨_, rfl, k H' v s fv⟩
/-- r is the tuple of the left, the prop and the right, tracked -/
def Sx (H : Hp) (r : V) (q : Int × Int × Int) : Prop := ∃ t, r = .ref t ∧ H t = some (.tup [.int q.1, .int q.2.1, .int q.2.2])
theorem Sx.keep {H H' : Hp} {r : V} {q : Int × Int × Int} (e : Keep H H') (h : Sx H r q) : Sx H' r q := by
  obtain ⟨t, rfl, h⟩ := h
  exact ⟨t, rfl, e _ _ h (fun z => z)⟩
/-- all keys, each once at least -/
structure Keys (n : Nat) (ks : List (Int × Int × Int)) : Prop where
  ok : ∀ q ∈ ks, Key3 n q.1 q.2.1 q.2.2
  all : ∀ l p r, Key3 n l p r → (l, p, r) ∈ ks
def spKeys (K : PySem.W.Frag) : Sp := fun vs H Q _ => ∃ (n : Nat), vs = [.int (n : Int)] ∧ n ≤ 12 ∧ ∀ H' l refs ks, Same H H' → H l = none → H' l = some (.lst refs) → Paired (Sx H') refs ks → Keys n ks → refs.length ≤ 5000 → Q (.ref l) H'
abbrev N_law_keys : List Str := ["_law_many", "_law_found", "_law_prop", "_law_left_here", "_law_right_here"]
theorem sc_law_keys : FnScope N_law_keys ["_law_many"] (defScope s_law_keys) := ⟨rfl, rfl, rfl, by decide +kernel, rfl, by decide +kernel, by decide +kernel⟩
theorem ok_lkeys (G : Gd K mg "_law_keys" s_law_keys) (B : Bt mg) : Df P w K mg base "_law_keys" ["_law_many"] 1 (spKeys K) := by
  refine df_mk G sc_law_keys (fun vs H Q E h => by obtain ⟨_, rfl, _⟩ := h; rfl) (fun _ _ _ _ _ _ us hl => match us, hl with | [_], _ => rfl) (fun f cdv A' outer sh H vs Q E hr h => ?_)
  obtain ⟨n, rfl, n12, k⟩ := h
  refine ⟨_, (pss_cons (ps_set (i := 1) sc_law_keys.nd rfl (by first | exact Or.inl rfl | exact Or.inr rfl) (pe_lst pa_nil))
    (pss_cons (ps_for PassesOwn.never rfl (pi_range1 (by rfl) B.range (pa_cons (pv 0) pa_nil)) (pg_name (i := 2) sc_law_keys.nd rfl (by first | exact Or.inl rfl | exact Or.inr rfl))
    (pss_one (ps_for PassesOwn.never rfl (pi_range2 (by rfl) B.range (pa_cons (pe_un un_neg pe_int) (pa_cons (pv 2) pa_nil))) (pg_name (i := 3) sc_law_keys.nd rfl (by first | exact Or.inl rfl | exact Or.inr rfl))
      (pss_one (ps_expr (pe_bm PySem.F.plainAttrs_list PySem.F.slot_list_extend PySem.F.type_list_extend mt_extend (pv 1) (pa_cons (pe_lc (own := [("_law_right_here", 4)]) (g := gName 4) rfl sc_law_keys.nd (pi_range2 (by rfl) B.range (pa_cons (pe_op op_add (pv 2) pe_int) (pa_cons (pe_op op_add (pv 0) pe_int) pa_nil))) (blkOk_by (N := N_law_keys) (sc := defScope s_law_keys) (by decide +kernel)) (fun _ _ _ _ _ => (pg_name (i := 4) sc_law_keys.nd rfl (by first | exact Or.inl rfl | exact Or.inr rfl))) (fun _ _ _ _ _ => pts_nil) (fun _ _ _ _ _ => (pe_tup (pa_cons (pv 3) (pa_cons (pv 2) (pa_cons (pv 4) pa_nil)))))) pa_nil)))))))
    (pss_one (ps_ret (pv 1))))), ?_⟩
  refine ⟨by decide, fun D hD => ?_⟩
  have s1 := same_new (o := .lst []) hD
  have e1 : (upd H D (.lst [])) D = some (.lst []) := upd_same
  generalize upd H D (.lst []) = H1 at s1 e1
  refine ⟨_, rfl, _, rfl, by omega, by omega, ?_⟩
  refine for_range (lo := 0) (n := (n : Int).toNat) (fun i σ H' => ∃ x2 x3 x4 refs ks, σ = [some (.int (n : Int)), some (.ref D), x2, x3, x4] ∧ Same H H' ∧ H' D = some (.lst refs) ∧ Paired (Sx H') refs ks ∧ (∀ q ∈ ks, Key3 n q.1 q.2.1 q.2.2) ∧ (∀ l p r, Key3 n l p r → p < i → (l, p, r) ∈ ks) ∧ refs.length ≤ i * 400)
    ⟨_, _, _, [], [], rfl, s1, e1, .nil, (fun _ z => nomatch z), (fun l p r k z => by have := k.2; have := k.1; exfalso; omega), by simp⟩ (fun i σ H' hi I => ?_) (fun σ H' I => ?_)
  · obtain ⟨x2, x3, x4, refs, ks, rfl, s, eD, pk, ko, ka, len⟩ := I
    refine ⟨1, rfl, _, rfl, _, _, rfl, ⟨by decide, by decide, by omega, by omega⟩, ?_⟩
    refine for_range (fun j σ H' => ∃ x3 x4 refs ks, σ = [some (.int (n : Int)), some (.ref D), some (.int (0 + (i : Nat))), x3, x4] ∧ Same H H' ∧ H' D = some (.lst refs) ∧ Paired (Sx H') refs ks ∧ (∀ q ∈ ks, Key3 n q.1 q.2.1 q.2.2) ∧ (∀ l p r, Key3 n l p r → p < i ∨ (p = i ∧ l < -1 + j) → (l, p, r) ∈ ks) ∧ refs.length ≤ i * 400 + j * 20)
      ⟨_, _, refs, ks, rfl, s, eD, pk, ko, (fun l p r k z => ka l p r k (by have := k.1; omega)), by omega⟩ (fun j σ H' hj I => ?_) (fun σ H' I => ?_)
    · obtain ⟨x3, x4, refs, ks, rfl, s, eD, pk, ko, ka, len⟩ := I
      have nD : H D = none := hD
      refine ⟨_, rfl, (.inl ⟨rfl, _, SqL.of eD⟩), _, rfl, _, _, rfl, rfl, _, rfl, _, _, rfl, rfl, _, _, rfl, ⟨by omega, by omega, by omega, by omega⟩, fun L hL => ?_⟩
      refine lc_each (w := walk_range (lo := 0 + (i : Nat) + 1) (n := ((n : Int) + 1 - (0 + (i : Nat) + 1)).toNat)) hL (by omega) (fun m y H'' => Sx H'' y ((-1 + (j : Nat) : Int), ((i : Nat) : Int), ((i : Nat) + 1 + (m : Nat) : Int))) (fun _ _ _ _ kp z => z.keep kp) (fun _ _ => trivial) (fun m y H2 H3 hm s' hy Q' k' => ?_) (fun H3 g => ?_)
      · obtain ⟨rfl, rfl⟩ := hy
        refine ⟨rfl, _, rfl, _, rfl, _, rfl, by show 3 ≤ sizeLine; decide, fun T hT => k' _ _ (same_new hT) ⟨T, rfl, ?_⟩⟩
        rw [upd_same]
        simp
      · obtain ⟨s2, ys, eL, ly, hys⟩ := g
        have eD3 := s2 _ _ eD
        have nDL : D ≠ L := by rintro rfl; rw [eD] at hL; cases hL
        refine ⟨D, L, refs, ys, rfl, rfl, eD3, eL, small (by omega), ?_⟩
        have kp : Keep H3 (upd H3 D (.lst (refs ++ ys))) := Keep.upd (by rw [eD3]; exact trivial)
        refine ⟨_, _, refs ++ ys, ks ++ (List.range ((n : Int) + 1 - (0 + (i : Nat) + 1)).toNat).map fun m : Nat => ((-1 + (j : Nat) : Int), ((i : Nat) : Int), ((i : Nat) + 1 + (m : Nat) : Int)), rfl, same_mut (s.trans s2) hD, upd_same, ?_, ?_, ?_, ?_⟩
        · refine Paired.app (Paired.mapP pk fun _ _ z => z.keep ((Same.keep s2).trans kp)) (paired_of (by rw [List.length_map, List.length_range, ly]) fun m y q e1 e2 => ?_)
          rw [List.getElem?_map] at e2
          obtain ⟨m', h1, rfl⟩ := Option.map_eq_some_iff.mp e2
          have : m' = m := by
            have h2 := List.getElem?_eq_some_iff.mp h1
            obtain ⟨_, h2⟩ := h2
            rw [List.getElem_range] at h2
            exact h2.symm
          subst this
          exact (hys _ _ e1).keep kp
        · intro q hq
          rcases List.mem_append.mp hq with hq | hq
          · exact ko q hq
          · obtain ⟨m, hm, rfl⟩ := List.mem_map.mp hq
            have hm := List.mem_range.mp hm
            exact ⟨by show (-1 : Int) ≤ -1 + (j : Nat); omega, by show (-1 : Int) + (j : Nat) < (i : Nat); omega, by show ((i : Nat) : Int) < (i : Nat) + 1 + (m : Nat); omega, by show ((i : Nat) : Int) + 1 + (m : Nat) ≤ (n : Nat); omega⟩
        · intro l p r k3 hz
          refine List.mem_append.mpr ?_
          by_cases h : p < i ∨ (p = i ∧ l < -1 + j)
          · exact .inl (ka l p r k3 h)
          · refine .inr (List.mem_map.mpr ⟨(r - i - 1).toNat, List.mem_range.mpr ?_, ?_⟩)
            · have := k3.3; have := k3.4; omega
            · have := k3.3
              have e1 : l = -1 + (j : Nat) := by omega
              have e2 : p = (i : Nat) := by omega
              have e3 : r = (i : Nat) + 1 + (((r - i - 1).toNat : Nat) : Int) := by omega
              rw [← e1, ← e2]
              exact Prod.ext rfl (Prod.ext rfl (by show p + 1 + _ = r; omega))
        · rw [List.length_append, ly]
          omega
    · obtain ⟨x3, x4, refs, ks, rfl, s, eD, pk, ko, ka, len⟩ := I
      refine ⟨_, _, _, refs, ks, rfl, s, eD, pk, ko, (fun l p r k z => ka l p r k ?_), ?_⟩
      · have := k.2; omega
      · have : ((0 + (i : Nat) : Int) - -1).toNat ≤ 20 := by omega
        have := Nat.mul_le_mul_right 20 this
        omega
  · obtain ⟨x2, x3, x4, refs, ks, rfl, s, eD, pk, ko, ka, len⟩ := I
    exact ⟨_, rfl, k H' D refs ks s hD eD pk ⟨ko, fun l p r k => ka l p r k (by have := k.3; have := k.4; omega)⟩ (by omega)⟩
end Pf
end

section
namespace Pf
open PySem PySem.Spec PyProof.Rows L2
variable {P : Program} {w : World} {K : PySem.W.Frag} {mg : Str → Option Value} {base : Heap} {a : Ad}
/-- a list of digits -/
structure Dg (K : PySem.W.Frag) (H : Hp) (l : Addr) (n : Nat) : Prop where
  ex : ∃ ds : List Int, SqL K H l (ds.map V.int) ∧ ds.length = n ∧ ∀ d ∈ ds, 0 ≤ d ∧ d < 1009
theorem Dg.same {H H' : Hp} {l : Addr} {n : Nat} (s : Same H H') (h : Dg K H l n) : Dg K H' l n := by
  obtain ⟨ds, h1, h2⟩ := h.ex
  exact ⟨ds, sql_same s h1, h2⟩
/-- the digit at j -/
theorem Dg.get {H : Hp} {l : Addr} {n : Nat} (h : Dg K H l n) {j : Int} (h0 : 0 ≤ j) (h1 : j < n) : ∃ xs x, SqL K H l xs ∧ atI xs j = some (V.int x) ∧ 0 ≤ x ∧ x < 1009 := by
  obtain ⟨ds, e1, e2, e3⟩ := h.ex
  have hl : j.toNat < ds.length := by omega
  have hx : (ds.map V.int)[j.toNat]? = some (V.int ds[j.toNat]) := by rw [List.getElem?_map, List.getElem?_eq_getElem hl]; rfl
  exact ⟨_, _, e1, at_of (j := j.toNat) (by omega) hx, e3 _ (List.getElem_mem hl)⟩
theorem cut_in {t b L : Int} (h0 : 0 ≤ t) (hb : 0 < b) (h : t ≤ L * b) : 0 ≤ ((t : Rat) / (b : Rat)) ∧ ((t : Rat) / (b : Rat)) ≤ (L : Rat) := by
  have pb : (0 : Rat) < (b : Rat) := by exact_mod_cast hb
  exact ⟨rdiv_nonneg pb (by exact_mod_cast h0), (rdiv_le pb).mpr (by rw [← Rat.intCast_mul]; exact cast_le h)⟩
theorem cut_pos {t b : Int} (h0 : 0 < t) (hb : 0 < b) : 0 < ((t : Rat) / (b : Rat)) := by
  have pb : (0 : Rat) < (b : Rat) := by exact_mod_cast hb
  have pt : (0 : Rat) < (t : Rat) := by exact_mod_cast h0
  exact (Rat.lt_div_iff pb).mpr (by rw [Rat.zero_mul]; exact pt)
theorem spots_at {W : Wd} (o : W.Ok) {j : Int} (h0 : 0 ≤ j) (h1 : j < W.n) : ∃ x : Int, atI ((W.ps.map (·.1)).map V.int) j = some (V.int x) ∧ 0 < x ∧ x < W.long := by
  have hl : j.toNat < W.ps.length := by show j.toNat < W.n; omega
  have hx : W.ps[j.toNat]? = some W.ps[j.toNat] := List.getElem?_eq_getElem hl
  refine ⟨W.ps[j.toNat].1, at_of (j := j.toNat) (by omega) ?_, o.inn _ _ _ hx⟩
  rw [List.getElem?_map, List.getElem?_map, hx]
  rfl
def spHeavy (K : PySem.W.Frag) : Sp := fun vs H Q _ => ∃ (dl d : Addr) (n : Nat) (W : Wd), vs = [.ref dl, .ref d] ∧ Dg K H dl n ∧ 26 ≤ n ∧ WoS H d W ∧ W.Ok ∧ 0 < W.n ∧
  ∀ H' l refs hv, Same H H' → H l = none → H' l = some (.lst refs) → Paired (Wt K H') refs hv → hv.length ≤ 5 → (∀ q ∈ hv, 0 ≤ q.1 ∧ q.1 ≤ (W.long : Rat) ∧ 0 < q.2 ∧ Sz 100 q.1 ∧ Sz 100 q.2) → Q (.ref l) H'
abbrev N_law_heavy : List Str := ["_law_digits_here", "_law_world_here", "_law_found", "_law_k", "_law_bottom", "_law_spot"]
theorem sc_law_heavy : FnScope N_law_heavy ["_law_digits_here", "_law_world_here"] (defScope s_law_heavy) := ⟨rfl, rfl, rfl, by decide +kernel, rfl, by decide +kernel, by decide +kernel⟩
theorem ok_lheavy (G : Gd K mg "_law_heavy" s_law_heavy) (B : Bt mg) (D_law_cut : Df P w K mg base "_law_cut" ["_law_top", "_law_bottom"] 1 (spCut K)) : Df P w K mg base "_law_heavy" ["_law_digits_here", "_law_world_here"] 2 (spHeavy K) := by
  refine df_mk G sc_law_heavy (fun vs H Q E h => by obtain ⟨_, _, _, _, rfl, _⟩ := h; rfl) (fun _ _ _ _ _ _ us hl => match us, hl with | [_, _], _ => rfl) (fun f cdv A' outer sh H vs Q E hr h => ?_)
  obtain ⟨dl, d, n, W, rfl, dg, n26, wo, o, np, k⟩ := h
  have hu := hu_of hr
  have l2 := o.l2
  have lm := o.lm
  have n12 := o.n12
  refine ⟨_, (pss_cons (ps_set (i := 2) sc_law_heavy.nd rfl (by first | exact Or.inl rfl | exact Or.inr rfl) (pe_lst pa_nil))
    (pss_cons (ps_for PassesOwn.never rfl (pi_range1 (by rfl) B.range (pa_cons (pe_op op_mod (pe_callTy call_int1 (by rfl) B.int (by decide +kernel) (pa_cons (pe_ix (r := rIxL K) ix_list (pv 0) pe_int (fun _ _ => rfl)) pa_nil)) pe_int) pa_nil)) (pg_name (i := 3) sc_law_heavy.nd rfl (by first | exact Or.inl rfl | exact Or.inr rfl))
    (pss_cons (ps_set (i := 4) sc_law_heavy.nd rfl (by first | exact Or.inl rfl | exact Or.inr rfl) (pe_op op_add pe_int (pe_op op_mod (pe_callTy call_int1 (by rfl) B.int (by decide +kernel) (pa_cons (pe_ix (r := rIxL K) ix_list (pv 0) (pe_op op_add pe_int (pv 3)) (fun _ _ => rfl)) pa_nil)) pe_int)))
      (pss_cons (ps_set (i := 5) sc_law_heavy.nd rfl (by first | exact Or.inl rfl | exact Or.inr rfl) (pcall D_law_cut hr (by decide) (by rfl) (pa_cons (pe_op op_mod (pe_callTy call_int1 (by rfl) B.int (by decide +kernel) (pa_cons (pe_ix (r := rIxL K) ix_list (pv 0) (pe_op op_add pe_int (pv 3)) (fun _ _ => rfl)) pa_nil)) (pe_op op_add (pe_op op_mulW (pe_dget hu (pv 1) pe_str (fun _ _ => rfl)) (pv 4)) pe_int)) (pa_cons (pv 4) pa_nil))))
      (pss_cons (ps_if (pt_cmpR op_eq (pe_op op_mod (pe_callTy call_int1 (by rfl) B.int (by decide +kernel) (pa_cons (pe_ix (r := rIxL K) ix_list (pv 0) (pe_op op_add pe_int (pv 3)) (fun _ _ => rfl)) pa_nil)) pe_int) pe_int (nomark _))
      (pss_one (ps_set (i := 5) sc_law_heavy.nd rfl (by first | exact Or.inl rfl | exact Or.inr rfl) (pe_tup (pa_cons (pe_ix (r := rIxL K) ix_list (pe_dget hu (pv 1) pe_str (fun _ _ => rfl)) (pe_op op_mod (pe_callTy call_int1 (by rfl) B.int (by decide +kernel) (pa_cons (pe_ix (r := rIxL K) ix_list (pv 0) (pe_op op_add pe_int (pv 3)) (fun _ _ => rfl)) pa_nil)) (pe_callB call_len_seq (by rfl) B.len (by decide +kernel) (pa_cons (pe_dget hu (pv 1) pe_str (fun _ _ => rfl)) pa_nil))) (fun _ _ => rfl)) (pa_cons pe_int pa_nil)))))
      pss_nil)
      (pss_one (ps_expr (pe_bm PySem.F.plainAttrs_list PySem.F.slot_list_append PySem.F.type_list_append mt_append (pv 2) (pa_cons (pe_tup (pa_cons (pv 5) (pa_cons (pcall D_law_cut hr (by decide) (by rfl) (pa_cons (pe_op op_add pe_int (pe_op op_mod (pe_callTy call_int1 (by rfl) B.int (by decide +kernel) (pa_cons (pe_ix (r := rIxL K) ix_list (pv 0) (pe_op op_add pe_int (pv 3)) (fun _ _ => rfl)) pa_nil)) pe_int)) (pa_cons (pe_op op_add pe_int (pe_op op_mod (pe_callTy call_int1 (by rfl) B.int (by decide +kernel) (pa_cons (pe_ix (r := rIxL K) ix_list (pv 0) (pe_op op_add pe_int (pv 3)) (fun _ _ => rfl)) pa_nil)) pe_int)) pa_nil))) pa_nil))) pa_nil))))))))
    (pss_one (ps_ret (pv 2))))), ?_⟩
  refine ⟨by decide, fun D hD => ?_⟩
  have s1 := same_new (o := .lst []) hD
  have e1 : (upd H D (.lst [])) D = some (.lst []) := upd_same
  generalize upd H D (.lst []) = H1 at s1 e1
  obtain ⟨xs0, d0, y0, a0, b0, c0⟩ := (dg.same s1).get (j := 0) (by decide) (by omega)
  have m0 := Int.emod_nonneg d0 (show (6 : Int) ≠ 0 by decide)
  have m1 := Int.emod_lt_of_pos d0 (show (0 : Int) < 6 by decide)
  refine ⟨_, rfl, dl, _, 0, _, rfl, rfl, y0, a0, .inl ⟨_, rfl, _, _, rfl, rfl, (show (0 : Int) < 6 by decide), _, rfl, ?_⟩⟩
  refine ⟨(show -(2 ^ 62) ≤ d0 % 6 by omega), (show d0 % 6 < 2 ^ 62 by omega), ?_⟩
  refine for_range (lo := 0) (n := (d0 % 6).toNat) (fun i σ H' => ∃ x3 x4 x5 refs hv, σ = [some (.ref dl), some (.ref d), some (.ref D), x3, x4, x5] ∧ Same H H' ∧ H' D = some (.lst refs) ∧ Paired (Wt K H') refs hv ∧ hv.length = i ∧ (∀ q ∈ hv, 0 ≤ q.1 ∧ q.1 ≤ (W.long : Rat) ∧ 0 < q.2 ∧ Sz 100 q.1 ∧ Sz 100 q.2))
    ⟨_, _, _, [], [], rfl, s1, e1, .nil, rfl, (fun _ z => nomatch z)⟩ (fun i σ H' hi I => ?_) (fun σ H' I => ?_)
  · obtain ⟨x3, x4, x5, refs, hv, rfl, s, eD, pw, ll, ok⟩ := I
    obtain ⟨xs1, d1, y1, a1, b1, c1⟩ := (dg.same s).get (j := 1 + (0 + (i : Nat))) (by omega) (by omega)
    have p0 := Int.emod_nonneg d1 (show (3 : Int) ≠ 0 by decide)
    have p1 := Int.emod_lt_of_pos d1 (show (0 : Int) < 3 by decide)
    refine ⟨_, rfl, _, rfl, _, _, rfl, rfl, dl, _, _, _, rfl, rfl, y1, a1, .inl ⟨_, rfl, _, _, rfl, rfl, (show (0 : Int) < 3 by decide), _, _, rfl, rfl, ?_⟩⟩
    dsimp only
    generalize d1 % 3 = b3 at p0 p1 ⊢
    obtain ⟨xs2, d2, y2, a2, b2, c2⟩ := (dg.same s).get (j := 6 + (0 + (i : Nat))) (by omega) (by omega)
    obtain ⟨kvs, sl, g1, g2, g3, g4⟩ := (wo.same s).ex
    have hb : 0 < 1 + b3 := by omega
    have mx : W.long * (1 + b3) ≤ 1000 * 3 := Int.mul_le_mul lm (by omega) (by omega) (by omega)
    have mn : 0 < W.long * (1 + b3) := Int.mul_pos (by omega) hb
    refine ⟨_, rfl, _, rfl, _, _, rfl, rfl, dl, _, _, _, rfl, rfl, y2, a2, .inl ⟨_, rfl, _, rfl, d, _, rfl, getK g1 g2, _, rfl, _, _, rfl, rfl, mul64 (by omega) (by omega), _, _, rfl, rfl, _, _, rfl, rfl, (show (0 : Int) < W.long * (1 + b3) + 1 by omega), _, rfl, _, _, rfl, hb, pow_up (m := 2) (by decide) (by show (1 + b3).natAbs < 4; omega), fun H2 v2 s2 f2 => ?_⟩⟩
    have t0 := Int.emod_nonneg d2 (show W.long * (1 + b3) + 1 ≠ 0 by omega)
    have t1 := Int.emod_lt_of_pos d2 (show 0 < W.long * (1 + b3) + 1 by omega)
    have sp1 := cut_in (L := W.long) t0 hb (by omega)
    have sz1 : Sz 100 (((d2 % (W.long * (1 + b3) + 1) : Int) : Rat) / ((1 + b3 : Int) : Rat)) := cut_sz hb (pow_up (m := 12) (by decide) (by show _ < 4096; omega)) (pow_up (m := 2) (by decide) (by show (1 + b3).natAbs < 4; omega))
    obtain ⟨xs4, d4, y4, a4, b4, c4⟩ := ((dg.same s).same s2).get (j := 11 + (0 + (i : Nat))) (by omega) (by omega)
    have ss := s.trans s2
    have eD2 := s2 _ _ eD
    refine ⟨_, rfl, _, rfl, _, _, rfl, rfl, dl, _, _, _, rfl, rfl, y4, a4, .inl ⟨_, rfl, _, _, rfl, rfl, (show (0 : Int) < 3 by decide), rfl, _, rfl, ite2 (fun _ => ?_) (fun _ => ?_)⟩⟩
    · obtain ⟨xs3, d3, y3, a3, b3', c3⟩ := ((dg.same s).same s2).get (j := 6 + (0 + (i : Nat))) (by omega) (by omega)
      have u0 := Int.emod_nonneg d3 (show (W.n : Int) ≠ 0 by omega)
      have u1 := Int.emod_lt_of_pos d3 (show 0 < (W.n : Int) by omega)
      obtain ⟨x, hx, x0, x1⟩ := spots_at o u0 u1
      have elen : ((((W.ps.map (·.1)).map V.int).length : Nat) : Int) = (W.n : Int) := by simp
      refine ⟨_, rfl, d, _, rfl, getK (s2 _ _ g1) g3, _, rfl, _, rfl, _, _, rfl, rfl, dl, _, _, _, rfl, rfl, y3, a3, .inl ⟨_, rfl, _, rfl, d, _, rfl, getK (s2 _ _ g1) g3, sl, _, rfl, .inl (SqL.of (s2 _ _ g4)), _, _, rfl, rfl, (by rw [elen]; show 0 < (W.n : Int); omega), sl, _, _, _, rfl, rfl, SqL.of (s2 _ _ g4), (by rw [elen]; exact hx), by show 2 ≤ sizeLine; decide, fun T3 hT3 => ?_⟩⟩
      have s3 := same_new (o := .tup [V.int x, V.int 1]) hT3
      have f3 : Fr K (upd H2 T3 (.tup [V.int x, V.int 1])) (.ref T3) (x : Rat) := fr_int (SqT.of upd_same)
      have eD3 := s3 _ _ eD2
      generalize upd H2 T3 (.tup [V.int x, V.int 1]) = H3 at s3 f3 eD3
      have ss3 := ss.trans s3
      have s23 := s2.trans s3
      have bx : (0 : Rat) ≤ (x : Rat) ∧ (x : Rat) ≤ (W.long : Rat) := ⟨by exact_mod_cast (show (0 : Int) ≤ x by omega), cast_le (by omega)⟩
      have zx : Sz 100 (x : Rat) := (sz_len (by omega) (by omega)).mono (by decide)
      obtain ⟨xs5, d5, y5, a5, b5, c5⟩ := (dg.same ss3).get (j := 16 + (0 + (i : Nat))) (by omega) (by omega)
      obtain ⟨xs6, d6, y6, a6, b6, c6⟩ := (dg.same ss3).get (j := 21 + (0 + (i : Nat))) (by omega) (by omega)
      have r0 := Int.emod_nonneg d5 (show (9 : Int) ≠ 0 by decide)
      have r1 := Int.emod_lt_of_pos d5 (show (0 : Int) < 9 by decide)
      have r2 := Int.emod_nonneg d6 (show (3 : Int) ≠ 0 by decide)
      have r3 := Int.emod_lt_of_pos d6 (show (0 : Int) < 3 by decide)
      have hb2 : 0 < 1 + d6 % 3 := by omega
      refine ⟨_, rfl, (.inl ⟨rfl, _, SqL.of eD3⟩), _, rfl, _, rfl, _, rfl, _, _, rfl, rfl, dl, _, _, _, rfl, rfl, y5, a5, .inl ⟨_, rfl, _, _, rfl, rfl, (show (0 : Int) < 9 by decide), _, _, rfl, rfl, _, rfl, _, rfl, _, _, rfl, rfl, dl, _, _, _, rfl, rfl, y6, a6, .inl ⟨_, rfl, _, _, rfl, rfl, (show (0 : Int) < 3 by decide), _, _, rfl, rfl, _, _, rfl, hb2, pow_up (m := 2) (by decide) (by show (1 + d6 % 3).natAbs < 4; omega), fun H7 v7 s7 f7 => ⟨by show 2 ≤ sizeLine; decide, fun T hT => ?_⟩⟩⟩⟩
      have s8 := s7.trans (same_new (o := .tup [.ref T3, v7]) hT)
      have eD8 := s8 _ _ eD3
      have kp8 := Keep.upd (H := upd H7 T (.tup [.ref T3, v7])) (a := D) (o := .lst (refs ++ [V.ref T])) (by rw [eD8]; exact trivial)
      have sz7 : Sz 100 (((1 + d5 % 9 : Int) : Rat) / ((1 + d6 % 3 : Int) : Rat)) := cut_sz hb2 (pow_up (m := 4) (by decide) (by show _ < 16; omega)) (pow_up (m := 2) (by decide) (by show (1 + d6 % 3).natAbs < 4; omega))
      have ll' := Paired.length pw
      refine ⟨D, _, _, rfl, rfl, eD8, small_lt (by omega), _, _, _, refs ++ [V.ref T], hv ++ [((x : Rat), ((1 + d5 % 9 : Int) : Rat) / ((1 + d6 % 3 : Int) : Rat))], rfl, same_mut (ss3.trans s8) hD, upd_same, Paired.snoc ?_ (Paired.mapP pw fun _ _ z => z.keep (((Same.keep s23).trans (Same.keep s8)).trans kp8)), by rw [List.length_append, ll]; rfl, fun q hq => ?_⟩
      · exact ⟨T, .ref T3, v7, rfl, (sqt_keep kp8 (SqT.of upd_same)), (f3.same s8).keep kp8, (f7.same (same_new hT)).keep kp8⟩
      · rcases List.mem_append.mp hq with hq | hq
        · exact ok q hq
        · rw [List.mem_singleton.mp hq]
          exact ⟨bx.1, bx.2, cut_pos (by omega) hb2, zx, sz7⟩
    · obtain ⟨xs5, d5, y5, a5, b5, c5⟩ := (dg.same ss).get (j := 16 + (0 + (i : Nat))) (by omega) (by omega)
      obtain ⟨xs6, d6, y6, a6, b6, c6⟩ := (dg.same ss).get (j := 21 + (0 + (i : Nat))) (by omega) (by omega)
      have r0 := Int.emod_nonneg d5 (show (9 : Int) ≠ 0 by decide)
      have r1 := Int.emod_lt_of_pos d5 (show (0 : Int) < 9 by decide)
      have r2 := Int.emod_nonneg d6 (show (3 : Int) ≠ 0 by decide)
      have r3 := Int.emod_lt_of_pos d6 (show (0 : Int) < 3 by decide)
      have hb2 : 0 < 1 + d6 % 3 := by omega
      refine ⟨_, rfl, (.inl ⟨rfl, _, SqL.of eD2⟩), _, rfl, _, rfl, _, rfl, _, _, rfl, rfl, dl, _, _, _, rfl, rfl, y5, a5, .inl ⟨_, rfl, _, _, rfl, rfl, (show (0 : Int) < 9 by decide), _, _, rfl, rfl, _, rfl, _, rfl, _, _, rfl, rfl, dl, _, _, _, rfl, rfl, y6, a6, .inl ⟨_, rfl, _, _, rfl, rfl, (show (0 : Int) < 3 by decide), _, _, rfl, rfl, _, _, rfl, hb2, pow_up (m := 2) (by decide) (by show (1 + d6 % 3).natAbs < 4; omega), fun H7 v7 s7 f7 => ⟨by show 2 ≤ sizeLine; decide, fun T hT => ?_⟩⟩⟩⟩
      have s8 := s7.trans (same_new (o := .tup [v2, v7]) hT)
      have eD8 := s8 _ _ eD2
      have kp8 := Keep.upd (H := upd H7 T (.tup [v2, v7])) (a := D) (o := .lst (refs ++ [V.ref T])) (by rw [eD8]; exact trivial)
      have sz7 : Sz 100 (((1 + d5 % 9 : Int) : Rat) / ((1 + d6 % 3 : Int) : Rat)) := cut_sz hb2 (pow_up (m := 4) (by decide) (by show _ < 16; omega)) (pow_up (m := 2) (by decide) (by show (1 + d6 % 3).natAbs < 4; omega))
      have ll' := Paired.length pw
      refine ⟨D, _, _, rfl, rfl, eD8, small_lt (by omega), _, _, _, refs ++ [V.ref T], hv ++ [(((d2 % (W.long * (1 + b3) + 1) : Int) : Rat) / ((1 + b3 : Int) : Rat), ((1 + d5 % 9 : Int) : Rat) / ((1 + d6 % 3 : Int) : Rat))], rfl, same_mut (ss.trans s8) hD, upd_same, Paired.snoc ?_ (Paired.mapP pw fun _ _ z => z.keep (((Same.keep s2).trans (Same.keep s8)).trans kp8)), by rw [List.length_append, ll]; rfl, fun q hq => ?_⟩
      · exact ⟨T, v2, v7, rfl, (sqt_keep kp8 (SqT.of upd_same)), (f2.same s8).keep kp8, (f7.same (same_new hT)).keep kp8⟩
      · rcases List.mem_append.mp hq with hq | hq
        · exact ok q hq
        · rw [List.mem_singleton.mp hq]
          exact ⟨sp1.1, sp1.2, cut_pos (by omega) hb2, sz1, sz7⟩
  · obtain ⟨x3, x4, x5, refs, hv, rfl, s, eD, pw, ll, ok⟩ := I
    exact ⟨_, rfl, k H' D refs hv s hD eD pw (by omega) ok⟩
end Pf
end

section
namespace Pf
open PySem PySem.Spec PyProof.Rows L2
/-! ### worlds of gaps -/
theorem take_sum {gs : List Int} {i : Nat} (h : i < gs.length) : (gs.take (i + 1)).sum = (gs.take i).sum + gs[i] := by
  rw [List.take_add_one, List.getElem?_eq_getElem h, List.sum_append]
  simp
theorem take_sum_lt {gs : List Int} (h1 : ∀ g ∈ gs, 1 ≤ g) {i : Nat} : ∀ {j : Nat}, i < j → j ≤ gs.length → (gs.take i).sum < (gs.take j).sum
  | 0, h, _ => by omega
  | j + 1, h, hj => by
    have e := take_sum (gs := gs) (i := j) (by omega)
    have g := h1 _ (List.getElem_mem (show j < gs.length by omega))
    rcases (by omega : i = j ∨ i < j) with z | z
    · subst z; omega
    · have := take_sum_lt h1 z (by omega); omega
theorem take_sum_le {gs : List Int} (h30 : ∀ g ∈ gs, g ≤ 30) : ∀ {j : Nat}, j ≤ gs.length → (gs.take j).sum ≤ 30 * j
  | 0, _ => by simp
  | j + 1, hj => by
    have e := take_sum (gs := gs) (i := j) (by omega)
    have g := h30 _ (List.getElem_mem (show j < gs.length by omega))
    have := take_sum_le h30 (j := j) (by omega)
    omega
def spotsOf (gs : List Int) (n : Nat) : List Int := (List.range n).map fun k => (gs.take (k + 1)).sum
def mkW (gs : List Int) (n : Nat) (sts : List Rat) (hv : List (Rat × Rat)) : Wd := ⟨gs.sum, (List.range n).map fun k => ((gs.take (k + 1)).sum, sts.getD k 0), hv⟩
theorem mkW_n {gs : List Int} {n : Nat} {sts : List Rat} {hv : List (Rat × Rat)} : (mkW gs n sts hv).n = n := by
  show ((List.range n).map _).length = n
  rw [List.length_map, List.length_range]
theorem mkW_fst {gs : List Int} {n : Nat} {sts : List Rat} {hv : List (Rat × Rat)} : (mkW gs n sts hv).ps.map (·.1) = spotsOf gs n := by
  show ((List.range n).map fun k => ((gs.take (k + 1)).sum, sts.getD k 0)).map (·.1) = _
  rw [List.map_map]
  rfl
theorem mkW_snd {gs : List Int} {n : Nat} {sts : List Rat} {hv : List (Rat × Rat)} (h : sts.length = n) : (mkW gs n sts hv).ps.map (·.2) = sts := by
  show ((List.range n).map fun k => ((gs.take (k + 1)).sum, sts.getD k 0)).map (·.2) = _
  rw [List.map_map]
  apply List.ext_getElem?
  intro k
  rw [List.getElem?_map]
  rcases Nat.lt_or_ge k n with hk | hk
  · rw [List.getElem?_range hk, List.getElem?_eq_getElem (by omega)]
    show some (sts.getD k 0) = _
    rw [List.getD_eq_getElem?_getD, List.getElem?_eq_getElem (by omega)]
    rfl
  · rw [List.getElem?_eq_none (by simp; omega), List.getElem?_eq_none (by omega)]
    rfl
theorem mkW_ok {gs : List Int} {n : Nat} {sts : List Rat} {hv : List (Rat × Rat)} (hl : gs.length = n + 1) (n1 : 1 ≤ n) (n5 : n ≤ 5) (h1 : ∀ g ∈ gs, 1 ≤ g) (h30 : ∀ g ∈ gs, g ≤ 30) (hs : ∀ s ∈ sts, 0 ≤ s ∧ Sz 2000 s) (h6 : hv.length ≤ 6)
    (hw : ∀ q ∈ hv, 0 ≤ q.1 ∧ q.1 ≤ ((gs.sum : Int) : Rat) ∧ 0 < q.2 ∧ Sz 128 q.1 ∧ Sz 128 q.2) : (mkW gs n sts hv).Ok := by
  have tot : gs.sum = (gs.take gs.length).sum := by rw [List.take_length]
  have t0 : (gs.take 0).sum = 0 := by simp
  have get : ∀ (i : Nat) (x : Int) (s : Rat), (mkW gs n sts hv).ps[i]? = some (x, s) → i < n ∧ x = (gs.take (i + 1)).sum ∧ s = sts.getD i 0 := fun i x s h => by
    have h : ((List.range n).map fun k => ((gs.take (k + 1)).sum, sts.getD k 0))[i]? = some (x, s) := h
    rw [List.getElem?_map] at h
    obtain ⟨k, hk, e⟩ := Option.map_eq_some_iff.mp h
    obtain ⟨hi, ek⟩ := List.getElem?_eq_some_iff.mp hk
    rw [List.getElem_range] at ek
    subst ek
    rw [List.length_range] at hi
    cases e
    exact ⟨hi, rfl, rfl⟩
  refine ⟨?_, ?_, ?_, ?_, ?_, ?_, h6, hw⟩
  · show 2 ≤ gs.sum
    have := take_sum_lt h1 (i := 0) (j := 1) (by omega) (by omega)
    have := take_sum_lt h1 (i := 1) (j := gs.length) (by omega) (by omega)
    omega
  · show gs.sum ≤ 1000
    have := take_sum_le h30 (j := gs.length) (by omega)
    omega
  · rw [mkW_n]; omega
  · intro i x s h
    obtain ⟨hi, rfl, _⟩ := get i x s h
    have := take_sum_lt h1 (i := 0) (j := i + 1) (by omega) (by omega)
    have := take_sum_lt h1 (i := i + 1) (j := gs.length) (by omega) (by omega)
    exact ⟨by omega, by show _ < gs.sum; omega⟩
  · intro i j x s y t hij h h'
    obtain ⟨hi, rfl, _⟩ := get i x s h
    obtain ⟨hj, rfl, _⟩ := get j y t h'
    exact take_sum_lt h1 (by omega) (by omega)
  · intro i x s h
    obtain ⟨hi, _, rfl⟩ := get i x s h
    rw [List.getD_eq_getElem?_getD]
    cases e : sts[i]? with
    | none => exact ⟨by decide, by constructor <;> (show _ < _) <;> exact Nat.lt_of_lt_of_le (by decide) (pow_le (m := 1) (n := 2000) (by decide))⟩
    | some u => exact hs u (List.mem_of_getElem? e)
theorem cutTo (xs : List V) (j : Nat) : cutV xs none (some (j : Int)) = xs.take j := by
  unfold cutV
  rw [HT.sIx_none, show HT.sIx xs.length xs.length (some (j : Int)) = min j xs.length from HT.sIx_nat xs.length xs.length j]
  rw [List.drop_zero, Nat.sub_zero]
  rcases Nat.le_total j xs.length with h | h
  · rw [Nat.min_eq_left h]
  · rw [Nat.min_eq_right h, List.take_length, List.take_of_length_le h]
theorem cutFrom (xs : List V) (j : Nat) : cutV xs (some (j : Int)) none = xs.drop j := by
  unfold cutV
  rw [HT.sIx_none, show HT.sIx xs.length 0 (some (j : Int)) = min j xs.length from HT.sIx_nat xs.length 0 j]
  rcases Nat.le_total j xs.length with h | h
  · rw [Nat.min_eq_left h]
    exact List.take_of_length_le (by rw [List.length_drop]; exact Nat.le_refl _)
  · rw [Nat.min_eq_right h, List.drop_length, List.drop_of_length_le h]
    simp
end Pf
end

section
namespace Pf
open PySem PySem.Spec PyProof.Rows L2
variable {P : Program} {w : World} {K : PySem.W.Frag} {mg : Str → Option Value} {base : Heap} {a : Ad}
theorem ints_of {Pr : Int → Prop} : ∀ ys : List V, (∀ (k : Nat) y, ys[k]? = some y → ∃ g : Int, y = .int g ∧ Pr g) → ∃ gs : List Int, ys = gs.map V.int ∧ gs.length = ys.length ∧ ∀ g ∈ gs, Pr g
  | [], _ => ⟨[], rfl, rfl, fun _ z => nomatch z⟩
  | y :: ys, h => by
    obtain ⟨g, rfl, hg⟩ := h 0 y rfl
    obtain ⟨gs, rfl, hl, hgs⟩ := ints_of ys fun k z hz => h (k + 1) z hz
    exact ⟨g :: gs, rfl, by simp, fun x hx => by
      rcases List.mem_cons.mp hx with e | hx
      · rw [e]; exact hg
      · exact hgs x hx⟩
theorem Dg.drop {H : Hp} {p : Addr} {n : Nat} {xs : List V} (j : Nat) (hx : ∃ ds : List Int, xs = ds.map V.int ∧ ds.length = n ∧ ∀ d ∈ ds, 0 ≤ d ∧ d < 1009) (e : H p = some (.lst (cutV xs (some (j : Int)) none))) : Dg K H p (n - j) := by
  obtain ⟨ds, rfl, hl, hd⟩ := hx
  rw [cutFrom, ← List.map_drop] at e
  exact ⟨ds.drop j, SqL.of e, by rw [List.length_drop, hl], fun d hd' => hd d (List.mem_of_mem_drop hd')⟩
/-- a world, whole -/
structure Wo (K : PySem.W.Frag) (H : Hp) (d : Addr) (W : Wd) : Prop where
  ex : ∃ kvs sl hl tl refs frs, H d = some (.dK kvs) ∧ valV kvs (.inr ("long" : Str)) = some (.int W.long) ∧ valV kvs (.inr ("spots" : Str)) = some (.ref sl) ∧ H sl = some (.lst ((W.ps.map (·.1)).map V.int)) ∧
    valV kvs (.inr ("heavy" : Str)) = some (.ref hl) ∧ H hl = some (.lst refs) ∧ Paired (Wt K H) refs W.hv ∧ valV kvs (.inr ("strong" : Str)) = some (.ref tl) ∧ H tl = some (.lst frs) ∧ Frs K H frs (W.ps.map (·.2))
  len : ∃ kvs, H d = some (.dK kvs) ∧ kvs.length ≤ 10
theorem Wo.same {H H' : Hp} {d : Addr} {W : Wd} (s : Same H H') (h : Wo K H d W) : Wo K H' d W := by
  obtain ⟨kvs, sl, hl, tl, refs, frs, h1, h2, h3, h4, h5, h6, h7, h8, h9, h10⟩ := h.ex
  obtain ⟨kv, l1, l2⟩ := h.len
  exact ⟨⟨kvs, sl, hl, tl, refs, frs, s _ _ h1, h2, h3, s _ _ h4, h5, s _ _ h6, Paired.mapP h7 fun _ _ z => z.keep (Same.keep s), h8, s _ _ h9, Frs.keep (Same.keep s) h10⟩, ⟨kv, s _ _ l1, l2⟩⟩
theorem Wo.s {H : Hp} {d : Addr} {W : Wd} (h : Wo K H d W) : WoS H d W := by
  obtain ⟨kvs, sl, hl, tl, refs, frs, h1, h2, h3, h4, _⟩ := h.ex
  exact ⟨kvs, sl, h1, h2, h3, h4⟩
def spWorld (K : PySem.W.Frag) : Sp := fun vs H Q _ => ∃ (dl : Addr), vs = [.ref dl, .int 5] ∧ Dg K H dl 80 ∧
  ∀ H' d gs n sts hv, Same H H' → H d = none → Wo K H' d (mkW gs n sts hv) → gs.length = n + 1 → 1 ≤ n → n ≤ 5 → (∀ g ∈ gs, 1 ≤ g ∧ g ≤ 30) → sts.length = n → (∀ s ∈ sts, 0 ≤ s ∧ Sz 1750 s) → hv.length ≤ 5 → (∀ q ∈ hv, 0 ≤ q.1 ∧ q.1 ≤ ((gs.sum : Int) : Rat) ∧ 0 < q.2 ∧ Sz 100 q.1 ∧ Sz 100 q.2) → Q (.ref d) H'
abbrev N_law_world : List Str := ["_law_digits_here", "_law_most", "_law_many", "_law_wide", "_law_gaps", "_law_world_here", "_law_k", "_law_much", "_law_more"]
theorem sc_law_world : FnScope N_law_world ["_law_digits_here", "_law_most"] (defScope s_law_world) := ⟨rfl, rfl, rfl, by decide +kernel, rfl, by decide +kernel, by decide +kernel⟩
theorem ok_lworld (G : Gd K mg "_law_world" s_law_world) (B : Bt mg) (D_law_heavy : Df P w K mg base "_law_heavy" ["_law_digits_here", "_law_world_here"] 2 (spHeavy K)) (D_law_load : Df P w K mg base "_law_load" ["_law_world_here", "_law_heavy_here", "_law_key"] 3 (spLLoad K))
    (D_law_plus : Df P w K mg base "_law_plus" ["_law_one", "_law_other"] 2 (sp2 K (· + ·) any2)) : Df P w K mg base "_law_world" ["_law_digits_here", "_law_most"] 4 (spWorld K) := by
  refine df_mk G sc_law_world (fun vs H Q E h => by obtain ⟨_, rfl, _⟩ := h; rfl) (fun _ _ _ _ _ _ us hl => match us, hl with | [_, _], _ => rfl) (fun f cdv A' outer sh H vs Q E hr h => ?_)
  obtain ⟨dl, rfl, dg, k⟩ := h
  have hu := hu_of hr
  refine ⟨_, (pss_cons (ps_set (i := 2) sc_law_world.nd rfl (by first | exact Or.inl rfl | exact Or.inr rfl) (pe_op op_add pe_int (pe_op op_mod (pe_callTy call_int1 (by rfl) B.int (by decide +kernel) (pa_cons (pe_ix (r := rIxL K) ix_list (pv 0) pe_int (fun _ _ => rfl)) pa_nil)) (pv 1))))
    (pss_cons (ps_set (i := 3) sc_law_world.nd rfl (by first | exact Or.inl rfl | exact Or.inr rfl) (pe_ix (r := rIxL K) ix_list (pe_lst (pa_cons pe_int (pa_cons pe_int (pa_cons pe_int (pa_cons pe_int pa_nil))))) (pe_op op_mod (pe_callTy call_int1 (by rfl) B.int (by decide +kernel) (pa_cons (pe_ix (r := rIxL K) ix_list (pv 0) pe_int (fun _ _ => rfl)) pa_nil)) pe_int) (fun _ _ => rfl)))
    (pss_cons (ps_set (i := 4) sc_law_world.nd rfl (by first | exact Or.inl rfl | exact Or.inr rfl) (pe_lc (own := [("_law_k", 6)]) (g := gName 6) rfl sc_law_world.nd (pi_range1 (by rfl) B.range (pa_cons (pe_op op_add (pv 2) pe_int) pa_nil)) (blkOk_by (N := N_law_world) (sc := defScope s_law_world) (by decide +kernel)) (fun _ _ _ _ _ => (pg_name (i := 6) sc_law_world.nd rfl (by first | exact Or.inl rfl | exact Or.inr rfl))) (fun _ _ _ _ _ => pts_nil) (fun _ _ _ _ _ => (pe_op op_add pe_int (pe_op op_mod (pe_callTy call_int1 (by rfl) B.int (by decide +kernel) (pa_cons (pe_ix (r := rIxL K) ix_list (pv 0) (pe_op op_add pe_int (pv 6)) (fun _ _ => rfl)) pa_nil)) (pv 3))))))
    (pss_cons (ps_set (i := 5) sc_law_world.nd rfl (by first | exact Or.inl rfl | exact Or.inr rfl) (pe_disp (pps_cons pe_str (pe_callB (r := rSum K) (cr_sum rfl) (by rfl) B.sum (by decide +kernel) (pa_cons (pv 4) pa_nil)) (pps_cons pe_str (pe_lc (own := [("_law_k", 6)]) (g := gName 6) rfl sc_law_world.nd (pi_range1 (by rfl) B.range (pa_cons (pv 2) pa_nil)) (blkOk_by (N := N_law_world) (sc := defScope s_law_world) (by decide +kernel)) (fun _ _ _ _ _ => (pg_name (i := 6) sc_law_world.nd rfl (by first | exact Or.inl rfl | exact Or.inr rfl))) (fun _ _ _ _ _ => pts_nil) (fun _ _ _ _ _ => (pe_callB (r := rSum K) (cr_sum rfl) (by rfl) B.sum (by decide +kernel) (pa_cons (pe_slice (r := rSlL K) sl_list (pv 4) po_none (po_some (pe_op op_add (pv 6) pe_int))) pa_nil)))) pps_nil)) (by rfl) (by rfl) (fun z => by cases z) (by decide)))
    (pss_cons (ps_dput hu (pv 5) pe_str (pcall D_law_heavy hr (by decide) (by rfl) (pa_cons (pe_slice (r := rSlL K) sl_list (pv 0) (po_some pe_int) po_none) (pa_cons (pv 5) pa_nil))) rfl)
    (pss_cons (ps_dput hu (pv 5) pe_str (pe_lst pa_nil) rfl)
    (pss_cons (ps_for PassesOwn.never rfl (pi_range1 (by rfl) B.range (pa_cons (pv 2) pa_nil)) (pg_name (i := 6) sc_law_world.nd rfl (by first | exact Or.inl rfl | exact Or.inr rfl))
    (pss_cons (ps_set (i := 7) sc_law_world.nd rfl (by first | exact Or.inl rfl | exact Or.inr rfl) (pcall D_law_load hr (by decide) (by rfl) (pa_cons (pv 5) (pa_cons (pe_dget hu (pv 5) pe_str (fun _ _ => rfl)) (pa_cons (pe_tup (pa_cons (pe_op op_sub (pv 6) pe_int) (pa_cons (pv 6) (pa_cons (pe_op op_add (pv 6) pe_int) pa_nil)))) pa_nil)))))
      (pss_cons (ps_set (i := 8) sc_law_world.nd rfl (by first | exact Or.inl rfl | exact Or.inr rfl) (pe_ix (r := rIxL K) ix_list (pe_lst (pa_cons (pe_tup (pa_cons pe_int (pa_cons pe_int pa_nil))) (pa_cons (pe_tup (pa_cons (pe_un un_neg pe_int) (pa_cons pe_int pa_nil))) (pa_cons (pe_tup (pa_cons pe_int (pa_cons pe_int pa_nil))) (pa_cons (pe_tup (pa_cons pe_int (pa_cons pe_int pa_nil))) (pa_cons (pe_tup (pa_cons pe_int (pa_cons pe_int pa_nil))) (pa_cons (pe_tup (pa_cons (pe_op op_mod (pe_callTy call_int1 (by rfl) B.int (by decide +kernel) (pa_cons (pe_ix (r := rIxL K) ix_list (pv 0) (pe_op op_add pe_int (pv 6)) (fun _ _ => rfl)) pa_nil)) pe_int) (pa_cons pe_int pa_nil))) pa_nil))))))) (pe_op op_mod (pe_callTy call_int1 (by rfl) B.int (by decide +kernel) (pa_cons (pe_ix (r := rIxL K) ix_list (pv 0) (pe_op op_add pe_int (pv 6)) (fun _ _ => rfl)) pa_nil)) pe_int) (fun _ _ => rfl)))
      (pss_cons (ps_set (i := 7) sc_law_world.nd rfl (by first | exact Or.inl rfl | exact Or.inr rfl) (pcall D_law_plus hr (by decide) (by rfl) (pa_cons (pv 7) (pa_cons (pv 8) pa_nil))))
      (pss_one (ps_expr (pe_bm PySem.F.plainAttrs_list PySem.F.slot_list_append PySem.F.type_list_append mt_append (pe_dget hu (pv 5) pe_str (fun _ _ => rfl)) (pa_cons (pe_ix (r := rIxL K) ix_list (pe_lst (pa_cons (pv 7) (pa_cons (pe_tup (pa_cons pe_int (pa_cons pe_int pa_nil))) pa_nil))) (pe_callTy call_int1 (by rfl) B.int (by decide +kernel) (pa_cons (pe_cmpR op_lt (pe_ix (r := rIxT K) ix_tup (pv 7) pe_int (fun _ _ => rfl)) pe_int (nomark _)) pa_nil)) (fun _ _ => rfl)) pa_nil))))))))
    (pss_one (ps_ret (pv 5)))))))))), ?_⟩
  obtain ⟨xs0, d0, y0, a0, b0, c0⟩ := dg.get (j := 0) (by decide) (by decide)
  have m0 := Int.emod_nonneg d0 (show (5 : Int) ≠ 0 by decide)
  have m1 := Int.emod_lt_of_pos d0 (show (0 : Int) < 5 by decide)
  refine ⟨_, rfl, dl, _, 0, _, rfl, rfl, y0, a0, .inl ⟨_, rfl, _, rfl, _, _, rfl, rfl, (show (0 : Int) < 5 by decide), _, _, rfl, rfl, ?_⟩⟩
  obtain ⟨n, hn⟩ : ∃ n : Nat, ((n : Nat) : Int) = 1 + d0 % 5 := ⟨(1 + d0 % 5).toNat, by omega⟩
  dsimp only
  rw [← hn]
  have n1 : 1 ≤ n := by omega
  have n5 : n ≤ 5 := by omega
  clear hn m0 m1
  -- the width
  refine ⟨by show 4 ≤ sizeLine; decide, fun L hL => ?_⟩
  have s1 := same_new (o := .lst [V.int 1, V.int 2, V.int 5, V.int 30]) hL
  obtain ⟨xs1, d1, y1, a1, b1, c1⟩ := (dg.same s1).get (j := 1) (by decide) (by decide)
  have q0 := Int.emod_nonneg d1 (show (4 : Int) ≠ 0 by decide)
  have q1 := Int.emod_lt_of_pos d1 (show (0 : Int) < 4 by decide)
  obtain ⟨wd, hwd, w1, w30⟩ : ∃ wd : Int, atI [V.int 1, V.int 2, V.int 5, V.int 30] (d1 % 4) = some (V.int wd) ∧ 1 ≤ wd ∧ wd ≤ 30 := by
    rcases (by omega : d1 % 4 = 0 ∨ d1 % 4 = 1 ∨ d1 % 4 = 2 ∨ d1 % 4 = 3) with e | e | e | e <;> rw [e]
    · exact ⟨1, rfl, by decide, by decide⟩
    · exact ⟨2, rfl, by decide, by decide⟩
    · exact ⟨5, rfl, by decide, by decide⟩
    · exact ⟨30, rfl, by decide, by decide⟩
  refine ⟨_, rfl, dl, _, 1, _, rfl, rfl, y1, a1, .inl ⟨_, rfl, _, _, rfl, rfl, (show (0 : Int) < 4 by decide), L, _, _, _, rfl, rfl, SqL.of upd_same, hwd, ?_⟩⟩
  generalize upd H L (.lst [V.int 1, V.int 2, V.int 5, V.int 30]) = H1 at s1
  -- the gaps
  refine ⟨_, rfl, _, _, rfl, rfl, (n : Int) + 1, rfl, by omega, by omega, fun Gp hGp => ?_⟩
  refine lc_each (w := walk_range (lo := 0) (n := ((n : Int) + 1).toNat)) hGp (by omega) (fun _ y _ => ∃ g : Int, y = .int g ∧ 1 ≤ g ∧ g ≤ 30) (fun _ _ _ _ _ z => z) (fun _ _ => trivial) (fun i y H2 H3 hi s' hy Q' k' => ?_) (fun H2 g => ?_)
  · obtain ⟨rfl, rfl⟩ := hy
    obtain ⟨xs2, d2, y2, a2, b2, c2⟩ := (dg.same (s1.trans s')).get (j := 2 + (0 + (i : Nat))) (by omega) (by omega)
    have r0 := Int.emod_nonneg d2 (show wd ≠ 0 by omega)
    have r1 := Int.emod_lt_of_pos d2 (show 0 < wd by omega)
    exact ⟨rfl, _, rfl, _, rfl, _, _, rfl, rfl, dl, _, _, _, rfl, rfl, y2, a2, .inl ⟨_, rfl, _, rfl, _, _, rfl, rfl, (show 0 < wd by omega), _, _, rfl, rfl, k' _ _ (Same.refl _) ⟨_, rfl, by omega, by omega⟩⟩⟩
  obtain ⟨s2, ys, eG, ly, hys⟩ := g
  obtain ⟨gs, rfl, lg, hg⟩ : ∃ gs : List Int, ys = gs.map V.int ∧ gs.length = n + 1 ∧ ∀ g ∈ gs, 1 ≤ g ∧ g ≤ 30 := by
    obtain ⟨gs, e1, e2, e3⟩ := ints_of (Pr := fun g => 1 ≤ g ∧ g ≤ 30) ys hys
    exact ⟨gs, e1, by rw [e2, ly]; omega, e3⟩
  have s12 := s1.trans s2
  -- the dict
  refine fun d hd => ?_
  have sd := same_new (o := .dK []) hd
  have ed0 : (upd H2 d (.dK [])) d = some (.dK []) := upd_same
  have eG2 := sd _ _ eG
  have s13 := s12.trans sd
  have d0n := s12.free hd
  generalize upd H2 d (.dK []) = H3 at sd ed0 eG2 s13
  refine ⟨_, rfl, Gp, gs, rfl, SqL.of eG2, ?_⟩
  refine ⟨_, rfl, (n : Int), rfl, by omega, by omega, fun Sp hSp => ?_⟩
  refine lc_each (w := walk_range (lo := 0) (n := (n : Int).toNat)) hSp (by omega) (fun i y _ => y = V.int (gs.take (i + 1)).sum) (fun _ _ _ _ _ z => z) (fun _ _ => trivial) (fun i y H4 H5 hi s' hy Q' k' => ?_) (fun H4 g => ?_)
  · obtain ⟨rfl, rfl⟩ := hy
    refine ⟨rfl, _, rfl, _, rfl, _, _, rfl, rfl, _, rfl, Gp, _, rfl, SqL.of (s' _ _ eG2), fun Pp hPp => ?_⟩
    have ec : cutV (gs.map V.int) none (some (0 + (i : Nat) + 1)) = (gs.take (i + 1)).map V.int := by
      rw [show ((0 : Int) + (i : Nat) + 1) = ((i + 1 : Nat) : Int) by omega, cutTo, List.map_take]
    refine ⟨Pp, gs.take (i + 1), rfl, SqL.of ?_, k' _ _ (same_new hPp) rfl⟩
    rw [upd_same]
    exact congrArg (fun z => some (HO.lst z)) ec
  have eSp := grown_fn g
  have s4 := g.same
  have ed4 := s4 _ _ ed0
  have nSp : Sp ≠ d := by rintro rfl; rw [ed0] at hSp; cases hSp
  refine ⟨ed4, [(.inr ("long" : Str), .int gs.sum), (.inr ("spots" : Str), .ref Sp)], rfl, by show 2 ≤ 15; decide, ?_⟩
  have em : mergeK [] [((.inr ("long" : Str) : L2.Key), V.int gs.sum), (.inr ("spots" : Str), .ref Sp)] = [(.inr ("long" : Str), .int gs.sum), (.inr ("spots" : Str), .ref Sp)] := by rfl
  rw [em]
  have s05 : Same H (upd H4 d (.dK [(.inr ("long" : Str), .int gs.sum), (.inr ("spots" : Str), .ref Sp)])) := same_mut (s13.trans s4) d0n
  have e5 : (upd H4 d (.dK [((.inr ("long" : Str) : L2.Key), V.int gs.sum), (.inr ("spots" : Str), .ref Sp)])) d = some (.dK [(.inr ("long" : Str), .int gs.sum), (.inr ("spots" : Str), .ref Sp)]) := upd_same
  have eS5 : (upd H4 d (.dK [((.inr ("long" : Str) : L2.Key), V.int gs.sum), (.inr ("spots" : Str), .ref Sp)])) Sp = some (.lst ((spotsOf gs n).map V.int)) := by
    rw [upd_ne nSp, eSp]
    unfold spotsOf
    rw [List.map_map]
    rfl
  generalize upd H4 d (.dK [((.inr ("long" : Str) : L2.Key), V.int gs.sum), (.inr ("spots" : Str), .ref Sp)]) = H5 at s05 e5 eS5
  have W0 : WoS H5 d (mkW gs n [] []) := ⟨_, Sp, e5, rfl, rfl, by rw [mkW_fst]; exact eS5⟩
  have O0 : (mkW gs n [] []).Ok := mkW_ok lg n1 n5 (fun g hg' => (hg g hg').1) (fun g hg' => (hg g hg').2) (fun _ z => nomatch z) (by decide) (fun _ z => nomatch z)
  -- the weights
  obtain ⟨ds, hds, lds, bds⟩ := (dg.same s05).ex
  refine ⟨_, rfl, 10, rfl, dl, _, rfl, hds, fun T hT => ?_⟩
  have sT := same_new (o := .lst (cutV (ds.map V.int) (some 10) none)) hT
  have dT : Dg K (upd H5 T (.lst (cutV (ds.map V.int) (some 10) none))) T 70 := Dg.drop (n := 80) 10 ⟨ds, rfl, lds, bds⟩ upd_same
  generalize upd H5 T (.lst (cutV (ds.map V.int) (some 10) none)) = H6 at sT dT
  refine ⟨_, rfl, T, d, 70, mkW gs n [] [], rfl, dT, by decide, W0.same sT, O0, by rw [mkW_n]; omega, fun H7 hl refs hv s7 hl7 e7 pw lh bh => ?_⟩
  have s57 := sT.trans s7
  have e57 := s57 _ _ e5
  have n7 : hl ≠ d := by rintro rfl; rw [sT _ _ e5] at hl7; cases hl7
  refine ⟨_, rfl, d, _, rfl, DPut.k (k := .inr ("heavy" : Str)) e57 (by show 2 < sizeLine; decide), ?_⟩
  have em2 : putK [((.inr ("long" : Str) : L2.Key), V.int gs.sum), (.inr ("spots" : Str), .ref Sp)] (.inr ("heavy" : Str)) (.ref hl) = [(.inr ("long" : Str), .int gs.sum), (.inr ("spots" : Str), .ref Sp), (.inr ("heavy" : Str), .ref hl)] := by rfl
  rw [em2]
  have s08 : Same H (upd H7 d (.dK [((.inr ("long" : Str) : L2.Key), V.int gs.sum), (.inr ("spots" : Str), .ref Sp), (.inr ("heavy" : Str), .ref hl)])) := same_mut (s05.trans s57) d0n
  have e8 : (upd H7 d (.dK [((.inr ("long" : Str) : L2.Key), V.int gs.sum), (.inr ("spots" : Str), .ref Sp), (.inr ("heavy" : Str), .ref hl)])) d = some (.dK [(.inr ("long" : Str), .int gs.sum), (.inr ("spots" : Str), .ref Sp), (.inr ("heavy" : Str), .ref hl)]) := upd_same
  have eS8 : (upd H7 d (.dK [((.inr ("long" : Str) : L2.Key), V.int gs.sum), (.inr ("spots" : Str), .ref Sp), (.inr ("heavy" : Str), .ref hl)])) Sp = some (.lst ((spotsOf gs n).map V.int)) := by rw [upd_ne nSp]; exact s57 _ _ eS5
  have eh8 : (upd H7 d (.dK [((.inr ("long" : Str) : L2.Key), V.int gs.sum), (.inr ("spots" : Str), .ref Sp), (.inr ("heavy" : Str), .ref hl)])) hl = some (.lst refs) := by rw [upd_ne n7]; exact e7
  have pw8 := Paired.mapP pw fun _ _ z => z.keep (Keep.upd (H := H7) (a := d) (o := .dK [((.inr ("long" : Str) : L2.Key), V.int gs.sum), (.inr ("spots" : Str), .ref Sp), (.inr ("heavy" : Str), .ref hl)]) (by rw [e57]; exact trivial))
  generalize upd H7 d (.dK [((.inr ("long" : Str) : L2.Key), V.int gs.sum), (.inr ("spots" : Str), .ref Sp), (.inr ("heavy" : Str), .ref hl)]) = H8 at s08 e8 eS8 eh8 pw8
  -- the strengths
  refine ⟨by decide, fun TL hTL => ⟨_, rfl, d, _, rfl, DPut.k (k := .inr ("strong" : Str)) (same_new hTL _ _ e8) (by show 3 < sizeLine; decide), ?_⟩⟩
  have em3 : putK [((.inr ("long" : Str) : L2.Key), V.int gs.sum), (.inr ("spots" : Str), .ref Sp), (.inr ("heavy" : Str), .ref hl)] (.inr ("strong" : Str)) (.ref TL) = [(.inr ("long" : Str), .int gs.sum), (.inr ("spots" : Str), .ref Sp), (.inr ("heavy" : Str), .ref hl), (.inr ("strong" : Str), .ref TL)] := by rfl
  rw [em3]
  obtain ⟨kvs, ekvs⟩ : ∃ kvs : List (L2.Key × V), kvs = [(.inr ("long" : Str), .int gs.sum), (.inr ("spots" : Str), .ref Sp), (.inr ("heavy" : Str), .ref hl), (.inr ("strong" : Str), .ref TL)] := ⟨_, rfl⟩
  have kl : valV kvs (.inr ("long" : Str)) = some (.int gs.sum) := by rw [ekvs]; rfl
  have ks : valV kvs (.inr ("spots" : Str)) = some (.ref Sp) := by rw [ekvs]; rfl
  have kh : valV kvs (.inr ("heavy" : Str)) = some (.ref hl) := by rw [ekvs]; rfl
  have kt : valV kvs (.inr ("strong" : Str)) = some (.ref TL) := by rw [ekvs]; rfl
  have klen : kvs.length ≤ 10 := by rw [ekvs]; show 4 ≤ 10; decide
  rw [← ekvs]
  clear ekvs em3 em2 em
  have sTL := same_new (o := .lst []) hTL
  have nTd : TL ≠ d := by rintro rfl; rw [e8] at hTL; cases hTL
  have nTS : TL ≠ Sp := by rintro rfl; rw [eS8] at hTL; cases hTL
  have nTh : TL ≠ hl := by rintro rfl; rw [eh8] at hTL; cases hTL
  have nhd : hl ≠ d := n7
  have kp9 : Keep H8 (upd (upd H8 TL (.lst [])) d (.dK kvs)) := (Same.keep sTL).trans (Keep.upd (by rw [sTL _ _ e8]; exact trivial))
  have s09 : Same H (upd (upd H8 TL (.lst [])) d (.dK kvs)) := same_mut (s08.trans sTL) d0n
  have e9 : (upd (upd H8 TL (.lst [])) d (.dK kvs)) d = some (.dK kvs) := upd_same
  have eS9 : (upd (upd H8 TL (.lst [])) d (.dK kvs)) Sp = some (.lst ((spotsOf gs n).map V.int)) := by rw [upd_ne nSp]; exact sTL _ _ eS8
  have eh9 : (upd (upd H8 TL (.lst [])) d (.dK kvs)) hl = some (.lst refs) := by rw [upd_ne n7]; exact sTL _ _ eh8
  have eT9 : (upd (upd H8 TL (.lst [])) d (.dK kvs)) TL = some (.lst []) := by rw [upd_ne nTd]; exact upd_same
  have pw9 := Paired.mapP pw8 fun _ _ z => z.keep kp9
  have TL0 : H TL = none := s08.free hTL
  generalize upd (upd H8 TL (.lst [])) d (.dK kvs) = H9 at s09 e9 eS9 eh9 eT9 pw9
  have hw6 : ∀ q ∈ hv, 0 ≤ q.1 ∧ q.1 ≤ ((gs.sum : Int) : Rat) ∧ 0 < q.2 ∧ Sz 128 q.1 ∧ Sz 128 q.2 := fun q hq => by
    obtain ⟨z1, z2, z3, z4, z5⟩ := bh q hq
    exact ⟨z1, z2, z3, z4.mono (by decide), z5.mono (by decide)⟩
  have O1 : (mkW gs n [] hv).Ok := mkW_ok lg n1 n5 (fun g hg' => (hg g hg').1) (fun g hg' => (hg g hg').2) (fun _ z => nomatch z) (by omega) hw6
  refine ⟨_, rfl, (n : Int), rfl, by omega, by omega, ?_⟩
  refine for_range (lo := 0) (n := (n : Int).toNat) (fun i σ H' => ∃ x6 x7 x8 frs sts, σ = [some (.ref dl), some (.int 5), some (.int (n : Int)), some (.int wd), some (.ref Gp), some (.ref d), x6, x7, x8] ∧ Same H H' ∧ H' d = some (.dK kvs) ∧ H' Sp = some (.lst ((spotsOf gs n).map V.int)) ∧ H' hl = some (.lst refs) ∧ Paired (Wt K H') refs hv ∧
    H' TL = some (.lst frs) ∧ Frs K H' frs sts ∧ sts.length = i ∧ ∀ s ∈ sts, 0 ≤ s ∧ Sz 1750 s) ⟨_, _, _, [], [], rfl, s09, e9, eS9, eh9, pw9, eT9, .nil, rfl, fun _ z => nomatch z⟩ (fun i σ H' hi I => ?_) (fun σ H' I => ?_)
  · obtain ⟨x6, x7, x8, frs, sts, rfl, s, ed, eS, eh, pw, eT, fs, ls, bs⟩ := I
    have hin : i < n := by omega
    have two : 2 ≤ sizeLine := by decide
    refine ⟨_, rfl, _, rfl, d, _, rfl, getK ed kh, _, rfl, _, _, rfl, rfl, _, rfl, _, rfl, _, _, rfl, rfl, by show 3 ≤ sizeLine; decide, fun KT hKT => ?_⟩
    have sK := same_new (o := .tup [V.int (0 + (i : Nat) - 1), V.int (0 + (i : Nat)), V.int (0 + (i : Nat) + 1)]) hKT
    have eK : (upd H' KT (.tup [V.int (0 + (i : Nat) - 1), V.int (0 + (i : Nat)), V.int (0 + (i : Nat) + 1)])) KT = some (.tup [V.int (0 + (i : Nat) - 1), V.int (0 + (i : Nat)), V.int (0 + (i : Nat) + 1)]) := upd_same
    have k3 : Key3 (mkW gs n [] hv).n (0 + (i : Nat) - 1) (0 + (i : Nat)) (0 + (i : Nat) + 1) := by
      rw [mkW_n]
      exact ⟨by omega, by omega, by omega, by omega⟩
    generalize upd H' KT (.tup [V.int (0 + (i : Nat) - 1), V.int (0 + (i : Nat)), V.int (0 + (i : Nat) + 1)]) = Ha at sK eK
    refine ⟨d, hl, KT, mkW gs n [] hv, refs, _, _, _, rfl, ⟨kvs, Sp, sK _ _ ed, kl, ks, by rw [mkW_fst]; exact sK _ _ eS⟩, O1, SqL.of (sK _ _ eh), Paired.mapP pw fun _ _ z => z.keep (Same.keep sK), SqT.of eK, k3, fun Hb mv sb fm => ?_⟩
    have zm := O1.sz_ld k3
    have sab := sK.trans sb
    -- the choices
    refine ⟨two, fun t1 h1 => ?_⟩
    have f1 : Fr K (upd Hb t1 (.tup [V.int 0, V.int 1])) (.ref t1) 0 := ⟨t1, rfl, SqT.of upd_same⟩
    have r1 := sab.trans (same_new (o := .tup [V.int 0, V.int 1]) h1)
    have fm1 := fm.same (same_new (o := .tup [V.int 0, V.int 1]) h1)
    generalize upd Hb t1 (.tup [V.int 0, V.int 1]) = Hc at f1 r1 fm1
    refine ⟨_, rfl, two, fun t2 h2 => ?_⟩
    have g2 := same_new (o := .tup [V.int (-1), V.int 2]) h2
    have f2 : Fr K (upd Hc t2 (.tup [V.int (-1), V.int 2])) (.ref t2) (-1 / 2) := Fr.new (by decide +kernel) (by decide +kernel)
    have r2 := r1.trans g2
    have fm2 := fm1.same g2
    have f12 := f1.same g2
    generalize upd Hc t2 (.tup [V.int (-1), V.int 2]) = Hd at f2 r2 fm2 f12
    refine ⟨two, fun t3 h3 => ?_⟩
    have g3 := same_new (o := .tup [V.int 1, V.int 3]) h3
    have f3 : Fr K (upd Hd t3 (.tup [V.int 1, V.int 3])) (.ref t3) (1 / 3) := Fr.new (by decide +kernel) (by decide +kernel)
    have r3 := r2.trans g3
    have fm3 := fm2.same g3
    have f13 := f12.same g3
    have f23 := f2.same g3
    generalize upd Hd t3 (.tup [V.int 1, V.int 3]) = He at f3 r3 fm3 f13 f23
    refine ⟨two, fun t4 h4 => ?_⟩
    have g4 := same_new (o := .tup [V.int 1, V.int 1]) h4
    have f4 : Fr K (upd He t4 (.tup [V.int 1, V.int 1])) (.ref t4) 1 := ⟨t4, rfl, SqT.of upd_same⟩
    have r4 := r3.trans g4
    have fm4 := fm3.same g4
    have f14 := f13.same g4
    have f24 := f23.same g4
    have f34 := f3.same g4
    generalize upd He t4 (.tup [V.int 1, V.int 1]) = Hf at f4 r4 fm4 f14 f24 f34
    refine ⟨two, fun t5 h5 => ?_⟩
    have g5 := same_new (o := .tup [V.int 4, V.int 1]) h5
    have f5 : Fr K (upd Hf t5 (.tup [V.int 4, V.int 1])) (.ref t5) 4 := ⟨t5, rfl, SqT.of upd_same⟩
    have r5 := r4.trans g5
    have fm5 := fm4.same g5
    have f15 := f14.same g5
    have f25 := f24.same g5
    have f35 := f34.same g5
    have f45 := f4.same g5
    generalize upd Hf t5 (.tup [V.int 4, V.int 1]) = Hg at f5 r5 fm5 f15 f25 f35 f45
    obtain ⟨xs5, d5, y5, a5, b5, c5⟩ := (dg.same (s.trans r5)).get (j := 50 + (0 + (i : Nat))) (by omega) (by omega)
    have u0 := Int.emod_nonneg d5 (show (20 : Int) ≠ 0 by decide)
    have u1 := Int.emod_lt_of_pos d5 (show (0 : Int) < 20 by decide)
    refine ⟨_, rfl, _, rfl, _, _, rfl, rfl, dl, _, _, _, rfl, rfl, y5, a5, .inl ⟨_, rfl, _, _, rfl, rfl, (show (0 : Int) < 20 by decide), two, fun t6 h6 => ?_⟩⟩
    have g6 := same_new (o := .tup [V.int (d5 % 20), V.int 1]) h6
    have f6 : Fr K (upd Hg t6 (.tup [V.int (d5 % 20), V.int 1])) (.ref t6) ((d5 % 20 : Int) : Rat) := fr_int (SqT.of upd_same)
    have r6 := r5.trans g6
    have fm6 := fm5.same g6
    have f16 := f15.same g6
    have f26 := f25.same g6
    have f36 := f35.same g6
    have f46 := f45.same g6
    have f56 := f5.same g6
    generalize upd Hg t6 (.tup [V.int (d5 % 20), V.int 1]) = Hh at f6 r6 fm6 f16 f26 f36 f46 f56
    refine ⟨by show 6 ≤ sizeLine; decide, fun L6 hL6 => ?_⟩
    have g7 := same_new (o := .lst [V.ref t1, V.ref t2, V.ref t3, V.ref t4, V.ref t5, V.ref t6]) hL6
    have eL6 : (upd Hh L6 (.lst [V.ref t1, V.ref t2, V.ref t3, V.ref t4, V.ref t5, V.ref t6])) L6 = some (.lst [V.ref t1, V.ref t2, V.ref t3, V.ref t4, V.ref t5, V.ref t6]) := upd_same
    have r7 := r6.trans g7
    have fm7 := fm6.same g7
    obtain ⟨xs4, d4, y4, a4, b4, c4⟩ := (dg.same (s.trans r7)).get (j := 40 + (0 + (i : Nat))) (by omega) (by omega)
    have v0 := Int.emod_nonneg d4 (show (6 : Int) ≠ 0 by decide)
    have v1 := Int.emod_lt_of_pos d4 (show (0 : Int) < 6 by decide)
    obtain ⟨v8, q8, hv8, f8, z8⟩ : ∃ v8 q8, atI [V.ref t1, V.ref t2, V.ref t3, V.ref t4, V.ref t5, V.ref t6] (d4 % 6) = some v8 ∧ Fr K (upd Hh L6 (.lst [V.ref t1, V.ref t2, V.ref t3, V.ref t4, V.ref t5, V.ref t6])) v8 q8 ∧ Sz 5 q8 := by
      rcases (by omega : d4 % 6 = 0 ∨ d4 % 6 = 1 ∨ d4 % 6 = 2 ∨ d4 % 6 = 3 ∨ d4 % 6 = 4 ∨ d4 % 6 = 5) with e | e | e | e | e | e <;> rw [e]
      · exact ⟨_, _, rfl, f16.same g7, by constructor <;> decide +kernel⟩
      · exact ⟨_, _, rfl, f26.same g7, by constructor <;> decide +kernel⟩
      · exact ⟨_, _, rfl, f36.same g7, by constructor <;> decide +kernel⟩
      · exact ⟨_, _, rfl, f46.same g7, by constructor <;> decide +kernel⟩
      · exact ⟨_, _, rfl, f56.same g7, by constructor <;> decide +kernel⟩
      · exact ⟨_, _, rfl, f6.same g7, Sz.int (by show _ < 32; omega) (by decide)⟩
    refine ⟨_, rfl, _, rfl, _, _, rfl, rfl, dl, _, _, _, rfl, rfl, y4, a4, .inl ⟨_, rfl, _, _, rfl, rfl, (show (0 : Int) < 6 by decide), L6, _, _, _, rfl, rfl, SqL.of eL6, hv8, ?_⟩⟩
    generalize upd Hh L6 (.lst [V.ref t1, V.ref t2, V.ref t3, V.ref t4, V.ref t5, V.ref t6]) = Hi at r7 fm7 f8
    -- the sum
    refine ⟨_, rfl, _, rfl, mv, v8, _, q8, rfl, fm7, f8, ⟨_, _, zm, z8, by decide⟩, trivial, fun Hj sv sj fsv => ?_⟩
    have r8 := r7.trans sj
    have zs : Sz 1746 ((mkW gs n [] hv).ld (0 + (i : Nat) - 1) (0 + (i : Nat)) (0 + (i : Nat) + 1) + q8) := zm.add z8
    have fsv : Fr K Hj sv ((mkW gs n [] hv).ld (0 + (i : Nat) - 1) (0 + (i : Nat)) (0 + (i : Nat) + 1) + q8) := fsv
    generalize (mkW gs n [] hv).ld (0 + (i : Nat) - 1) (0 + (i : Nat)) (0 + (i : Nat) + 1) + q8 = qs at fsv zs
    refine ⟨_, rfl, d, _, rfl, getK (r8 _ _ ed) kt, (.inl ⟨rfl, _, SqL.of (r8 _ _ eT)⟩), _, rfl, two, fun t9 h9 => ?_⟩
    have g9 := same_new (o := .tup [V.int 0, V.int 1]) h9
    have f9 : Fr K (upd Hj t9 (.tup [V.int 0, V.int 1])) (.ref t9) 0 := ⟨t9, rfl, SqT.of upd_same⟩
    have fsv9 := fsv.same g9
    have r9 := r8.trans g9
    generalize upd Hj t9 (.tup [V.int 0, V.int 1]) = Hk at f9 fsv9 r9
    refine ⟨two, fun L9 hL9 => ?_⟩
    have g10 := same_new (o := .lst [sv, V.ref t9]) hL9
    have eL9 : (upd Hk L9 (.lst [sv, V.ref t9])) L9 = some (.lst [sv, V.ref t9]) := upd_same
    have f10 := f9.same g10
    have fsv10 := fsv9.same g10
    have r10 := r9.trans g10
    generalize upd Hk L9 (.lst [sv, V.ref t9]) = Hl at f10 fsv10 r10 eL9
    obtain ⟨ps, rfl, hps⟩ := id fsv10
    have eT10 := r10 _ _ eT
    have zl : frs.length < sizeLine := small_lt (by rw [Paired.length fs, ls]; omega)
    obtain ⟨vz, qz, hvz, fz, z0, zz⟩ : ∃ vz qz, atI [V.ref ps, V.ref t9] (if decide (qs.num < 0) = true then 1 else 0) = some vz ∧ Fr K Hl vz qz ∧ 0 ≤ qz ∧ Sz 1750 qz := by
      by_cases c : qs.num < 0
      · rw [if_pos (decide_eq_true c)]
        exact ⟨_, _, rfl, f10, by decide, sz_zero.mono (by decide)⟩
      · rw [if_neg (fun z => c (of_decide_eq_true z))]
        exact ⟨_, _, rfl, fsv10, num_nonneg.mp (by omega), zs.mono (by decide)⟩
    refine ⟨_, rfl, _, _, _, _, rfl, rfl, hps, rfl, _, _, rfl, rfl, .inr ⟨_, rfl, L9, _, _, vz, rfl, rfl, SqL.of eL9, hvz, TL, _, _, rfl, rfl, eT10, zl, ?_⟩⟩
    have kp : Keep Hl (upd Hl TL (.lst (frs ++ [vz]))) := Keep.upd (by rw [eT10]; exact trivial)
    refine ⟨_, _, _, frs ++ [vz], sts ++ [qz], rfl, same_mut (s.trans r10) TL0, ?_, ?_, ?_, Paired.mapP pw fun _ _ z => z.keep ((Same.keep r10).trans kp), upd_same, Paired.snoc (fz.keep kp) (Frs.keep ((Same.keep r10).trans kp) fs), by rw [List.length_append, ls]; rfl, fun q hq => ?_⟩
    · rw [upd_ne nTd.symm]; exact r10 _ _ ed
    · rw [upd_ne nTS.symm]; exact r10 _ _ eS
    · rw [upd_ne nTh.symm]; exact r10 _ _ eh
    · rcases List.mem_append.mp hq with hq | hq
      · exact bs q hq
      · rw [List.mem_singleton.mp hq]; exact ⟨z0, zz⟩
  · obtain ⟨x6, x7, x8, frs, sts, rfl, s, ed, eS, eh, pw, eT, fs, ls, bs⟩ := I
    have ls : sts.length = n := by rw [ls]; omega
    exact ⟨_, rfl, k H' d gs n sts hv s d0n ⟨⟨kvs, Sp, hl, TL, refs, frs, ed, kl, ks, by rw [mkW_fst]; exact eS, kh, eh, pw, kt, eT, by rw [mkW_snd ls]; exact fs⟩, ⟨kvs, ed, klen⟩⟩ lg n1 n5 hg ls bs lh bh⟩
end Pf
end

section
namespace Pf
open PySem PySem.Spec PyProof.Rows L2
variable {P : Program} {w : World} {K : PySem.W.Frag} {mg : Str → Option Value} {base : Heap} {a : Ad}
def spMade (K : PySem.W.Frag) (a : Ad) : Sp := fun vs H Q _ => ∃ (d : Addr) (W : Wd), vs = [.ref d] ∧ Wo K H d W ∧ W.Ok ∧ ∀ H' p, Same H H' → H p = none → Plk K a H' p W → Q (.ref p) H'
abbrev N_law_made : List Str := ["_law_world_here"]
theorem sc_law_made : FnScope N_law_made ["_law_world_here"] (defScope s_law_made) := ⟨rfl, rfl, rfl, by decide +kernel, rfl, by decide +kernel, by decide +kernel⟩
theorem ok_lmade (G : Gd K mg "_law_made" s_law_made) (B : Bt mg) (C : Ct K mg a) (D_Plank_init : If P w K mg base a.Pi ["self", "length", "props", "bend"] [.non] 6 (spPlankInit K a)) : Df P w K mg base "_law_made" ["_law_world_here"] 8 (spMade K a) := by
  refine df_mk G sc_law_made (fun vs H Q E h => by obtain ⟨_, _, rfl, _⟩ := h; rfl) (fun _ _ _ _ _ _ us hl => match us, hl with | [_], _ => rfl) (fun f cdv A' outer sh H vs Q E hr h => ?_)
  obtain ⟨d, W, rfl, wo, o, k⟩ := h
  have hu := hu_of hr
  obtain ⟨kvs, sl, hl, tl, refs, frs, e1, e2, e3, e4, e5, e6, e7, e8, e9, e10⟩ := wo.ex
  have n12 := o.n12
  refine ⟨_, (pss_one (ps_ret (pmake D_Plank_init C.mkP hr (by decide) (by rfl) C.gP (pa_cons (pe_dget hu (pv 0) pe_str (fun _ _ => rfl)) (pa_cons (pe_listZip2 rfl (by rfl) B.list_ (by rfl) B.zip (pa_cons (pe_dget hu (pv 0) pe_str (fun _ _ => rfl)) (pa_cons (pe_dget hu (pv 0) pe_str (fun _ _ => rfl)) pa_nil))) pa_nil))))), ?_⟩
  refine ⟨_, rfl, d, _, rfl, getK e1 e2, _, rfl, d, _, rfl, getK e1 e3, _, rfl, d, _, rfl, getK e1 e8, sl, tl, _, _, rfl, SqL.of e4, SqL.of e9, fun H1 l ts s1 hl1 hts hlt eL len att => ?_⟩
  have s1 : Same H H1 := s1
  have lf : frs.length = W.ps.length := by rw [Paired.length e10, List.length_map]
  have pk : Paired (Stk K H1) (ts.map V.ref) W.ps := by
    refine paired_of (by rw [List.length_map, len, List.length_map, List.length_map, lf, Nat.min_self]) fun j r q h1 h2 => ?_
    rw [List.getElem?_map] at h1
    obtain ⟨t, ht, rfl⟩ := Option.map_eq_some_iff.mp h1
    obtain ⟨x, y, hx, hy, hT⟩ := att j t ht
    rw [List.getElem?_map, List.getElem?_map, h2] at hx
    cases hx
    obtain ⟨z, hz, fz⟩ := Paired.get? e10 hy
    rw [List.getElem?_map, h2] at hz
    cases hz
    exact ⟨t, y, rfl, SqT.of hT, fz.same s1⟩
  intro x dx hx hdx ne
  have s2 : Same H1 (upd (upd H1 dx (.own x)) x (.ins a.P dx [])) := fun b o e => by
    rw [upd_ne (ne_of_none e hx), upd_ne (ne_of_none e hdx)]
    exact e
  refine ⟨x, dx, l, ts.map V.ref, W, rfl, upd_same, s2 _ _ eL, Paired.mapP pk fun _ _ z => z.keep (Same.keep s2), o, fun H' keep pl => ⟨rfl, ?_⟩⟩
  exact k H' x (fun b o e => keep b o (s2 b o (s1 b o e)) (ne_of_none e (s1.free hx))) (s1.free hx) pl
/-- a dict by all keys -/
structure Full (K : PySem.W.Frag) (F : Int → Int → Int → V → Prop) (n : Nat) (kvs : List (List L2.Key × V)) : Prop where
  tab : Tab n F kvs
  full : ∀ l p r, Key3 n l p r → ∃ v, valV kvs (kk l p r) = some v
theorem Full.get {F : Int → Int → Int → V → Prop} {n : Nat} {kvs : List (List L2.Key × V)} (h : Full K F n kvs) {l p r : Int} (k : Key3 n l p r) : ∃ v, valV kvs (kk l p r) = some v ∧ F l p r v := by
  obtain ⟨v, hv⟩ := h.full l p r k
  obtain ⟨l', p', r', e, _, f⟩ := h.tab.all _ (valV_mem hv)
  have : l = l' ∧ p = p' ∧ r = r' := by
    have e : kk l p r = kk l' p' r' := e
    unfold kk at e
    simp only [List.cons.injEq, Sum.inl.injEq, and_true] at e
    exact e
  obtain ⟨rfl, rfl, rfl⟩ := this
  exact ⟨v, hv, f⟩
theorem Full.imp {F G : Int → Int → Int → V → Prop} {n : Nat} {kvs : List (List L2.Key × V)} (h : Full K F n kvs) (i : ∀ l p r v, F l p r v → G l p r v) : Full K G n kvs := ⟨h.tab.imp i, h.full⟩
/-- the spares, or the shares, of a world -/
def Num (K : PySem.W.Frag) (H : Hp) (d : Addr) (n : Nat) (f : Int → Int → Int → Rat) : Prop := ∃ kvs, Rd H d (.dT kvs) ∧ Full K (fun l p r v => Fr K H v (f l p r)) n kvs
theorem Num.same {H H' : Hp} {d : Addr} {n : Nat} {f : Int → Int → Int → Rat} (s : Same H H') (h : Num K H d n f) : Num K H' d n f := by
  obtain ⟨kvs, h1, h2⟩ := h
  exact ⟨kvs, rd_same s h1, h2.imp fun _ _ _ _ z => z.same s⟩
/-- read by a key -/
theorem Num.get {H : Hp} {d b : Addr} {n : Nat} {f : Int → Int → Int → Rat} (h : Num K H d n f) {l p r : Int} (k : Key3 n l p r) (eb : H b = some (.tup [.int l, .int p, .int r])) : ∃ v, DGet H d (.ref b) (some v) ∧ Fr K H v (f l p r) := by
  obtain ⟨kvs, h1, h2⟩ := h
  obtain ⟨v, hv, fv⟩ := h2.get k
  exact ⟨v, by rw [← hv]; exact .inr ⟨kvs, kk l p r, b, h1, rfl, eb, rfl⟩, fv⟩
def spSpares (K : PySem.W.Frag) : Sp := fun vs H Q _ => ∃ (d hl : Addr) (W : Wd) (refs : List V), vs = [.ref d, .ref hl] ∧ Wo K H d W ∧ W.Ok ∧ SqL K H hl refs ∧ Paired (Wt K H) refs W.hv ∧
  ∀ H' t kvs, Same H H' → H t = none → H' t = some (.dT kvs) → Full K (fun l p r v => Fr K H' v (W.sp l p r)) W.n kvs → Q (.ref t) H'
abbrev N_law_spares : List Str := ["_law_world_here", "_law_heavy_here", "_law_found", "_law_key"]
theorem sc_law_spares : FnScope N_law_spares ["_law_world_here", "_law_heavy_here"] (defScope s_law_spares) := ⟨rfl, rfl, rfl, by decide +kernel, rfl, by decide +kernel, by decide +kernel⟩
theorem ok_lspares (G : Gd K mg "_law_spares" s_law_spares) (B : Bt mg) (D_law_keys : Df P w K mg base "_law_keys" ["_law_many"] 1 (spKeys K)) (D_law_minus : Df P w K mg base "_law_minus" ["_law_one", "_law_other"] 2 (sp2 K (· - ·) any2))
    (D_law_load : Df P w K mg base "_law_load" ["_law_world_here", "_law_heavy_here", "_law_key"] 3 (spLLoad K)) : Df P w K mg base "_law_spares" ["_law_world_here", "_law_heavy_here"] 4 (spSpares K) := by
  refine df_mk G sc_law_spares (fun vs H Q E h => by obtain ⟨_, _, _, _, rfl, _⟩ := h; rfl) (fun _ _ _ _ _ _ us hl => match us, hl with | [_, _], _ => rfl) (fun f cdv A' outer sh H vs Q E hr h => ?_)
  obtain ⟨d, hl, W, refs, rfl, wo, o, hh, hw, k⟩ := h
  have hu := hu_of hr
  have n12 := o.n12
  refine ⟨_, (pss_cons (ps_set (i := 2) sc_law_spares.nd rfl (by first | exact Or.inl rfl | exact Or.inr rfl) pe_dnewT)
    (pss_cons (ps_for PassesOwn.never rfl (pi_list (pcall D_law_keys hr (by decide) (by rfl) (pa_cons (pe_callB call_len_seq (by rfl) B.len (by decide +kernel) (pa_cons (pe_dget hu (pv 0) pe_str (fun _ _ => rfl)) pa_nil)) pa_nil))) (pg_name (i := 3) sc_law_spares.nd rfl (by first | exact Or.inl rfl | exact Or.inr rfl))
    (pss_one (ps_dput hu (pv 2) (pv 3) (pcall D_law_minus hr (by decide) (by rfl) (pa_cons (pe_ix (r := rIxL K) ix_list (pe_dget hu (pv 0) pe_str (fun _ _ => rfl)) (pe_ix (r := rIxT K) ix_tup (pv 3) pe_int (fun _ _ => rfl)) (fun _ _ => rfl)) (pa_cons (pcall D_law_load hr (by decide) (by rfl) (pa_cons (pv 0) (pa_cons (pv 1) (pa_cons (pv 3) pa_nil)))) pa_nil))) rfl)))
    (pss_one (ps_ret (pv 2))))), ?_⟩
  refine fun D hD => ?_
  have s1 := same_new (o := .dT []) hD
  have e1 : (upd H D (.dT [])) D = some (.dT []) := upd_same
  generalize upd H D (.dT []) = H1 at s1 e1
  have wo1 := wo.same s1
  obtain ⟨kvs, sl, _, tl, _, frs, g1, g2, g3, g4, _, _, _, g8, g9, g10⟩ := wo1.ex
  have el : ((((W.ps.map (·.1)).map V.int).length : Nat) : Int) = ((W.n : Nat) : Int) := by simp
  refine ⟨_, rfl, d, _, rfl, getK g1 g3, sl, _, rfl, .inl (SqL.of g4), W.n, by rw [el]; rfl, n12, fun H2 L rks ks s2 hL eL pk ky l5 => ?_⟩
  have e2 := s2 _ _ e1
  refine ⟨_, rfl, ⟨_, SqL.of eL⟩, for_list (K := K) (a := L) (xs := rks) (fun i σ H' => ∃ x3 kvs, σ = [some (.ref d), some (.ref hl), some (.ref D), x3] ∧ Same H H' ∧ (Keep H2 H' ∧ H' L = some (.lst rks)) ∧ H' D = some (.dT kvs) ∧ Tab W.n (fun l p r v => Fr K H' v (W.sp l p r)) kvs ∧ ∀ q ∈ ks.take i, ∃ v, valV kvs (kk q.1 q.2.1 q.2.2) = some v)
    ⟨_, [], rfl, s1.trans s2, ⟨Keep.refl _, eL⟩, e2, Tab.nil, fun q hq => by simp at hq⟩ (fun i σ H' _ I => by obtain ⟨_, _, _, _, I, _⟩ := I; exact SqL.of I.2) (fun i y σ H' hy I => ?_) (fun σ H' I => ?_)⟩
  · obtain ⟨x3, kv, rfl, s, ⟨kp, el'⟩, eD, tb, fu⟩ := I
    obtain ⟨⟨q1, q2, q3⟩, hq, T, rfl, hT⟩ := Paired.get? pk hy
    have k3 : Key3 W.n q1 q2 q3 := ky.ok _ (List.mem_of_getElem? hq)
    have hT' : H' T = some (.tup [.int q1, .int q2, .int q3]) := kp _ _ hT (fun z => z)
    obtain ⟨kvs, sl, _, tl, _, frs, g1, g2, g3, g4, _, _, _, g8, g9, g10⟩ := (wo.same s).ex
    have k3' := k3
    obtain ⟨k1, k2, k4, k5⟩ := k3
    obtain ⟨x, st, hx, _, est⟩ := Wd.at (W := W) (p := q2) (by omega) (by omega)
    have hx2 : (W.ps.map (·.2))[q2.toNat]? = some st := by rw [List.getElem?_map, hx]; rfl
    obtain ⟨sv, hsv, fst⟩ := Paired.get2 g10 hx2
    have zst : Sz 2000 st := (o.st0 _ _ _ hx).2
    refine ⟨_, rfl, d, _, rfl, getK g1 g8, _, rfl, _, _, _, _, rfl, rfl, SqT.of hT', rfl, tl, _, _, _, rfl, rfl, SqL.of g9, at_of (j := q2.toNat) (by omega) hsv, _, rfl, _, rfl, _, rfl, d, hl, T, W, refs, q1, q2, q3, rfl, (wo.same s).s, o, sql_same s hh, Paired.mapP hw fun _ _ z => z.keep (Same.keep s), SqT.of hT', k3', fun H3 lv s3 fl => ?_⟩
    refine ⟨sv, lv, st, _, rfl, fst.same s3, fl, ⟨_, _, zst, o.sz_ld k3', by decide⟩, trivial, fun H4 mv s4 fm => ?_⟩
    have s34 := s3.trans s4
    have eD4 := s34 _ _ eD
    have hT4 := s34 _ _ hT'
    have nLD : L ≠ D := by rintro rfl; rw [eD] at el'; cases el'
    have kpu : Keep H4 (upd H4 D (.dT (putK kv (kk q1 q2 q3) mv))) := Keep.upd (by rw [eD4]; exact trivial)
    have kpa := (Same.keep s34).trans kpu
    have fm : Fr K H4 mv (W.sp q1 q2 q3) := by
      show Fr K H4 mv (W.st q2 - W.ld q1 q2 q3)
      rw [est]
      exact fm
    refine ⟨_, rfl, _, rfl, D, _, rfl, DPut.t eD4 (k := kk q1 q2 q3) hT4 (small_lt (by have := tb.small n12; omega)), _, putK kv (kk q1 q2 q3) mv, rfl, same_mut (s.trans s34) hD, ⟨(kp.trans kpa), by rw [upd_ne nLD]; exact s34 _ _ el'⟩, upd_same, (tb.imp fun _ _ _ _ z => z.keep kpa).put k3' (fm.keep kpu), fun q hq' => ?_⟩
    rw [List.take_add_one, hq] at hq'
    rw [valV_put]
    split
    · exact ⟨_, rfl⟩
    · rename_i ne
      rcases List.mem_append.mp hq' with hq' | hq'
      · exact fu q hq'
      · have e := List.mem_singleton.mp hq'
        subst e
        exact absurd rfl ne
  · obtain ⟨x3, kv, rfl, s, ⟨kp, el'⟩, eD, tb, fu⟩ := I
    refine ⟨_, rfl, k H' D kv s hD eD ⟨tb, fun l p r k3 => fu (l, p, r) ?_⟩⟩
    rw [Paired.length pk, List.take_length]
    exact ky.all l p r k3
end Pf
end

section
/-! sorted(set(l)) for a list of whole numbers. -/
namespace Pf
open PySem PySem.Spec PyProof.Rows L2
/-- a set as it begins -/
abbrev set0 (w : World) : Obj := { cls := .type "set", dict := none, data := .set #[] 0 (.fresh 0 0 (!w.params.followText "set-order")) }
section
variable {P : Program} {w : World} {A : Around} {E : Value → Shared → Prop} {s : Shared}
/-- set(l) -/
theorem setL_call {l : Addr} {items : Array Value} (ns : List Int) {Q : Value → Shared → Prop} (hh : A.handled = none) (hl : s.heap.IsList l items) (hi : IntsAre items.toList ns) (hb : ns.length + 1 < scanBound)
    (hQ : ∀ (h' : Heap) (tk c : Nat), SetR w h' s.heap.objs.size (fun j => decide (j ∈ ns)) c → c ≤ ns.length → (∀ b o, s.heap.get? b = some o → h'.get? b = some o) → Q (.ref s.heap.objs.size) { s with heap := h', toks := tk }) :
    wpAny (model P w) A (call (.type "set") [.ref l]) Q E s := by
  have hn : items.size = ns.length := (Array.length_toList ▸ IntsAre.length hi : items.size = ns.length)
  obtain ⟨c, tl, hmro⟩ := F.called_set.mro
  have hmade := F.called_set.made
  have hsub := F.called_set.sub
  have h1 := F.called_set.notType
  have h2 := F.called_set.canCreate
  have hct := F.typeCall_set_1 (.ref l)
  refine wpAny_call (codeAny_of_tree ?_)
  show wpAny _ _ (callAny (.type "set") _) _ _ _
  refine wpAny_pure ⟨Code.quiet_builtin _ (by decide +kernel), codeAny_builtin F.entry_type_call ?_⟩
  rw [Around.under_plain (weight_type_call_type "set" [.ref l] []) rfl]
  repeat (any_goals (first | assumption | wp_step))
  refine codeAny_mono (code_set_led1 (.ref l) (E := E) (Q₁ := fun obj s₁ => obj = .ref s.heap.objs.size ∧ s₁ = { s with heap := s.heap.push (set0 w) }) ⟨rfl, rfl⟩) fun r s₁ hr => ?_
  match r, hr with
  | .error e, hr => exact hr
  | .ok (.ret obj), hr =>
    obtain ⟨rfl, rfl⟩ := hr
    have zp : (s.heap.push (set0 w)).objs.size = s.heap.objs.size + 1 := Heap.size_push ..
    have eS : (s.heap.push (set0 w)).get? s.heap.objs.size = some (set0 w) := Heap.get?_push_size _ rfl
    have hT : Shared.TypeIs { s with heap := s.heap.push (set0 w) } (.ref s.heap.objs.size) "set" := ⟨_, eS, rfl⟩
    have hli := F.called_set.init.lookup
    have hbi := F.called_set.init.bind (.ref s.heap.objs.size)
    repeat (any_goals (first | assumption | wp_step))
    refine codeAny_mono (codeAny_call_builtin (R := wants (fun r s₂ => r = .none ∧ ∃ h' tk c, s₂ = { s with heap := h', toks := tk } ∧ SetR w h' s.heap.objs.size (fun j => decide (j ∈ ns)) c ∧ c ≤ ns.length ∧ (∀ b o, s.heap.get? b = some o → h'.get? b = some o)) E) F.called_set.init.plain F.entry_set_init (check_set_init_1 hT ?_)) fun r₂ s₂ hr₂ => ?_
    · obtain ⟨⟨oc, od, odt, osl⟩, hol, hcl, nl, hdl⟩ := hl
      simp only at hcl hdl
      subst hcl; subst hdl
      have hol' : (s.heap.push (set0 w)).get? l = some { cls := .type "list", dict := od, data := .seq items nl, slots := osl } := Heap.get?_push_of_some _ hol
      have q1 := F.sub_list_set
      have q2 := F.sub_list_frozenset
      have q3 : (Value.type "list" == Value.type "dict") = false := by decide
      have hl1 : (s.heap.push (set0 w)).IsList l items := ⟨_, hol', rfl, nl, rfl⟩
      have lS : l < s.heap.objs.size := Heap.lt_size hol
      unfold Builtin.«set.__init__» noKeywords Builtin.Frozenset.updateFrom
      generalize hPI : pyIter = PI
      wp_walk
      subst hPI
      refine wpAny_pyIter_list hl1 (wpAny_bind (wpAny_runValue ?_))
      have hh3 : A.in1.in1.in1.handled = none := by simp [hh]
      have neI : l ≠ (s.heap.push (set0 w)).objs.size := by rw [zp]; exact Nat.ne_of_lt (Nat.lt_succ_of_lt lS)
      have nS : s.heap.objs.size ∉ [(s.heap.push (set0 w)).objs.size, l] := by
        rw [zp]
        simp only [List.mem_cons, List.not_mem_nil, or_false, not_or]
        exact ⟨Nat.ne_of_lt (Nat.lt_succ_self _), Nat.ne_of_gt lS⟩
      refine set_update_ints ((Walks.list hh3 _ l neI items).toS) s.heap.objs.size nS ns hn hb (fun i v hv => ?_) items.size 0 _ (Nat.sub_zero _) (Nat.zero_le _) ⟨⟨_, Heap.get?_push_size _ rfl, rfl, rfl⟩, hl1.push _⟩ ⟨0, Nat.le_refl 0, setR_new_at (Heap.get?_push_of_some _ eS)⟩ fun s' c' hm hc' hS' => ?_
      · have hi' : i < ns.length := by rw [← hn]; exact (Array.getElem?_eq_some_iff.mp hv).1
        obtain ⟨t, e⟩ := IntsAre.int_at hi i v (by rw [Array.getElem?_toList]; exact hv)
        exact ⟨ns[i], t, List.getElem?_eq_getElem hi', by rw [e, List.getD_eq_getElem?_getD, List.getElem?_eq_getElem hi'] <;> rfl⟩
      · obtain ⟨h', g2, d', tk', os'⟩ := s'
        obtain rfl : g2 = s.gens := hm.gens
        obtain rfl : d' = s.drawn := hm.drawn
        obtain rfl : os' = s.os := hm.os
        show wpAny _ _ _ _ _ _
        refine wpAny_pure ?_
        show wpAny _ _ (ret Value.none) _ _ _
        refine wpAny_pure ⟨rfl, h', tk', c', rfl, hS', hn ▸ hc', fun b o e => ?_⟩
        have lb : b < s.heap.objs.size := Heap.lt_size e
        refine hm.heap b o ?_ (Heap.get?_push_of_some _ (Heap.get?_push_of_some _ e))
        simp only [List.mem_cons, List.not_mem_nil, or_false, not_or]
        exact ⟨Nat.ne_of_lt lb, by rw [zp]; exact Nat.ne_of_lt (Nat.lt_succ_of_lt lb)⟩
    · match r₂, hr₂ with
      | .error e, hr₂ => exact hr₂
      | .ok (.ret r), hr₂ =>
        obtain ⟨rfl, h', tk, c', rfl, hS', hc', hk'⟩ := hr₂
        repeat (any_goals (first | assumption | wp_step))
        exact hQ _ _ _ hS' hc' hk'
end
end Pf
end

section
namespace Pf
open PySem PySem.Spec PyProof.Rows L2
/-- sorted(set(l)) -/
def tSortSet (K : PySem.W.Frag) (te : TE) : TE := fun σ H Q => te σ H fun x H1 => ∃ (l : Addr) (ns : List Int), x = .ref l ∧ SqL K H1 l (ns.map V.int) ∧ ns.length < 64 ∧
  ∀ (out : List Int) (p : Addr), out.Pairwise (· < ·) → (∀ k : Int, k ∈ out ↔ k ∈ ns) → H1 p = none → Q (.ref p) (upd H1 p (.lst (out.map V.int)))
theorem pe_sortedSet {X : Cx} {e : Expr} {te : TE} {p p2 q pos : Pos} (hc : X.calm = true) (hg : Gl X "sorted") (hm : X.mg "sorted" = none) (hg2 : Gl X "set") (hm2 : X.mg "set" = none) (he : PE X e te)
    (na : starEach [e] X.env = (false, eval e X.env) :: starEach [] X.env := by rfl) : PE X (.Call (.Name "sorted" p) [.Call (.Name "set" p2) [e] [] q] [] pos) (tSortSet X.K te) := by
  refine ⟨fun pins s σ H Q I h => ?_⟩
  refine Call_ (ld_blt I hg hm boot_sorted ?_)
  refine PyProof.Rows.callWith_builtin1 (PyProof.Rows.args_cons ?_ rfl) rfl rfl
  refine Call_ (ld_blt I hg2 hm2 boot_set ?_)
  refine PyProof.Rows.callWith_type1 (PyProof.Rows.args_cons (thn (he.run pins s σ H _ I h) fun v s1 ⟨x, H1, I1, r1, q1⟩ => PyProof.Rows.args_nil ?_) na) na rfl
  obtain ⟨l, ns, rfl, hq, h64, q1⟩ := q1
  cases r1
  obtain ⟨its, r, pl, hz⟩ := I1.list hq
  have hd := I1.ok.hd hc
  refine setL_call ns hd pl.isList (by simpa using ints_of_vals r) (by unfold scanBound; omega) fun h' tk c R1 hcn hk => ?_
  refine PyProof.Rows.args_nil ?_
  have I2 : Inv X pins σ H1 { s1 with heap := h', toks := tk } := I1.kept hk
  refine sorted_set (s := { s1 with heap := h', toks := tk }) R1 hd (by omega) fun s' p out c ns' k g o hp hg hi hs hmem hl => ?_
  have hlen : (ns'.map V.int).length ≤ sizeLine := by rw [List.length_map, hl, sizeLine_eq]; omega
  have hp' : s1.heap.objs.size ≤ p := Nat.le_trans (Nat.le_of_lt R1.lt) hp
  have k' : ∀ b o, s1.heap.get? b = some o → s'.heap.get? b = some o := fun b o e => k b o (hk b o e)
  have hn : H1 p = none := I1.hok.fresh hp'
  have J : Inv X pins σ (upd H1 p (.lst (ns'.map V.int))) { s1 with heap := s'.heap, gens := s'.gens, drawn := s'.drawn, toks := s'.toks } :=
    I1.call (ch := []) (Un.laid k' hp' hn) (I1.hok.laid k' hp' ⟨hlen, out.toList, c, vals_of_ints hi, hg⟩) (by rw [g]; exact I1.bare) (fun _ z => nomatch z)
  have e : s' = { s1 with heap := s'.heap, gens := s'.gens, drawn := s'.drawn, toks := s'.toks } := by
    cases s'
    cases s1
    cases o
    rfl
  rw [e]
  exact ⟨.ref p, _, J, rfl, q1 ns' p hs (fun k => (hmem k).trans (by simp)) hn⟩
end Pf
end

section
namespace Pf
open PySem PySem.Spec PyProof.Rows L2
variable {P : Program} {w : World} {K : PySem.W.Frag} {mg : Str → Option Value} {base : Heap} {a : Ad}
theorem bit_eq (m k : Nat) : decide (V.int ((0 + (m : Nat) : Int) / 2 ^ ((0 + (k : Nat) : Int)).toNat % 2) = V.int 1) = (m / 2 ^ (((k : Nat) : Int)).toNat % 2 == 1) := by
  have e : ((0 + (m : Nat) : Int) / 2 ^ ((0 + (k : Nat) : Int)).toNat % 2) = ((m / 2 ^ k % 2 : Nat) : Int) := by
    rw [Int.zero_add, Int.zero_add, Int.toNat_natCast]
    simp
  rw [e, Int.toNat_natCast, Bool.eq_iff_iff]
  generalize m / 2 ^ k % 2 = x
  simp only [decide_eq_true_eq, beq_iff_eq, V.int.injEq]
  omega
theorem filt1 {f : Int → Bool} {x : Int} : [x].filter f = if f x = true then [x] else [] := by
  cases h : f x <;> simp [h]
theorem allP_succ (n : Nat) : allP (n + 1) = allP n ++ [((n : Nat) : Int)] := by
  unfold allP
  rw [List.range_succ, List.map_append]
  rfl
theorem sides_get {r : Int} {s : List Int} {l : Int} {j : Nat} (h : j < s.length) : ∃ q : Int × Int × Int, (sides l s r)[j]? = some q ∧ (l :: (s ++ [r]))[j]? = some q.1 ∧ (l :: (s ++ [r]))[j + 1]? = some q.2.1 ∧ (l :: (s ++ [r]))[j + 2]? = some q.2.2 := by
  have h1 : j < (l :: (s ++ [r])).length := by simp; omega
  have h2 : j + 1 < (s ++ [r]).length := by simp; omega
  have e2 : (s ++ [r])[j]? = some s[j] := by rw [List.getElem?_append_left h, List.getElem?_eq_getElem h]
  exact ⟨(_, s[j], _), sides_at s l j (_, s[j], _) (List.getElem?_eq_getElem h1) (List.getElem?_eq_getElem h) (List.getElem?_eq_getElem h2), List.getElem?_eq_getElem h1, e2, List.getElem?_eq_getElem h2⟩
def spGreatest (K : PySem.W.Frag) : Sp := fun vs H Q _ => ∃ (n : Nat) (fd : Addr) (F : Fail), vs = [.int (n : Int), .ref fd] ∧ n ≤ 12 ∧ (∃ kvs, H fd = some (.dT kvs) ∧ Full K (fun l p r v => v = .bl (F l p r)) n kvs) ∧ Wider (n : Int) F ∧ ∀ H' v, Same H H' → LotV K H' v (settle F n (allP n)).2 → Q v H'
abbrev N_law_greatest : List Str := ["_law_many", "_law_fails", "_law_found", "_law_number", "_law_some", "_law_rests", "_law_k"]
theorem sc_law_greatest : FnScope N_law_greatest ["_law_many", "_law_fails"] (defScope s_law_greatest) := ⟨rfl, rfl, rfl, by decide +kernel, rfl, by decide +kernel, by decide +kernel⟩
theorem ok_lgreatest (G : Gd K mg "_law_greatest" s_law_greatest) (B : Bt mg) : Df P w K mg base "_law_greatest" ["_law_many", "_law_fails"] 1 (spGreatest K) := by
  refine df_mk G sc_law_greatest (fun vs H Q E h => by obtain ⟨_, _, _, rfl, _⟩ := h; rfl) (fun _ _ _ _ _ _ us hl => match us, hl with | [_, _], _ => rfl) (fun f cdv A' outer sh H vs Q E hr h => ?_)
  obtain ⟨n, fd, F, rfl, n12, ⟨kvs, efd, fu⟩, wd, k⟩ := h
  have hu := hu_of hr
  refine ⟨_, (pss_cons (ps_set (i := 2) sc_law_greatest.nd rfl (by first | exact Or.inl rfl | exact Or.inr rfl) (pe_lst pa_nil))
    (pss_cons (ps_for PassesOwn.never rfl (pi_range1 (by rfl) B.range (pa_cons (pe_op op_shl pe_int (pv 0)) pa_nil)) (pg_name (i := 3) sc_law_greatest.nd rfl (by first | exact Or.inl rfl | exact Or.inr rfl))
    (pss_cons (ps_setLcX (i := 4) (own := [("_law_k", 6)]) (g := gName 6) rfl sc_law_greatest.nd rfl (pi_range1 (by rfl) B.range (pa_cons (pv 0) pa_nil)) (blkOk_by (N := N_law_greatest) (sc := defScope s_law_greatest) (by decide +kernel)) (fun _ _ _ _ _ => (pg_name (i := 6) sc_law_greatest.nd rfl (by first | exact Or.inl rfl | exact Or.inr rfl))) (fun _ _ _ _ _ => pts_one (pt_cmpR op_eq (pe_op op_mod (pe_callTy call_int1 (by rfl) B.int (by decide +kernel) (pa_cons (pe_op op_shr (pv 3) (pv 6)) pa_nil)) pe_int) pe_int (nomark _))) (fun _ _ _ _ _ => (pv 6)))
      (pss_cons (ps_set (i := 5) sc_law_greatest.nd rfl (by first | exact Or.inl rfl | exact Or.inr rfl) (pe_op op_cat (pe_op op_cat (pe_lst (pa_cons (pe_un un_neg pe_int) pa_nil)) (pv 4)) (pe_lst (pa_cons (pv 0) pa_nil))))
      (pss_one (ps_if (pt_not (pt_val (pe_callB (r := rAny K) (cr_any rfl) (by rfl) B.any_ (by decide +kernel) (pa_cons (pe_lc (own := [("_law_k", 6)]) (g := gName 6) rfl sc_law_greatest.nd (pi_range1 (by rfl) B.range (pa_cons (pe_callB call_len_seq (by rfl) B.len (by decide +kernel) (pa_cons (pv 4) pa_nil)) pa_nil)) (blkOk_by (N := N_law_greatest) (sc := defScope s_law_greatest) (by decide +kernel)) (fun _ _ _ _ _ => (pg_name (i := 6) sc_law_greatest.nd rfl (by first | exact Or.inl rfl | exact Or.inr rfl))) (fun _ _ _ _ _ => pts_nil) (fun _ _ _ _ _ => (pe_dget hu (pv 1) (pe_tup (pa_cons (pe_ix (r := rIxL K) ix_list (pv 5) (pv 6) (fun _ _ => rfl)) (pa_cons (pe_ix (r := rIxL K) ix_list (pv 5) (pe_op op_add (pv 6) pe_int) (fun _ _ => rfl)) (pa_cons (pe_ix (r := rIxL K) ix_list (pv 5) (pe_op op_add (pv 6) pe_int) (fun _ _ => rfl)) pa_nil)))) (fun _ _ => rfl)))) pa_nil))))
      (pss_one (ps_set (i := 2) sc_law_greatest.nd rfl (by first | exact Or.inl rfl | exact Or.inr rfl) (pe_sortedSet rfl (by rfl) B.sorted (by rfl) B.set_ (pe_op op_cat (pv 2) (pv 4)))))
      pss_nil)))))
    (pss_one (ps_ret (pe_callTy call_tuple_of (by rfl) B.tuple (by decide +kernel) (pa_cons (pv 2) pa_nil)))))), ?_⟩
  have p12 : 2 ^ n ≤ 4096 := pow_le (m := n) (n := 12) n12
  refine ⟨by decide, fun D0 hD0 => ?_⟩
  have s1 := same_new (o := .lst []) hD0
  have e1 : (upd H D0 (.lst [])) D0 = some (.lst []) := upd_same
  generalize upd H D0 (.lst []) = H1 at s1 e1
  have ep : (1 : Int) * 2 ^ ((n : Int)).toNat = ((2 ^ n : Nat) : Int) := by simp
  have et : ((1 : Int) * 2 ^ ((n : Int)).toNat).toNat = 2 ^ n := by rw [ep, Int.toNat_natCast]
  have eb : -(2 ^ 62) ≤ (1 : Int) * 2 ^ ((n : Int)).toNat ∧ (1 : Int) * 2 ^ ((n : Int)).toNat < 2 ^ 62 := by
    rw [ep]
    generalize 2 ^ n = N at p12
    omega
  refine ⟨_, rfl, _, _, rfl, rfl, ⟨by omega, by omega, by decide⟩, _, rfl, ?_⟩
  refine ⟨eb.1, eb.2, ?_⟩
  refine for_range (lo := 0) (n := ((1 : Int) * 2 ^ ((n : Int)).toNat).toNat) (fun i σ H' => ∃ D t x3 x4 x5 x6, σ = [some (.int (n : Int)), some (.ref fd), some (.ref D), x3, x4, x5, x6] ∧ Same H H' ∧ H' D = some (.lst (t.map V.int)) ∧ Union F n i t) ⟨D0, [], _, _, _, _, rfl, s1, e1, Union.zero⟩ (fun m σ H' hm I => ?_) (fun σ H' I => ?_)
  · obtain ⟨D, t, x3, x4, x5, x6, rfl, s, eD, un⟩ := I
    refine ⟨_, rfl, (n : Int), rfl, by omega, by omega, fun S hS => ?_⟩
    refine lc_it (w := walk_range (lo := 0) (n := (n : Int).toNat)) (fun i H' => Same H H' ∧ H' D = some (.lst (t.map V.int)) ∧ H' S = some (.lst (((allP i).filter fun k => m / 2 ^ k.toNat % 2 == 1).map V.int))) ⟨s.trans (same_new hS), same_new hS _ _ eD, upd_same⟩ (fun _ _ _ _ => trivial) (fun i y H2 H3 hi I hy => ?_) (fun H2 I => ?_)
    · obtain ⟨rfl, rfl⟩ := hy
      obtain ⟨s2, eD2, eS⟩ := I
      have S0 : H S = none := s.free hS
      have nSD : D ≠ S := by rintro rfl; rw [eD] at hS; cases hS
      refine ⟨rfl, _, rfl, _, rfl, _, _, rfl, rfl, (show (0 : Int) ≤ 0 + (i : Nat) by omega), .inl ⟨_, rfl, _, _, rfl, rfl, (show (0 : Int) < 2 by decide), rfl, _, rfl, ?_⟩⟩
      rw [bit_eq]
      have zl : (((allP i).filter fun k => m / 2 ^ k.toNat % 2 == 1).map V.int).length < sizeLine := small_lt (by
        rw [List.length_map]
        refine Nat.lt_of_le_of_lt (List.length_filter_le _ _) ?_
        simp [allP]; omega)
      refine ite2 (fun c => ?_) (fun c => ?_)
      · refine ⟨_, rfl, _, eS, zl, same_mut s2 S0, by rw [upd_ne nSD]; exact eD2, ?_⟩
        rw [upd_same, allP_succ, List.filter_append, List.map_append, filt1, if_pos (by exact c)]
        simp
      · refine ⟨s2, eD2, ?_⟩
        rw [eS, allP_succ, List.filter_append, filt1, if_neg (by exact c)]
        simp
    obtain ⟨s2, eD2, eS2⟩ := I
    have eS2 : H2 S = some (.lst ((bitsOf n m).map V.int)) := by rw [eS2]; rfl
    have bl := bits_lot n m
    have bl12 := lot12 bl
    obtain ⟨b, hb⟩ : ∃ b, b = bitsOf n m := ⟨_, rfl⟩
    rw [← hb] at eS2 bl bl12
    have two : 1 ≤ sizeLine := by decide
    refine ⟨_, rfl, two, fun A1 hA1 => ?_⟩
    have g1 := same_new (o := .lst [V.int (-1)]) hA1
    refine ⟨_, rfl, A1, S, _, _, rfl, rfl, upd_same, g1 _ _ eS2, small (by simp; omega), fun B1 hB1 => ?_⟩
    have g2 := g1.trans (same_new (o := .lst ([V.int (-1)] ++ b.map V.int)) hB1)
    have eB1 : (upd (upd H2 A1 (.lst [V.int (-1)])) B1 (.lst ([V.int (-1)] ++ b.map V.int))) B1 = some (.lst ([V.int (-1)] ++ b.map V.int)) := upd_same
    generalize upd (upd H2 A1 (.lst [V.int (-1)])) B1 (.lst ([V.int (-1)] ++ b.map V.int)) = H3 at g2 eB1
    refine ⟨_, rfl, two, fun C1 hC1 => ?_⟩
    have g3 := same_new (o := .lst [V.int (n : Int)]) hC1
    refine ⟨B1, C1, _, _, rfl, rfl, g3 _ _ eB1, upd_same, small (by simp; omega), fun R hR => ?_⟩
    have g4 := (g2.trans g3).trans (same_new (o := .lst ([V.int (-1)] ++ b.map V.int ++ [V.int (n : Int)])) hR)
    have eR : (upd (upd H3 C1 (.lst [V.int (n : Int)])) R (.lst ([V.int (-1)] ++ b.map V.int ++ [V.int (n : Int)]))) R = some (.lst (((-1 : Int) :: (b ++ [(n : Int)])).map V.int)) := by rw [upd_same]; simp
    generalize upd (upd H3 C1 (.lst [V.int (n : Int)])) R (.lst ([V.int (-1)] ++ b.map V.int ++ [V.int (n : Int)])) = H4 at g4 eR
    have s4 := s2.trans g4
    have eS4 := g4 _ _ eS2
    have eD4 := g4 _ _ eD2
    have lb : ((((b.map V.int).length : Nat) : Int)).toNat = b.length := by simp
    refine ⟨_, rfl, S, _, rfl, .inl (SqL.of eS4), _, rfl, (show -(2 ^ 62) ≤ (((b.map V.int).length : Nat) : Int) by omega), (show (((b.map V.int).length : Nat) : Int) < 2 ^ 62 by rw [List.length_map]; omega), fun L hL => ?_⟩
    refine lc_each (w := walk_range (lo := 0) (n := ((((b.map V.int).length : Nat) : Int)).toNat)) hL (by rw [lb]; omega) (fun j y _ => ∃ q, (sides (-1) b n)[j]? = some q ∧ y = .bl (F q.1 q.2.1 q.2.2)) (fun _ _ _ _ _ z => z) (fun _ _ => trivial) (fun j y H5 H6 hj s' hy Q' k' => ?_) (fun H5 g => ?_)
    · obtain ⟨rfl, rfl⟩ := hy
      rw [lb] at hj
      obtain ⟨q, hq, q1, q2, q3⟩ := sides_get (r := (n : Int)) (l := -1) hj
      have k3 := key_of_sides bl (List.mem_of_getElem? hq)
      obtain ⟨v, hv, ev⟩ := fu.get k3
      have eR5 := s' _ _ eR
      have at_ : ∀ (i : Nat) (z : Int), ((-1 : Int) :: (b ++ [(n : Int)]))[i]? = some z → (((-1 : Int) :: (b ++ [(n : Int)])).map V.int)[i]? = some (V.int z) := fun i z hz => by rw [List.getElem?_map, hz]; rfl
      have efd5 := s' _ _ (s4 _ _ efd)
      refine ⟨rfl, _, rfl, _, rfl, _, rfl, R, _, _, _, rfl, rfl, SqL.of eR5, at_of (j := j) (by omega) (at_ _ _ q1), _, rfl, _, rfl, _, _, rfl, rfl, R, _, _, _, rfl, rfl, SqL.of eR5, at_of (j := j + 1) (by omega) (at_ _ _ q2), _, rfl, _, rfl, _, _, rfl, rfl, R, _, _, _, rfl, rfl, SqL.of eR5, at_of (j := j + 2) (by omega) (at_ _ _ q3), by show 3 ≤ sizeLine; decide, fun T hT => ?_⟩
      exact ⟨fd, v, rfl, .inr ⟨kvs, kk q.1 q.2.1 q.2.2, T, .inl (same_new hT _ _ efd5), rfl, upd_same, hv.symm⟩, k' _ _ (same_new hT) ⟨q, hq, ev⟩⟩
    · obtain ⟨s5, ys, eL, ly, hys⟩ := g
      rw [lb] at ly
      have eys : ys = ((sides (-1) b n).map fun q => F q.1 q.2.1 q.2.2).map V.bl := by
        apply List.ext_getElem?
        intro j
        rcases Nat.lt_or_ge j b.length with h | h
        · obtain ⟨q, hq, ey⟩ := hys j _ (List.getElem?_eq_getElem (show j < ys.length by omega))
          rw [List.getElem?_eq_getElem (show j < ys.length by omega), ey, List.getElem?_map, List.getElem?_map, hq]
          rfl
        · rw [List.getElem?_eq_none (by omega), List.getElem?_eq_none (by rw [List.length_map, List.length_map, sides_length]; exact h)]
      rw [eys] at eL
      refine ⟨L, _, rfl, SqL.of eL, _, rfl, ?_⟩
      have eD5 := s5 _ _ eD4
      have eS5 := s5 _ _ eS4
      have s45 := s4.trans s5
      have t12 := lot12 un.lot
      cases hany : ((sides (-1) b n).map fun q => F q.1 q.2.1 q.2.2).any id with
      | true =>
        refine iteF ⟨D, t, _, _, _, _, rfl, s45, eD5, un.skip fun z => ?_⟩
        rw [← hb] at z
        have := bad_nil.mp z
        obtain ⟨y, hy, ey⟩ := List.any_eq_true.mp hany
        obtain ⟨⟨q1, q2, q3⟩, hq, rfl⟩ := List.mem_map.mp hy
        have e := this _ _ _ hq
        have ey : F q1 q2 q3 = true := ey
        rw [e] at ey
        cases ey
      | false =>
        have hbad : bad F n (bitsOf n m) = [] := by
          rw [← hb]
          refine bad_nil.mpr fun q1 q2 q3 hq => ?_
          cases e : F q1 q2 q3 with
          | false => rfl
          | true =>
            have this : ((sides (-1) b n).map fun q => F q.1 q.2.1 q.2.2).any id = true := List.any_eq_true.mpr ⟨true, List.mem_map.mpr ⟨_, hq, e⟩, rfl⟩
            rw [hany] at this
            cases this
        refine iteT ⟨_, rfl, _, rfl, D, S, _, _, rfl, rfl, eD5, eS5, small (by simp; omega), fun X hX => ⟨X, t ++ b, rfl, SqL.of (by rw [upd_same, List.map_append]), by rw [List.length_append]; omega, fun out p ho hmem hp => ?_⟩⟩
        exact ⟨p, out, _, _, _, _, rfl, (s45.trans (same_new hX)).trans (same_new hp), upd_same, un.step hbad ho fun z => by rw [hmem z, List.mem_append, ← hb]⟩
  · obtain ⟨D, t, x3, x4, x5, x6, rfl, s, eD, un⟩ := I
    rw [et] at un
    refine ⟨_, rfl, D, _, rfl, .inl ⟨SqL.of eD, fun q hq => k _ _ (s.trans (same_new hq)) ⟨q, rfl, SqT.of ?_⟩⟩⟩
    rw [← un.left wd]
    exact upd_same
end Pf
end

section
namespace Pf
open PySem PySem.Spec PyProof.Rows L2
variable {P : Program} {w : World} {K : PySem.W.Frag} {mg : Str → Option Value} {base : Heap} {a : Ad}
/-- spares and shares -/
structure SH (K : PySem.W.Frag) (H : Hp) (sd hd : Addr) (n : Nat) (sp hs : Int → Int → Int → Rat) : Prop where
  s : ∃ kvs, H sd = some (.dT kvs) ∧ Full K (fun l p r v => Fr K H v (sp l p r)) n kvs
  h : Num K H hd n hs
  nums : Nums n sp hs
  zs : ∀ l p r, Key3 n l p r → Sz 3741 (sp l p r)
  zh : ∀ l p r, Key3 n l p r → Sz 160 (hs l p r)
theorem SH.same {H H' : Hp} {sd hd : Addr} {n : Nat} {sp hs : Int → Int → Int → Rat} (s : Same H H') (h : SH K H sd hd n sp hs) : SH K H' sd hd n sp hs := by
  obtain ⟨kvs, h1, h2⟩ := h.s
  exact ⟨⟨kvs, s _ _ h1, h2.imp fun _ _ _ _ z => z.same s⟩, h.h.same s, h.nums, h.zs, h.zh⟩
theorem key_tup {l p r : Int} : (kk l p r).map kV = [V.int l, V.int p, V.int r] := rfl
def spLeft (K : PySem.W.Frag) : Sp := fun vs H Q _ => ∃ (n : Nat) (sd hd : Addr) (sp hs : Int → Int → Int → Rat) (v : V) (q : Rat), vs = [.int (n : Int), .ref sd, .ref hd, v] ∧ n ≤ 12 ∧ SH K H sd hd n sp hs ∧ sd ≠ hd ∧ Fr K H v q ∧ Sz 7900 q ∧ 0 ≤ q ∧
  ∀ H' v', Same H H' → LotV K H' v' (settle (Fw sp hs q) n (allP n)).2 → Q v' H'
abbrev N_law_left : List Str := ["_law_many", "_law_spares_here", "_law_shares", "_law_much", "_law_fails", "_law_key"]
theorem sc_law_left : FnScope N_law_left ["_law_many", "_law_spares_here", "_law_shares", "_law_much"] (defScope s_law_left) := ⟨rfl, rfl, rfl, by decide +kernel, rfl, by decide +kernel, by decide +kernel⟩
theorem ok_lleft (G : Gd K mg "_law_left" s_law_left) (D_law_is_below : Df P w K mg base "_law_is_below" ["_law_one", "_law_other"] 1 (spBelow K)) (D_law_by : Df P w K mg base "_law_by" ["_law_one", "_law_other"] 2 (sp2 K (· * ·) any2))
    (D_law_greatest : Df P w K mg base "_law_greatest" ["_law_many", "_law_fails"] 1 (spGreatest K)) : Df P w K mg base "_law_left" ["_law_many", "_law_spares_here", "_law_shares", "_law_much"] 3 (spLeft K) := by
  refine df_mk G sc_law_left (fun vs H Q E h => by obtain ⟨_, _, _, _, _, _, _, rfl, _⟩ := h; rfl) (fun _ _ _ _ _ _ us hl => match us, hl with | [_, _, _, _], _ => rfl) (fun f cdv A' outer sh H vs Q E hr h => ?_)
  obtain ⟨n, sd, hd, sp, hs, v, q, rfl, n12, S, nsh, fq, zq, q0, k⟩ := h
  have hu := hu_of hr
  refine ⟨_, (pss_cons (ps_set (i := 4) sc_law_left.nd rfl (by first | exact Or.inl rfl | exact Or.inr rfl) pe_dnewT)
    (pss_cons (ps_lock (ps_for PassesOwn.never rfl (pi_keys (pv 1)) (pg_name (i := 5) sc_law_left.nd rfl (by first | exact Or.inl rfl | exact Or.inr rfl))
    (pss_one (ps_dput hu (pv 4) (pv 5) (pcall D_law_is_below hr (by decide) (by rfl) (pa_cons (pe_dget hu (pv 1) (pv 5) (fun _ _ => rfl)) (pa_cons (pcall D_law_by hr (by decide) (by rfl) (pa_cons (pv 3) (pa_cons (pe_dget hu (pv 2) (pv 5) (fun _ _ => rfl)) pa_nil))) pa_nil))) rfl))))
    (pss_one (ps_ret (pcall D_law_greatest hr (by decide) (by rfl) (pa_cons (pv 0) (pa_cons (pv 4) pa_nil))))))), ?_⟩
  refine fun FD hFD => ?_
  have s1 := same_new (o := .dT []) hFD
  have e1 : (upd H FD (.dT [])) FD = some (.dT []) := upd_same
  generalize upd H FD (.dT []) = H1 at s1 e1
  have S1 := S.same s1
  obtain ⟨kvs, es, fs⟩ := S1.s
  have nF : FD ≠ sd := by rintro rfl; obtain ⟨_, e, _⟩ := S.s; rw [e] at hFD; cases hFD
  refine ⟨sd, .dT kvs, es, trivial, fun od => ?_⟩
  have kpL : Keep H1 (upd H1 sd (.frz od (.dT kvs))) := Keep.upd (by rw [es]; exact trivial)
  have eF : (upd H1 sd (.frz od (.dT kvs))) FD = some (.dT []) := by rw [upd_ne nF]; exact e1
  have esL : (upd H1 sd (.frz od (.dT kvs))) sd = some (.frz od (.dT kvs)) := upd_same
  have ehL : ∀ u, Rd H1 hd u → Rd (upd H1 sd (.frz od (.dT kvs))) hd u := fun u z => by
    rcases z with z | ⟨o, z⟩
    · exact .inl (by rw [upd_ne nsh.symm]; exact z)
    · exact .inr ⟨o, by rw [upd_ne nsh.symm]; exact z⟩
  have othL : ∀ b o, b ≠ sd → H1 b = some o → (upd H1 sd (.frz od (.dT kvs))) b = some o := fun b o nb e => by rw [upd_ne nb]; exact e
  have fqL := (fq.same s1).keep kpL
  obtain ⟨hk, ehk, fhk⟩ := S1.h
  have ehk := ehL _ ehk
  have fsL := fs.imp fun _ _ _ _ z => z.keep kpL
  have fhL := fhk.imp fun _ _ _ _ z => z.keep kpL
  generalize upd H1 sd (.frz od (.dT kvs)) = HL at kpL eF esL ehk othL fqL fsL fhL
  refine ⟨_, rfl, sd, od, rfl, .inr ⟨kvs, esL, ?_⟩⟩
  refine for_it (walk_keysT (d := sd) (o := od) (kvs := kvs)) (fun i σ H' => ∃ x5 fk, σ = [some (.int (n : Int)), some (.ref sd), some (.ref hd), some v, some (.ref FD), x5] ∧ (∀ b o, b ≠ FD → HL b = some o → H' b = some o) ∧ H' FD = some (.dT fk) ∧ Tab n (fun l p r v => v = .bl (Fw sp hs q l p r)) fk ∧ ∀ e ∈ kvs.take i, ∃ v, valV fk e.1 = some v)
    ⟨_, [], rfl, fun _ _ _ e => e, eF, Tab.nil, fun e he => by simp at he⟩ (fun i σ H' _ I => by obtain ⟨_, _, _, I, _⟩ := I; exact I _ _ nF.symm esL) (fun i y σ H2 H' hi I hy => ?_) (fun σ H' I => ?_)
  · obtain ⟨x5, fk, rfl, keep, eF', tb, fu⟩ := I
    obtain ⟨rfl, kk', v0, kq, hki, rfl, hkq⟩ := hy
    obtain ⟨l, p, r, ek, k3, _⟩ := fsL.tab.all _ (List.mem_of_getElem? hki)
    have ek : kk' = kk l p r := ek
    subst ek
    obtain ⟨v1, hv1, f1⟩ := fsL.get k3
    obtain ⟨v2, hv2, f2⟩ := fhL.get k3
    have kp : Keep HL H' := fun b o e m => keep b o (by rintro rfl; rw [eF] at e; cases e; exact m trivial) e
    have nFh : hd ≠ FD := by
      rintro rfl
      rcases ehk with z | ⟨o, z⟩
      · rw [eF] at z
        cases z
        have := valV_mem hv2
        cases this
      · rw [eF] at z; cases z
    have rh : Rd H' hd (.dT hk) := by
      rcases ehk with z | ⟨o, z⟩
      · exact .inl (keep _ _ nFh z)
      · exact .inr ⟨o, keep _ _ nFh z⟩
    refine ⟨_, rfl, _, rfl, sd, v1, rfl, .inr ⟨kvs, kk l p r, kq, .inr ⟨od, keep _ _ nF.symm esL⟩, rfl, hkq, hv1.symm⟩, ?_⟩
    refine ⟨_, rfl, _, rfl, _, rfl, hd, v2, rfl, .inr ⟨hk, kk l p r, kq, rh, rfl, hkq, hv2.symm⟩, v, v2, q, _, rfl, fqL.keep kp, f2.keep kp, ⟨_, _, zq, S.zh _ _ _ k3, by decide⟩, trivial, fun H3 bv s3 fb => ?_⟩
    refine ⟨v1, bv, _, _, rfl, (f1.keep kp).same s3, fb, ⟨_, _, S.zs _ _ _ k3, zq.mul (S.zh _ _ _ k3), by decide⟩, ?_⟩
    have eF3 := s3 _ _ eF'
    refine ⟨_, rfl, _, rfl, FD, _, rfl, DPut.t eF3 (k := kk l p r) (s3 _ _ hkq) (small_lt (by have := tb.small n12; omega)), _, putK fk (kk l p r) _, rfl, fun b o nb e => by rw [upd_ne nb]; exact s3 _ _ (keep b o nb e), upd_same, tb.put k3 rfl, fun e he => ?_⟩
    rw [List.take_add_one, hki] at he
    rw [valV_put]
    split
    · exact ⟨_, rfl⟩
    · rename_i ne
      rcases List.mem_append.mp he with he | he
      · exact fu e he
      · rw [List.mem_singleton.mp he] at ne
        exact absurd rfl ne
  · obtain ⟨x5, fk, rfl, keep, eF', tb, fu⟩ := I
    have es' := keep _ _ nF.symm esL
    refine ⟨es', ?_⟩
    have sH : Same H (upd H' sd (.dT kvs)) := fun b o e => by
      by_cases hb : b = sd
      · rw [hb] at e ⊢
        have e' := s1 _ _ e
        rw [es] at e'
        rw [upd_same, e']
      · rw [upd_ne hb]
        exact keep b o (ne_of_none e hFD) (othL b o hb (s1 _ _ e))
    refine ⟨_, rfl, _, rfl, n, FD, Fw sp hs q, rfl, n12, ⟨fk, by rw [upd_ne nF]; exact eF', tb, fun l p r k3 => ?_⟩, wider_Fw S.nums q0, fun H'' v' s'' lv => k H'' v' (sH.trans s'') lv⟩
    obtain ⟨v1, hv1, _⟩ := fsL.get k3
    exact fu _ (by rw [List.take_length]; exact valV_mem hv1)
end Pf
end

section
namespace Pf
open PySem PySem.Spec PyProof.Rows L2
variable {P : Program} {w : World} {K : PySem.W.Frag} {mg : Str → Option Value} {base : Heap} {a : Ad}
theorem rlt_trans {a b c : Rat} (h : a < b) (h2 : b < c) : a < c := by grind
theorem rise_cut {q : Rat} : ∀ {s : List Rat}, s.Pairwise (· < ·) → s.take (s.filter fun x => decide (x < q)).length = s.filter (fun x => decide (x < q)) ∧ s.drop (s.filter fun x => decide (x < q)).length = s.filter (fun x => !decide (x < q))
  | [], _ => ⟨rfl, rfl⟩
  | x :: t, h => by
    obtain ⟨h1, h2⟩ := List.pairwise_cons.mp h
    by_cases c : x < q
    · obtain ⟨i1, i2⟩ := rise_cut (q := q) h2
      rw [List.filter_cons_of_pos (by simpa using c), List.filter_cons_of_neg (by simpa using c)]
      rw [List.length_cons, List.take_succ_cons, List.drop_succ_cons, i1, i2]
      exact ⟨rfl, rfl⟩
    · have all : ∀ y ∈ t, ¬ y < q := fun y hy z => c (rlt_trans (h1 y hy) z)
      have e : t.filter (fun x => decide (x < q)) = [] := List.filter_eq_nil_iff.mpr fun y hy => by simpa using all y hy
      have e2 : t.filter (fun x => !decide (x < q)) = t := List.filter_eq_self.mpr fun y hy => by simpa using all y hy
      rw [List.filter_cons_of_neg (by simpa using c), List.filter_cons_of_pos (by simpa using c), e, e2]
      exact ⟨rfl, rfl⟩
theorem rise_put {q : Rat} {s : List Rat} (h : s.Pairwise (· < ·)) (nq : q ∉ s) : (s.take (s.filter fun x => decide (x < q)).length ++ [q] ++ s.drop (s.filter fun x => decide (x < q)).length).Pairwise (· < ·) := by
  obtain ⟨e1, e2⟩ := rise_cut (q := q) h
  rw [e1, e2]
  refine List.pairwise_append.mpr ⟨List.pairwise_append.mpr ⟨h.filter _, List.pairwise_singleton _ _, fun x hx y hy => ?_⟩, h.filter _, fun x hx y hy => ?_⟩
  · rw [List.mem_singleton.mp hy]
    exact of_decide_eq_true (List.mem_filter.mp hx).2
  · obtain ⟨hy1, hy2⟩ := List.mem_filter.mp hy
    have hy2 : ¬ y < q := by simpa using hy2
    have ne : y ≠ q := fun z => nq (z ▸ hy1)
    have hq : q < y := by
      rcases rlt_or_eq (Rat.not_lt.mp hy2) with z | z
      · exact z
      · exact absurd z.symm ne
    rcases List.mem_append.mp hx with hx | hx
    · exact rlt_trans (of_decide_eq_true (List.mem_filter.mp hx).2) hq
    · rw [List.mem_singleton.mp hx]; exact hq
theorem mem_put {q x : Rat} {s : List Rat} {j : Nat} : x ∈ s.take j ++ [q] ++ s.drop j ↔ x ∈ s ∨ x = q := by
  rw [List.mem_append, List.mem_append, List.mem_singleton]
  have e : x ∈ s ↔ x ∈ s.take j ∨ x ∈ s.drop j := by
    conv => lhs; rw [← List.take_append_drop j s]
    exact List.mem_append
  rw [e]
  constructor
  · rintro ((h | h) | h)
    · exact .inl (.inl h)
    · exact .inr h
    · exact .inl (.inr h)
  · rintro ((h | h) | h)
    · exact .inl (.inl h)
    · exact .inr h
    · exact .inl (.inr h)
theorem any_frs (q : Rat) : ∀ s : List Rat, ((s.map frD).any fun z => PyData.eqv z (frD q)) = decide (q ∈ s)
  | [] => by simp
  | x :: s => by
    rw [List.map_cons, List.any_cons, any_frs q s, eqv_fr]
    by_cases h : x = q
    · subst h; simp
    · have h' : ¬ q = x := fun z => h z.symm
      simp [h, h']
theorem Paired.take {α β : Type} {F : α → β → Prop} : ∀ {xs : List α} {ys : List β} (j : Nat), Paired F xs ys → Paired F (xs.take j) (ys.take j)
  | _, _, 0, _ => by simpa using .nil
  | _, _, _ + 1, .nil => .nil
  | _, _, j + 1, .cons r t => .cons r (Paired.take j t)
theorem Paired.drop {α β : Type} {F : α → β → Prop} : ∀ {xs : List α} {ys : List β} (j : Nat), Paired F xs ys → Paired F (xs.drop j) (ys.drop j)
  | _, _, 0, h => h
  | _, _, _ + 1, .nil => .nil
  | _, _, j + 1, .cons _ t => Paired.drop j t
def spRising (K : PySem.W.Frag) : Sp := fun vs H Q _ => ∃ (l : Addr) (ys : List V) (qs : List Rat), vs = [.ref l] ∧ SqL K H l ys ∧ Frs K H ys qs ∧ (∀ q ∈ qs, Sz 3901 q) ∧ qs.length ≤ 9000 ∧
  ∀ H' l' ys' qs', Same H H' → H l' = none → H' l' = some (.lst ys') → Frs K H' ys' qs' → qs'.Pairwise (· < ·) → (∀ x, x ∈ qs' ↔ x ∈ qs) → qs'.length ≤ qs.length → Q (.ref l') H'
abbrev N_law_rising : List Str := ["_law_some", "_law_found", "_law_one", "_law_at", "_law_other"]
theorem sc_law_rising : FnScope N_law_rising ["_law_some"] (defScope s_law_rising) := ⟨rfl, rfl, rfl, by decide +kernel, rfl, by decide +kernel, by decide +kernel⟩
theorem ok_lrising (G : Gd K mg "_law_rising" s_law_rising) (B : Bt mg) (D_law_is_below : Df P w K mg base "_law_is_below" ["_law_one", "_law_other"] 1 (spBelow K)) : Df P w K mg base "_law_rising" ["_law_some"] 2 (spRising K) := by
  refine df_mk G sc_law_rising (fun vs H Q E h => by obtain ⟨_, _, _, rfl, _⟩ := h; rfl) (fun _ _ _ _ _ _ us hl => match us, hl with | [_], _ => rfl) (fun f cdv A' outer sh H vs Q E hr h => ?_)
  obtain ⟨l, ys, qs, rfl, hl, fs, sz, l9, k⟩ := h
  refine ⟨_, (pss_cons (ps_set (i := 1) sc_law_rising.nd rfl (by first | exact Or.inl rfl | exact Or.inr rfl) (pe_lst pa_nil))
    (pss_cons (ps_for PassesOwn.never rfl (pi_list (pv 0)) (pg_name (i := 2) sc_law_rising.nd rfl (by first | exact Or.inl rfl | exact Or.inr rfl))
    (pss_one (ps_if (pt_cmpR (op_notInD hr.units65) (pv 2) (pv 1) (by rfl))
      (pss_cons (ps_set (i := 3) sc_law_rising.nd rfl (by first | exact Or.inl rfl | exact Or.inr rfl) (pe_callB call_len_seq (by rfl) B.len (by decide +kernel) (pa_cons (pe_lc (own := [("_law_other", 4)]) (g := gName 4) rfl sc_law_rising.nd (pi_list (pv 1)) (blkOk_by (N := N_law_rising) (sc := defScope s_law_rising) (by decide +kernel)) (fun _ _ _ _ _ => (pg_name (i := 4) sc_law_rising.nd rfl (by first | exact Or.inl rfl | exact Or.inr rfl))) (fun _ _ _ _ _ => pts_one (pt_val (pcall D_law_is_below hr (by decide) (by rfl) (pa_cons (pv 4) (pa_cons (pv 2) pa_nil))))) (fun _ _ _ _ _ => (pv 4))) pa_nil)))
        (pss_one (ps_set (i := 1) sc_law_rising.nd rfl (by first | exact Or.inl rfl | exact Or.inr rfl) (pe_op op_cat (pe_op op_cat (pe_slice (r := rSlL K) sl_list (pv 1) po_none (po_some (pv 3))) (pe_lst (pa_cons (pv 2) pa_nil))) (pe_slice (r := rSlL K) sl_list (pv 1) (po_some (pv 3)) po_none)))))
      pss_nil)))
    (pss_one (ps_ret (pv 1))))), ?_⟩
  refine ⟨by decide, fun D0 hD0 => ?_⟩
  have s1 := same_new (o := .lst []) hD0
  have e1 : (upd H D0 (.lst [])) D0 = some (.lst []) := upd_same
  generalize upd H D0 (.lst []) = H1 at s1 e1
  refine ⟨_, rfl, _, rfl, ⟨_, sql_same s1 hl⟩, for_list (K := K) (a := l) (xs := ys) (fun i σ H' => ∃ D ys' qs' x2 x3 x4, σ = [some (.ref l), some (.ref D), x2, x3, x4] ∧ Same H H' ∧ H D = none ∧ H' D = some (.lst ys') ∧ Frs K H' ys' qs' ∧ qs'.Pairwise (· < ·) ∧ (∀ x, x ∈ qs' ↔ x ∈ qs.take i) ∧ qs'.length ≤ i)
    ⟨D0, [], [], _, _, _, rfl, s1, hD0, e1, .nil, List.Pairwise.nil, fun x => by simp, Nat.le_refl _⟩ (fun i σ H' _ I => by obtain ⟨_, _, _, _, _, _, _, s, _⟩ := I; exact sql_same s hl) (fun i y σ H' hy I => ?_) (fun σ H' I => ?_)⟩
  · obtain ⟨D, ys', qs', x2, x3, x4, rfl, s, hD, eD, fs', pw, mem, len⟩ := I
    obtain ⟨q, hq, fq⟩ := Paired.get? fs hy
    have fq' := fq.same s
    have hi := (List.getElem?_eq_some_iff.mp hq).1
    have zq := sz q (List.mem_of_getElem? hq)
    have tk : qs.take (i + 1) = qs.take i ++ [q] := by rw [List.take_add_one, hq]; rfl
    refine ⟨_, rfl, _, rfl, _, _, dp_fr fq', .lst (SqL.of eD) (dpa_frs fs'), shaped_fr _, shaped_lst (lay_frs qs') (by have := dep_frs qs'; omega), _, rfl, ?_⟩
    rw [any_frs]
    by_cases c : q ∈ qs'
    · rw [decide_eq_true c]
      refine iteF ⟨D, ys', qs', _, _, _, rfl, s, hD, eD, fs', pw, fun x => ?_, by omega⟩
      rw [mem x, tk, List.mem_append, List.mem_singleton]
      exact ⟨.inl, fun z => z.elim id fun e => by rw [e]; exact (mem q).mp c⟩
    · rw [decide_eq_false c]
      refine iteT ?_
      refine ⟨_, rfl, _, rfl, ⟨_, SqL.of eD⟩, fun L hL => ?_⟩
      refine lc_list (K := K) (a := D) (xs := ys') (fun j H2 => Same H' H2 ∧ ∃ zs, H2 L = some (.lst zs) ∧ zs.length = ((qs'.take j).filter fun x => decide (x < q)).length) ⟨same_new hL, [], upd_same, by simp⟩ (fun j H2 _ I => sql_same I.1 (SqL.of eD)) (fun j z H2 hz I => ?_) (fun H2 I => ?_)
      · obtain ⟨s2, zs, eL, lz⟩ := I
        obtain ⟨u, hu, fz⟩ := Paired.get? fs' hz
        have tk' : qs'.take (j + 1) = qs'.take j ++ [u] := by rw [List.take_add_one, hu]; rfl
        have zu := sz u (List.mem_of_mem_take ((mem u).mp (List.mem_of_getElem? hu)))
        have zl : zs.length < sizeLine := small_lt (by
          rw [lz]
          refine Nat.lt_of_le_of_lt (List.length_filter_le _ _) ?_
          rw [List.length_take]
          omega)
        refine ⟨rfl, _, rfl, _, rfl, z, y, u, q, rfl, fz.same s2, fq'.same s2, ⟨_, _, zu, zq, by decide⟩, _, rfl, ?_⟩
        refine ite2 (fun c2 => ?_) (fun c2 => ?_)
        · refine ⟨_, rfl, _, eL, zl, same_mut s2 hL, _, upd_same, ?_⟩
          have e : [u].filter (fun x => decide (x < q)) = [u] := List.filter_eq_self.mpr fun x hx => by rw [List.mem_singleton.mp hx]; exact c2
          rw [tk', List.filter_append, List.length_append, List.length_append, lz, e]
          rfl
        · refine ⟨s2, zs, eL, ?_⟩
          have e : [u].filter (fun x => decide (x < q)) = [] := List.filter_eq_nil_iff.mpr fun x hx => by rw [List.mem_singleton.mp hx]; exact c2
          rw [tk', List.filter_append, List.length_append, lz, e]
          rfl
      · obtain ⟨s2, zs, eL, lz⟩ := I
        rw [Paired.length fs', List.take_length] at lz
        have eD2 := s2 _ _ eD
        have fs2 := Frs.keep (Same.keep s2) fs'
        have fq2 := fq'.same s2
        have ly := Paired.length fs'
        have lc : zs.length ≤ qs'.length := by rw [lz]; exact List.length_filter_le _ _
        have two : 1 ≤ sizeLine := by decide
        refine ⟨L, _, rfl, .inl (SqL.of eL), ?_⟩
        refine ⟨_, rfl, _, rfl, _, rfl, D, _, rfl, SqL.of eD2, fun p1 hp1 => ?_⟩
        have g1 := same_new (o := .lst (cutV ys' none (some ((zs.length : Nat) : Int)))) hp1
        have ep1 : (upd H2 p1 (.lst (cutV ys' none (some ((zs.length : Nat) : Int))))) p1 = some (.lst (ys'.take zs.length)) := by rw [upd_same, cutTo]
        generalize upd H2 p1 (.lst (cutV ys' none (some ((zs.length : Nat) : Int)))) = H3 at g1 ep1
        refine ⟨_, rfl, two, fun A hA => ?_⟩
        have g2 := same_new (o := .lst [y]) hA
        have eA : (upd H3 A (.lst [y])) A = some (.lst [y]) := upd_same
        refine ⟨p1, A, _, _, rfl, rfl, g2 _ _ ep1, eA, small (by rw [List.length_take]; show _ + 1 ≤ 100000; omega), fun B hB => ?_⟩
        have g3 := (g1.trans g2).trans (same_new (o := .lst (ys'.take zs.length ++ [y])) hB)
        have eB : (upd (upd H3 A (.lst [y])) B (.lst (ys'.take zs.length ++ [y]))) B = some (.lst (ys'.take zs.length ++ [y])) := upd_same
        generalize upd (upd H3 A (.lst [y])) B (.lst (ys'.take zs.length ++ [y])) = H4 at g3 eB
        refine ⟨_, rfl, _, rfl, _, rfl, D, _, rfl, SqL.of (g3 _ _ eD2), fun p2 hp2 => ?_⟩
        have g4 := same_new (o := .lst (cutV ys' (some ((zs.length : Nat) : Int)) none)) hp2
        have ep2 : (upd H4 p2 (.lst (cutV ys' (some ((zs.length : Nat) : Int)) none))) p2 = some (.lst (ys'.drop zs.length)) := by rw [upd_same, cutFrom]
        have eB2 := g4 _ _ eB
        have g5 := g3.trans g4
        generalize upd H4 p2 (.lst (cutV ys' (some ((zs.length : Nat) : Int)) none)) = H5 at g4 ep2 eB2 g5
        refine ⟨B, p2, _, _, rfl, rfl, eB2, ep2, small (by rw [List.length_append, List.length_take, List.length_drop]; show _ + 1 + _ ≤ 100000; omega), fun C hC => ?_⟩
        have s6 := (s2.trans g5).trans (same_new (o := .lst (ys'.take zs.length ++ [y] ++ ys'.drop zs.length)) hC)
        have sH := s.trans s6
        have C0 : H C = none := ((s.trans s2).trans g5).free hC
        have fs6 := Frs.keep (Same.keep s6) fs'
        have fq6 := fq'.same s6
        refine ⟨C, _, qs'.take zs.length ++ [q] ++ qs'.drop zs.length, _, _, _, rfl, sH, C0, upd_same, Paired.app (Paired.snoc fq6 (Paired.take _ fs6)) (Paired.drop _ fs6), ?_, fun x => ?_, ?_⟩
        · rw [lz]; exact rise_put pw c
        · rw [mem_put, mem x, tk, List.mem_append, List.mem_singleton]
        · rw [List.length_append, List.length_append, List.length_take, List.length_drop]
          show _ + 1 + _ ≤ i + 1
          omega
  · obtain ⟨D, ys', qs', x2, x3, x4, rfl, s, hD, eD, fs', pw, mem, len⟩ := I
    rw [Paired.length fs, List.take_length] at mem
    exact ⟨_, rfl, k H' D ys' qs' s hD eD fs' pw mem (by rw [Paired.length fs] at len; exact len)⟩
end Pf
end

section
/-! enumerate(t) over a tuple. -/
namespace Pf
open PySem PySem.Spec PyProof.Rows L2
abbrev enm (it : Addr) : Obj := { cls := .type "enumerate", data := .fields #[.none, .bool false, .ref it, rawInt 0, .none, .none] }
/-- enumerate(v): what begins -/
theorem enum_meets {v : Value} {o : Obj} {G : Heap → Prop} (B : Begins v o G) :
    Meets (Builtin.«enumerate.__new__» ⟨[.type "enumerate", v], []⟩) (fun _ R s => G s.heap ∧ R (.ok (.ret (.ref (s.heap.push o).objs.size))) { s with heap := (s.heap.push o).push (enm s.heap.objs.size) }) :=
  .of_wp fun prog w A R s h => by
    obtain ⟨hp, g, d, tk, os⟩ := s
    obtain ⟨h1, h⟩ := h
    have hsub := sub_enumerate
    have q1 : ∀ {A' : Around} {E : Value → Shared → Prop} {Q : Value → Shared → Prop}, Q (.ref hp.objs.size) ⟨hp.push o, g, d, tk, os⟩ → wpAny (model prog w) A' (pyIter v) Q E ⟨hp, g, d, tk, os⟩ := fun q => B.iter prog w _ _ ⟨hp, g, d, tk, os⟩ _ h1 q
    wp_walk using q1
    refine wpAny_stack_any fun st => wpAny_pure ?_
    split
    · rename_i c _ _ _ _ _
      cases (c == Value.type "enumerate") <;> (wp_walk using q1; exact ⟨_, rfl, h⟩)
    · wp_walk using q1
      exact ⟨_, rfl, h⟩
section
variable {prog : Program} {w : World} {A : Around} {E : Value → Shared → Prop} {s : Shared}
theorem enum_call {v : Value} {o : Obj} {G : Heap → Prop} {Q : Value → Shared → Prop} (B : Begins v o G) (h1 : G s.heap)
    (h : ∀ h', IsEnum h' (s.heap.objs.size + 1) s.heap.objs.size 0 .none → h'.get? s.heap.objs.size = some o → (∀ b u, s.heap.get? b = some u → h'.get? b = some u) → Q (.ref (s.heap.objs.size + 1)) { s with heap := h' }) :
    wpAny (model prog w) A (call (.type "enumerate") [v]) Q E s := by
  refine callType_new F.called_enumerate (by decide) (F.typeCall_enumerate_1 _) (F.newCall_enumerate_1 _) (fun obj => F.args_object_init_2 obj _) F.entry_enumerate_new (enum_meets B) ⟨h1, ?_⟩
  have hz : (s.heap.push o).objs.size = s.heap.objs.size + 1 := Heap.size_push ..
  have he := Heap.get?_push_size (s.heap.push o) (o := enm s.heap.objs.size) rfl
  show _ ∧ _
  rw [hz] at he ⊢
  exact ⟨⟨_, he, rfl⟩, h _ he (Heap.get?_push_of_some _ (Heap.get?_push_size _ B.free)) fun b u x => Heap.get?_push_of_some _ (Heap.get?_push_of_some _ x)⟩
end
/-- the tuple at a, each item in a new pair with its number -/
def IteT (K : PySem.W.Frag) (a : Addr) : It :=
  ⟨fun i H => ∃ (xs : List V) (x : V), SqT K H a xs ∧ xs[i]? = some x, fun i H v H' => ∃ T x, v = .ref T ∧ H T = none ∧ H' = upd H T (.tup [.int (i : Nat), x]) ∧ ∀ xs, SqT K H a xs → xs[i]? = some x, fun i H => ∃ xs : List V, SqT K H a xs ∧ xs.length = i⟩
theorem turn_enumT {P : Program} {w : World} {K : PySem.W.Frag} {elts : List Expr} {kk : Nat} {tpos : Pos} (a e it : Addr) :
    Turn P w K (.Tuple elts kk tpos) (IteT K a) [e, it] e (fun i h => (∃ old, IsEnum h e it ((i : Nat) : Int) old) ∧ h.IsTupleIter it a i ∧ e ≠ it ∧ a ≠ e ∧ a ≠ it) where
  mem := by simp
  obj := fun i h st b hb => by
    obtain ⟨⟨old, he⟩, ⟨o, ho, hc, hd⟩, _⟩ := st
    have e' : b = e ∨ b = it := by simpa using hb
    rcases e' with z | z
    · rw [z]; exact ⟨_, he, fun v q => nomatch q⟩
    · rw [z]; exact ⟨o, ho, fun v q => by rw [hd] at q; cases q⟩
  keep := fun i h h' st k => let ⟨⟨old, he⟩, hi, hne⟩ := st; ⟨⟨old, k e (by simp) _ he⟩, hi.at fun o q => k it (by simp) o q, hne⟩
  item := by
    intro X hP hw hK hc i pins s σ H E I hf st hg
    subst hP hw hK
    obtain ⟨⟨old, he⟩, hit, hne, hae, hai⟩ := st
    obtain ⟨xs, x, hq, hx⟩ := hg
    obtain ⟨its, rv, p, hz⟩ := I.tuple hq
    obtain ⟨u, hu, ru⟩ := rv.get hx
    have hel : e < s.heap.objs.size := Heap.lt_size he
    have hil : it < s.heap.objs.size := by obtain ⟨_, q, _⟩ := hit; exact Heap.lt_size q
    have hh := I.ok.hd hc
    have D := Draws.tuple (prog := X.prog) (w := X.w) (A := X.A.in1) hh it a hai its.toArray
    refine wpAny_pyNext_enum_itemD D he ⟨hit, p⟩ (by rw [List.size_toArray]; exact (List.getElem?_eq_some_iff.mp hu).1) hne (by simp only [List.mem_cons, List.not_mem_nil, or_false, not_or]; exact ⟨hne, Ne.symm hae⟩) fun x' h' tk hx' ho st' hT hsz hk => ?_
    obtain ⟨hit', _⟩ := st'
    have ex : x' = u := by
      have : its.toArray[i]? = some u := by simpa using hu
      rw [this] at hx'
      exact (Option.some.inj hx').symm
    subst ex
    refine ⟨_, rfl, wpAny_letOwnedTupleGo_enum (s := { s with heap := h', toks := tk + 1 }) ho fun h'' he' sb => ?_⟩
    have hT2 : h''.get? s.heap.objs.size = some { cls := .type "tuple", data := .seq #[.int i tk, x'] } := (sb.2 _ (Nat.ne_of_gt hel)).trans hT
    have new : ObjOk X.prog X.w (upd H s.heap.objs.size (.tup [.int (i : Nat), x])) h'' s.heap.objs.size (.tup [.int (i : Nat), x]) :=
      ⟨by show 2 ≤ sizeLine; decide, [.int i tk, x'], .cons ⟨_, rfl⟩ (.cons ru .nil), ⟨_, hT2, rfl, _, rfl⟩⟩
    have I1 : Inv X pins σ (upd H s.heap.objs.size (.tup [.int (i : Nat), x])) { s with heap := h'', toks := tk + 1 } :=
      I.turnedNew (ch := [e, it]) (fun b ob hb q => (sb.2 b (fun z => hb (by simp [z]))).trans (hk b ob (fun z => hb (by simp [z])) (fun z => hb (by simp [z])) q)) hf (Nat.le_refl _) new
    refine ⟨.ref s.heap.objs.size, _, I1, rfl, ⟨_, x, rfl, I.hok.fresh (Nat.le_refl _), rfl, fun ys hy => by rw [I.tuple_inj hy hq]; exact hx⟩, ⟨⟨x', ?_⟩, hit'.at fun o q => (sb.2 it (Ne.symm hne)).trans q, hne, hae, hai⟩, fun b hb => ?_⟩
    · have e1 : ((i + 1 : Nat) : Int) = (i : Int) + 1 := by omega
      rw [e1]; exact he'
    · have hb' : b < s.heap.objs.size := by
        have e' : b = e ∨ b = it := by simpa using hb
        rcases e' with z | z
        · rw [z]; exact hel
        · rw [z]; exact hil
      rw [upd_ne (Nat.ne_of_lt hb')]
      exact (hf b hb).1
  done := by
    intro X hP hw hK hc i pins s σ H E I hf st hg
    subst hP hw hK
    obtain ⟨⟨old, he⟩, hit, hne, hae, hai⟩ := st
    obtain ⟨xs, hq, hx⟩ := hg
    obtain ⟨its, rv, p, hz⟩ := I.tuple hq
    obtain ⟨f0, f1, f2, f3, f4, f5⟩ := hf it (by simp)
    have hl := rv.length
    have hh := I.ok.hd hc
    have D := Draws.tuple (prog := X.prog) (w := X.w) (A := X.A.in1) hh it a hai its.toArray
    have ei : its.toArray.size = i := by rw [List.size_toArray, ← hl, hx]
    exact wpAny_pyNext_enum_endD D he (by rw [ei]; exact ⟨hit, p⟩) fun h' eb => ⟨rfl, I.turned (t' := s.toks) (fun b o hb q => eb b o hb q) f0 f1 f3 f4 f5⟩
  self := fun A i s Q E st h => let ⟨⟨_, he⟩, _⟩ := st; wpAny_pyIter_enum he h
def iEnumT (K : PySem.W.Frag) (ta : TA) : TI := fun σ H R => ta σ H fun vs H1 => ∃ a xs, vs = [.ref a] ∧ SqT K H1 a xs ∧ R (IteT K a) H1
theorem pi_enumT {X : Cx} {e : Expr} {ta : TA} {p pos tpos : Pos} {elts : List Expr} {kk : Nat} (hg : Gl X "enumerate") (hm : X.mg "enumerate" = none) (ha : PA X [e] ta) (hs : starEach [e] X.env = [(false, eval e X.env)] := by rfl) :
    PI X (.Tuple elts kk tpos) (.Call (.Name "enumerate" p) [e] [] pos) (iEnumT X.K ta) := by
  refine ⟨fun pins s σ H R I h => ?_⟩
  refine Call_ (ld_blt I hg hm boot_enumerate (PyProof.Rows.callWith_type1 (thn (ha.run pos pins s σ H _ I h) fun us s1 ⟨vs, H1, I1, r1, q1⟩ => ?_) hs rfl))
  obtain ⟨a, xs, ex, hq, q⟩ := q1
  subst ex
  cases r1 with
  | cons r rr =>
    cases rr
    cases r
    obtain ⟨its, rv, p', hz⟩ := I1.tuple hq
    obtain ⟨o', ho', _⟩ := id p'
    have la := Heap.lt_size ho'
    refine enum_call (begins_tuple a its.toArray) p' fun h' he hit hk => wpAny_pyIter_enum he ?_
    have I2 : Inv X pins σ H1 { s1 with heap := h' } := I1.kept (t' := s1.toks) hk
    refine ⟨s1.heap.objs.size + 1, [s1.heap.objs.size + 1, s1.heap.objs.size], _, _, H1, rfl, I2, turn_enumT a (s1.heap.objs.size + 1) s1.heap.objs.size, ⟨⟨.none, he⟩, ⟨_, hit, rfl, rfl⟩, Nat.succ_ne_self _, Nat.ne_of_lt (Nat.lt_succ_of_lt la), Nat.ne_of_lt la⟩, fun b hb => ?_, q⟩
    have e' : b = s1.heap.objs.size + 1 ∨ b = s1.heap.objs.size := by simpa using hb
    have hle : s1.heap.objs.size ≤ b := by
      rcases e' with z | z
      · rw [z]; exact Nat.le_add_right _ _
      · rw [z]; exact Nat.le_refl _
    exact I1.fpOk hle (I1.hok.fresh hle)
theorem walk_enumT {K : PySem.W.Frag} {a : Addr} {xs : List V} : Walk (IteT K a) xs.length (fun H => SqT K H a xs) (YPair (fun i => some (.int (i : Nat))) (fun i => xs[i]?)) := by
  refine ⟨fun i _ hi q => ⟨xs, xs[i], q, by simp [hi]⟩, fun _ q => ⟨xs, q, rfl⟩, fun i H v H' _ q y => ?_⟩
  obtain ⟨T, x, h1, h2, h3, h4⟩ := y
  exact ⟨T, .int (i : Nat), x, h1, h2, h3, rfl, h4 xs q⟩
end Pf
end

section
namespace Pf
open PySem PySem.Spec PyProof.Rows L2
variable {P : Program} {w : World} {K : PySem.W.Frag} {mg : Str → Option Value} {base : Heap} {a : Ad}
def FmL (sp hs : Int → Int → Int → Rat) : Option Rat → Fail
  | none => fun a p b => decide (sp a p b < 0)
  | some t => Gu sp hs t
theorem SH.numS {H : Hp} {sd hd : Addr} {n : Nat} {sp hs : Int → Int → Int → Rat} (h : SH K H sd hd n sp hs) : Num K H sd n sp := by
  obtain ⟨kvs, h1, h2⟩ := h.s
  exact ⟨kvs, .inl h1, h2⟩
def spRow (K : PySem.W.Frag) : Sp := fun vs H Q _ => ∃ (n : Nat) (sd hd : Addr) (sp hs : Int → Int → Int → Rat) (mv v : V) (m : Option Rat) (s : List Int), vs = [.int (n : Int), .ref sd, .ref hd, mv, v] ∧ n ≤ 12 ∧ SH K H sd hd n sp hs ∧ OV K H mv m ∧ (∀ t, m = some t → Sz 3910 t) ∧ LotV K H v s ∧ Lot (n : Int) s ∧
  ∀ H' l, Same H H' → H l = none → H' l = some (.lst ((settle (FmL sp hs m) n s).1.map V.int)) → Q (.ref l) H'
abbrev N_law_row : List Str := ["_law_many", "_law_spares_here", "_law_shares", "_law_much", "_law_stood", "_law_row_here", "_law_rests", "_law_some", "_law_k", "_law_prop", "_law_key", "_law_rest"]
theorem sc_law_row : FnScope N_law_row ["_law_many", "_law_spares_here", "_law_shares", "_law_much", "_law_stood"] (defScope s_law_row) := ⟨rfl, rfl, rfl, by decide +kernel, rfl, by decide +kernel, by decide +kernel⟩
theorem ok_lrow (G : Gd K mg "_law_row" s_law_row) (B : Bt mg) (D_law_minus : Df P w K mg base "_law_minus" ["_law_one", "_law_other"] 2 (sp2 K (· - ·) any2)) (D_law_by : Df P w K mg base "_law_by" ["_law_one", "_law_other"] 2 (sp2 K (· * ·) any2)) :
    Df P w K mg base "_law_row" ["_law_many", "_law_spares_here", "_law_shares", "_law_much", "_law_stood"] 3 (spRow K) := by
  refine df_mk G sc_law_row (fun vs H Q E h => by obtain ⟨_, _, _, _, _, _, _, _, _, rfl, _⟩ := h; rfl) (fun _ _ _ _ _ _ us hl => match us, hl with | [_, _, _, _, _], _ => rfl) (fun f cdv A' outer sh H vs Q E hr h => ?_)
  obtain ⟨n, sd, hd, sp, hs, mv, v, m, s, rfl, n12, S, om, zm, hv, lt, k⟩ := h
  have hu := hu_of hr
  refine ⟨_, (pss_cons (ps_set (i := 5) sc_law_row.nd rfl (by first | exact Or.inl rfl | exact Or.inr rfl) (pe_lst pa_nil))
    (pss_one (ps_while PassesOwn.never (pt_val pe_bl)
    (pss_cons (ps_set (i := 6) sc_law_row.nd rfl (by first | exact Or.inl rfl | exact Or.inr rfl) (pe_op op_cat (pe_op op_cat (pe_lst (pa_cons (pe_un un_neg pe_int) pa_nil)) (pe_callTy call_list_of (by rfl) B.list_ (by decide +kernel) (pa_cons (pv 4) pa_nil))) (pe_lst (pa_cons (pv 0) pa_nil))))
      (pss_cons (ps_set (i := 7) sc_law_row.nd rfl (by first | exact Or.inl rfl | exact Or.inr rfl) (pe_lst pa_nil))
      (pss_cons (ps_for PassesOwn.never rfl (pi_enumT (by rfl) B.enumerate (pa_cons (pv 4) pa_nil)) (pg_tup (by rfl) (pgs_cons (pg_name (i := 8) sc_law_row.nd rfl (by first | exact Or.inl rfl | exact Or.inr rfl)) (pgs_cons (pg_name (i := 9) sc_law_row.nd rfl (by first | exact Or.inl rfl | exact Or.inr rfl)) pgs_nil)))
      (pss_cons (ps_set (i := 10) sc_law_row.nd rfl (by first | exact Or.inl rfl | exact Or.inr rfl) (pe_tup (pa_cons (pe_ix (r := rIxL K) ix_list (pv 6) (pv 8) (fun _ _ => rfl)) (pa_cons (pv 9) (pa_cons (pe_ix (r := rIxL K) ix_list (pv 6) (pe_op op_add (pv 8) pe_int) (fun _ _ => rfl)) pa_nil)))))
        (pss_cons (ps_set (i := 11) sc_law_row.nd rfl (by first | exact Or.inl rfl | exact Or.inr rfl) (pcall D_law_minus hr (by decide) (by rfl) (pa_cons (pe_dget hu (pv 1) (pv 10) (fun _ _ => rfl)) (pa_cons (pcall D_law_by hr (by decide) (by rfl) (pa_cons (pe_orT (pv 3) (pe_one (pe_tup (pa_cons pe_int (pa_cons pe_int pa_nil))))) (pa_cons (pe_dget hu (pv 2) (pv 10) (fun _ _ => rfl)) pa_nil))) pa_nil))))
        (pss_one (ps_if (PW.pt (pw_or (pt_cmpR op_lt (pe_ix (r := rIxT K) ix_tup (pv 11) pe_int (fun _ _ => rfl)) pe_int (nomark _)) (pw_or1 (PW.pt (pw_and (pt_cmpR op_eq (pe_ix (r := rIxT K) ix_tup (pv 11) pe_int (fun _ _ => rfl)) pe_int (nomark _)) (pw_and (pt_cmpR op_notN (pv 3) pe_non (nomark _)) (pw_and1 (pt_cmpR op_gt (pe_ix (r := rIxT K) ix_tup (pe_dget hu (pv 2) (pv 10) (fun _ _ => rfl)) pe_int (fun _ _ => rfl)) pe_int (nomark _)))))))))
        (pss_one (ps_expr (pe_bm PySem.F.plainAttrs_list PySem.F.slot_list_append PySem.F.type_list_append mt_append (pv 7) (pa_cons (pv 9) pa_nil))))
        pss_nil)))))
      (pss_cons (ps_if (pt_cmpR (op_eqD hr.units) (pv 7) (pe_lst pa_nil) (nomark _))
      (pss_one (ps_ret (pv 5)))
      pss_nil)
      (pss_cons (ps_expr (pe_bm PySem.F.plainAttrs_list PySem.F.slot_list_append PySem.F.type_list_append mt_append (pv 5) (pa_cons (pe_ix (r := rIxL K) ix_list (pv 7) pe_int (fun _ _ => rfl)) pa_nil)))
      (pss_one (ps_set (i := 4) sc_law_row.nd rfl (by first | exact Or.inl rfl | exact Or.inr rfl) (pe_callTy call_tuple_of (by rfl) B.tuple (by decide +kernel) (pa_cons (pe_lc (own := [("_law_prop", 9)]) (g := gName 9) rfl sc_law_row.nd (pi_tup (pv 4)) (blkOk_by (N := N_law_row) (sc := defScope s_law_row) (by decide +kernel)) (fun _ _ _ _ _ => (pg_name (i := 9) sc_law_row.nd rfl (by first | exact Or.inl rfl | exact Or.inr rfl))) (fun _ _ _ _ _ => pts_one (pt_cmpR op_ne (pv 9) (pe_ix (r := rIxL K) ix_list (pv 7) pe_int (fun _ _ => rfl)) (nomark _))) (fun _ _ _ _ _ => (pv 9))) pa_nil)))))))))))), ?_⟩
  refine ⟨by decide, fun R hR => ?_⟩
  have s1 := same_new (o := .lst []) hR
  have e1 : (upd H R (.lst [])) R = some (.lst []) := upd_same
  generalize upd H R (.lst []) = H1 at s1 e1
  refine ⟨fun μ σ H' => ∃ v' s' row x6 x7 x8 x9 x10 x11, μ = s'.length ∧ σ = [some (.int (n : Int)), some (.ref sd), some (.ref hd), some mv, some v', some (.ref R), x6, x7, x8, x9, x10, x11] ∧ Same H H' ∧ LotV K H' v' s' ∧ Lot (n : Int) s' ∧ H' R = some (.lst (row.map V.int)) ∧ row.length + s'.length ≤ 12 ∧
    (settle (FmL sp hs m) n s).1 = row ++ (settle (FmL sp hs m) n s').1, ⟨_, v, s, [], _, _, _, _, _, _, rfl, rfl, s1, hv.same s1, lt, e1, by have := lot12 lt; show 0 + s.length ≤ 12; omega, rfl⟩, fun μ σ H' I => ?_⟩
  obtain ⟨v', s', row, x6, x7, x8, x9, x10, x11, rfl, rfl, sH, ⟨t, rfl, ht⟩, lt', eR, len, es⟩ := I
  have l12 := lot12 lt'
  have two : 1 ≤ sizeLine := by decide
  refine ⟨true, rfl, iteT ⟨_, fun _ _ z => z, ?_⟩⟩
  -- the rests
  refine ⟨_, rfl, two, fun A1 hA1 => ?_⟩
  have g1 := same_new (o := .lst [V.int (-1)]) hA1
  have eA1 : (upd H' A1 (.lst [V.int (-1)])) A1 = some (.lst [V.int (-1)]) := upd_same
  refine ⟨_, rfl, t, _, rfl, .inr (sqt_same g1 ht), fun A2 hA2 => ?_⟩
  have g2 := same_new (o := .lst (s'.map V.int)) hA2
  refine ⟨A1, A2, _, _, rfl, rfl, g2 _ _ eA1, upd_same, small (by simp; omega), fun B1 hB1 => ?_⟩
  have g3 := (g1.trans g2).trans (same_new (o := .lst ([V.int (-1)] ++ s'.map V.int)) hB1)
  have eB1 : (upd (upd (upd H' A1 (.lst [V.int (-1)])) A2 (.lst (s'.map V.int))) B1 (.lst ([V.int (-1)] ++ s'.map V.int))) B1 = some (.lst ([V.int (-1)] ++ s'.map V.int)) := upd_same
  generalize upd (upd (upd H' A1 (.lst [V.int (-1)])) A2 (.lst (s'.map V.int))) B1 (.lst ([V.int (-1)] ++ s'.map V.int)) = H3 at g3 eB1
  refine ⟨_, rfl, two, fun C1 hC1 => ?_⟩
  have g4 := same_new (o := .lst [V.int (n : Int)]) hC1
  refine ⟨B1, C1, _, _, rfl, rfl, g4 _ _ eB1, upd_same, small (by simp; omega), fun Rs hRs => ?_⟩
  have g5 := (g3.trans g4).trans (same_new (o := .lst ([V.int (-1)] ++ s'.map V.int ++ [V.int (n : Int)])) hRs)
  have eRs : (upd (upd H3 C1 (.lst [V.int (n : Int)])) Rs (.lst ([V.int (-1)] ++ s'.map V.int ++ [V.int (n : Int)]))) Rs = some (.lst (((-1 : Int) :: (s' ++ [(n : Int)])).map V.int)) := by rw [upd_same]; simp
  generalize upd (upd H3 C1 (.lst [V.int (n : Int)])) Rs (.lst ([V.int (-1)] ++ s'.map V.int ++ [V.int (n : Int)])) = H4 at g5 eRs
  refine ⟨by decide, fun L hL => ?_⟩
  have g6 := g5.trans (same_new (o := .lst []) hL)
  have eL0 : (upd H4 L (.lst [])) L = some (.lst []) := upd_same
  have eRs6 := same_new (o := .lst []) hL _ _ eRs
  have L0 : H' L = none := g5.free hL
  have eR6 := g6 _ _ eR
  generalize upd H4 L (.lst []) = H5 at g6 eL0 eRs6 eR6
  refine ⟨_, rfl, t, _, rfl, sqt_same g6 ht, ?_⟩
  have szm : Sz 3910 (m.getD 0) := by
    cases m with
    | none => exact sz_zero.mono (by decide)
    | some u => exact zm u rfl
  -- much or (0, 1)
  have or_ : ∀ (σ' : L2.St) (H6 : Hp), σ'[3]? = some (some mv) → OV K H6 mv m → ∀ Q' : VK, (∀ H7 v7, Same H6 H7 → Fr K H7 v7 (m.getD 0) → Q' v7 H7) → tOrT K (tVar 3) (tTup (tCons (tC (.int 0)) (tCons (tC (.int 1)) tNil))) σ' H6 Q' := fun σ' H6 h3 om' Q' k' => by
    refine ⟨_, h3, ?_⟩
    cases m with
    | none =>
      have e : mv = V.non := om'
      subst e
      exact ⟨false, rfl, iteF ⟨by show 2 ≤ sizeLine; decide, fun t0 h0 => k' _ _ (same_new h0) ⟨t0, rfl, SqT.of upd_same⟩⟩⟩
    | some u =>
      obtain ⟨pm, rfl, hpm⟩ := id om'
      exact ⟨true, .inr (.inl ⟨_, hpm, rfl⟩), iteT (k' _ _ (Same.refl _) om')⟩
  refine for_it (walk_enumT (K := K) (a := t) (xs := s'.map V.int)) (fun i σ H'' => ∃ x8 x9 x10 x11, σ = [some (.int (n : Int)), some (.ref sd), some (.ref hd), some mv, some (.ref t), some (.ref R), some (.ref Rs), some (.ref L), x8, x9, x10, x11] ∧ Same H' H'' ∧ H'' Rs = some (.lst (((-1 : Int) :: (s' ++ [(n : Int)])).map V.int)) ∧
    H'' L = some (.lst (lotTs (FmL sp hs m) n ((sides (-1) s' n).take i)))) ⟨_, _, _, _, rfl, g6, eRs6, eL0⟩ (fun i σ H'' _ I => by obtain ⟨_, _, _, _, _, I, _⟩ := I; exact sqt_same I ht) (fun i y σ H'' H6 hi I hy => ?_) (fun σ H'' I => ?_)
  · obtain ⟨x8, x9, x10, x11, rfl, s6, eRs', eL⟩ := I
    obtain ⟨T, u, z, rfl, hT, rfl, hu', hz⟩ := hy
    cases hu'
    have hz : (s'.map V.int)[i]? = some z := hz
    rw [List.length_map] at hi
    obtain ⟨⟨q1, q2, q3⟩, hq, p1, p2, p3⟩ := sides_get (r := (n : Int)) (l := -1) hi
    have k3 := key_of_sides lt' (List.mem_of_getElem? hq)
    have ez : z = V.int q2 := by
      have p2' : (s' ++ [(n : Int)])[i]? = some q2 := p2
      rw [List.getElem?_append_left hi] at p2'
      rw [List.getElem?_map, p2'] at hz
      exact (Option.some.inj hz).symm
    subst ez
    have sT := same_new (o := .tup [V.int (i : Nat), V.int q2]) hT
    have zz := lotTs_snoc (F := FmL sp hs m) (n := n) hq
    have zl : (lotTs (FmL sp hs m) n ((sides (-1) s' n).take i)).length ≤ 12 := by
      refine Nat.le_trans lotTs_len ?_
      rw [List.length_take, sides_length]
      omega
    refine ⟨T, _, rfl, SqT.of upd_same, rfl, _, _, rfl, _, _, rfl, rfl, ?_⟩
    have at_ : ∀ (j : Nat) (x : Int), ((-1 : Int) :: (s' ++ [(n : Int)]))[j]? = some x → (((-1 : Int) :: (s' ++ [(n : Int)])).map V.int)[j]? = some (V.int x) := fun j x hx => by rw [List.getElem?_map, hx]; rfl
    have eRs6 := sT _ _ eRs'
    have eL6 := sT _ _ eL
    have s67 := s6.trans sT
    generalize upd H'' T (.tup [V.int (i : Nat), V.int q2]) = H6 at eRs6 eL6 s67
    refine ⟨_, rfl, _, rfl, Rs, _, _, _, rfl, rfl, SqL.of eRs6, at_of (j := i) rfl (at_ _ _ p1), _, rfl, _, rfl, _, rfl, _, _, rfl, rfl, Rs, _, _, _, rfl, rfl, SqL.of eRs6, at_of (j := i + 2) (by omega) (at_ _ _ p3), by show 3 ≤ sizeLine; decide, fun KT hKT => ?_⟩
    have sK := same_new (o := .tup [V.int q1, V.int q2, V.int q3]) hKT
    have eK : (upd H6 KT (.tup [V.int q1, V.int q2, V.int q3])) KT = some (.tup [V.int q1, V.int q2, V.int q3]) := upd_same
    have eL7 := sK _ _ eL6
    have eRs7 := sK _ _ eRs6
    have s7 := s67.trans sK
    generalize upd H6 KT (.tup [V.int q1, V.int q2, V.int q3]) = H7 at eK eL7 eRs7 s7
    have sH7 := sH.trans s7
    have S7 := S.same sH7
    obtain ⟨v1, hv1, f1⟩ := S7.numS.get k3 eK
    refine ⟨_, rfl, _, rfl, sd, v1, rfl, hv1, ?_⟩
    refine or_ _ H7 rfl (om.keep (Same.keep sH7)) _ fun H8 v8 s8 f8 => ?_
    have S8 := S7.same s8
    have eK8 := s8 _ _ eK
    obtain ⟨v2, hv2, f2⟩ := S8.h.get k3 eK8
    have zh := S.zh _ _ _ k3
    have zs := S.zs _ _ _ k3
    refine ⟨_, rfl, _, rfl, hd, v2, rfl, hv2, v8, v2, m.getD 0, _, rfl, f8, f2, ⟨_, _, szm, zh, by decide⟩, trivial, fun H9 bv s9 fb => ?_⟩
    have zb := szm.mul zh
    refine ⟨v1, bv, _, _, rfl, (f1.same s8).same s9, fb, ⟨_, _, zs, zb, by decide⟩, trivial, fun Ha rv sa fr => ?_⟩
    have s8a := (s8.trans s9).trans sa
    have fr : Fr K Ha rv (sp q1 q2 q3 - m.getD 0 * hs q1 q2 q3) := fr
    obtain ⟨pr, rfl, hpr⟩ := id fr
    have eLa := s8a _ _ eL7
    have eRsa := s8a _ _ eRs7
    have sA := s7.trans s8a
    obtain ⟨pv2, rfl, hpv2⟩ := id (f2.same (s9.trans sa))
    have Sa := S7.same s8a
    have rdA : DGet Ha hd (.ref KT) (some (.ref pv2)) := by
      rcases hv2 with ⟨kv, kx, r1, r2, r3⟩ | ⟨kv, kx, b, r1, r2, r3, r4⟩
      · exact .inl ⟨kv, kx, rd_same (s9.trans sa) r1, r2, r3⟩
      · exact .inr ⟨kv, kx, b, rd_same (s9.trans sa) r1, r2, (s9.trans sa) _ _ r3, r4⟩
    have nn := S.nums.nn _ _ _ k3
    have yes : FmL sp hs m q1 q2 q3 = true → (upd Ha L (.lst (lotTs (FmL sp hs m) n ((sides (-1) s' n).take i) ++ [V.int q2]))) Rs = some (.lst (((-1 : Int) :: (s' ++ [(n : Int)])).map V.int)) ∧ (upd Ha L (.lst (lotTs (FmL sp hs m) n ((sides (-1) s' n).take i) ++ [V.int q2]))) L = some (.lst (lotTs (FmL sp hs m) n ((sides (-1) s' n).take (i + 1)))) := fun c => by
      have ne : Rs ≠ L := by rintro rfl; rw [eRs] at hL; cases hL
      exact ⟨by rw [upd_ne ne]; exact eRsa, by rw [upd_same, zz, if_pos c]⟩
    have no : FmL sp hs m q1 q2 q3 ≠ true → Ha L = some (.lst (lotTs (FmL sp hs m) n ((sides (-1) s' n).take (i + 1)))) := fun c => by rw [eLa, zz, if_neg c]
    have zl6 : (lotTs (FmL sp hs m) n ((sides (-1) s' n).take i)).length < sizeLine := small_lt (by omega)
    refine ⟨_, rfl, _, _, _, _, rfl, rfl, hpr, rfl, _, _, rfl, rfl, _, rfl, ite2 (fun c1 => ?_) (fun c1 => ?_)⟩
    · have c1 := num_neg.mp (of_decide_eq_true c1)
      have g : FmL sp hs m q1 q2 q3 = true := by
        cases m with
        | none => exact decide_eq_true (by have c1 : sp q1 q2 q3 - 0 * hs q1 q2 q3 < 0 := c1; grind)
        | some u => exact decide_eq_true (.inl c1)
      obtain ⟨y1, y2⟩ := yes g
      exact iteT ⟨_, rfl, (.inl ⟨rfl, _, SqL.of eLa⟩), _, rfl, L, _, _, rfl, rfl, eLa, zl6, _, _, _, _, rfl, same_mut sA L0, y1, y2⟩
    · have c1 : ¬ (sp q1 q2 q3 - m.getD 0 * hs q1 q2 q3 < 0) := fun z => c1 (decide_eq_true (num_neg.mpr z))
      refine ⟨_, rfl, _, _, _, _, rfl, rfl, hpr, rfl, rfl, _, rfl, ite2 (fun c2 => ?_) (fun c2 => ?_)⟩
      · have c2 : sp q1 q2 q3 - m.getD 0 * hs q1 q2 q3 = 0 := num_zero.mp (V.int.inj (of_decide_eq_true c2))
        refine ⟨_, rfl, rfl, _, rfl, ?_⟩
        cases m with
        | none =>
          have e : mv = V.non := om
          subst e
          refine iteF (iteF ⟨_, _, _, _, rfl, sA, eRsa, no fun g => ?_⟩)
          have g := of_decide_eq_true g
          have c1 : ¬ (sp q1 q2 q3 - 0 * hs q1 q2 q3 < 0) := c1
          exact c1 (by grind)
        | some u =>
          obtain ⟨pm, rfl, _⟩ := id om
          refine iteT ⟨_, rfl, _, rfl, hd, _, rfl, rdA, _, _, _, _, rfl, rfl, hpv2, rfl, _, _, rfl, rfl, _, rfl, ?_⟩
          refine ite2 (fun c3 => ?_) (fun c3 => ?_)
          · have c3 := num_pos_iff.mp (of_decide_eq_true c3)
            have g : FmL sp hs (some u) q1 q2 q3 = true := decide_eq_true (.inr ⟨c2, by grind⟩)
            obtain ⟨y1, y2⟩ := yes g
            exact ⟨_, rfl, (.inl ⟨rfl, _, SqL.of eLa⟩), _, rfl, L, _, _, rfl, rfl, eLa, zl6, _, _, _, _, rfl, same_mut sA L0, y1, y2⟩
          · refine ⟨_, _, _, _, rfl, sA, eRsa, no fun g => ?_⟩
            rcases of_decide_eq_true g with g | g
            · exact c1 g
            · exact c3 (decide_eq_true (num_pos_iff.mpr (by have := g.2; grind)))
      · refine iteF ⟨_, _, _, _, rfl, sA, eRsa, no fun g => ?_⟩
        cases m with
        | none =>
          have g := of_decide_eq_true g
          have c1 : ¬ (sp q1 q2 q3 - 0 * hs q1 q2 q3 < 0) := c1
          exact c1 (by grind)
        | some u =>
          rcases of_decide_eq_true g with g | g
          · exact c1 g
          · exact c2 (decide_eq_true (congrArg V.int (num_zero.mpr g.1)))
  · obtain ⟨x8, x9, x10, x11, rfl, s6, eRs', eL⟩ := I
    rw [List.length_map] at eL
    rw [show (sides (-1) s' n).take s'.length = sides (-1) s' n from List.take_of_length_le (by rw [sides_length]; exact Nat.le_refl _)] at eL
    have eL : H'' L = some (.lst ((bad (FmL sp hs m) n s').map V.int)) := eL
    have sHH := sH.trans s6
    have eR7 := s6 _ _ eR
    have ht7 := sqt_same s6 ht
    have neRL : R ≠ L := by rintro rfl; rw [eR] at L0; cases L0
    refine ⟨_, rfl, by decide, fun q hq => eq_nil (s := bad (FmL sp hs m) n s') (SqL.of ?_) (SqL.of upd_same) ⟨_, rfl, ?_⟩⟩
    · rw [upd_ne (ne_of_none eL hq)]; exact eL
    have sq := same_new (o := .lst []) hq
    have eL8 := sq _ _ eL
    have eR8 := sq _ _ eR7
    have ht8 := sqt_same sq ht7
    have s8 := sHH.trans sq
    have s68 := s6.trans sq
    generalize upd H'' q (.lst []) = H8 at sq eL8 eR8 ht8 s8 s68
    cases hb : bad (FmL sp hs m) n s' with
    | nil =>
      rw [settle_nil hb, List.append_nil] at es
      exact iteT ⟨_, rfl, k H8 R s8 hR (by rw [es]; exact eR8)⟩
    | cons p rest =>
      have hp : p ∈ s' := bad_sub (F := FmL sp hs m) (n := n) (by rw [hb]; exact List.mem_cons_self)
      have wl := wo_lt hp
      rw [hb] at eL8
      refine iteF ⟨_, rfl, (.inl ⟨rfl, _, SqL.of eR8⟩), _, rfl, L, _, 0, _, rfl, rfl, SqL.of eL8, atI_nat (j := 0) (v := V.int p) rfl, R, _, _, rfl, rfl, eR8, small_lt (by rw [List.length_map]; omega), ?_⟩
      have kp : Keep H8 (upd H8 R (.lst (row.map V.int ++ [V.int p]))) := Keep.upd (by rw [eR8]; exact trivial)
      have eL9 : (upd H8 R (.lst (row.map V.int ++ [V.int p]))) L = some (.lst ((p :: rest).map V.int)) := by rw [upd_ne neRL.symm]; exact eL8
      have eR9 : (upd H8 R (.lst (row.map V.int ++ [V.int p]))) R = some (.lst ((row ++ [p]).map V.int)) := by rw [upd_same, List.map_append]; rfl
      have ht9 := sqt_keep kp ht8
      have s9 := same_mut (o := .lst (row.map V.int ++ [V.int p])) s8 hR
      generalize upd H8 R (.lst (row.map V.int ++ [V.int p])) = H9 at eL9 eR9 ht9 s9
      refine ⟨_, rfl, _, rfl, ⟨_, ht9⟩, fun D hD => ?_⟩
      refine lc_it (w := walk_tup (K := K) (a := t) (xs := s'.map V.int)) (fun i H' => Same H9 H' ∧ H' D = some (.lst ((wo (s'.take i) p).map V.int))) ⟨same_new hD, upd_same⟩ (fun i H' _ I => sqt_same I.1 ht9) (fun i x Ha Hb hi I hy => ?_) (fun H' I => ?_)
      · obtain ⟨I, eD⟩ := I
        obtain ⟨rfl, hx⟩ := hy
        rw [List.getElem?_map] at hx
        obtain ⟨j, hj, rfl⟩ := Option.map_eq_some_iff.mp hx
        have z := wo_snoc (p := p) hj
        have zl : (wo (s'.take i) p).length ≤ 12 := Nat.le_trans wo_len (by rw [List.length_take]; omega)
        refine ⟨rfl, _, rfl, _, rfl, L, _, 0, _, rfl, rfl, SqL.of (I _ _ eL9), atI_nat (j := 0) (v := V.int p) rfl, rfl, _, rfl, ?_⟩
        have ej : (!decide (V.int j = V.int p)) = (j != p) := by
          rw [dec_int]
          rfl
        rw [ej]
        refine ite2 (fun c => ?_) (fun c => ?_)
        · refine ⟨_, rfl, _, eD, small_lt (by rw [List.length_map]; omega), same_mut I hD, ?_⟩
          rw [upd_same, z, if_pos c, List.map_append]
          rfl
        · refine ⟨I, ?_⟩
          rw [eD, z, if_neg c]
      · obtain ⟨I, eD⟩ := I
        rw [List.length_map, List.take_length] at eD
        refine ⟨D, _, rfl, .inl ⟨SqL.of eD, fun q hq => ?_⟩⟩
        have sq2 := same_new (o := .tup ((wo s' p).map V.int)) hq
        refine ⟨_, wl, .ref q, wo s' p, row ++ [p], _, _, _, _, _, _, rfl, rfl, (s9.trans I).trans sq2, ⟨q, rfl, SqT.of upd_same⟩, lt'.wo p, sq2 _ _ (I _ _ eR9), ?_, ?_⟩
        · rw [List.length_append]; show row.length + 1 + _ ≤ 12; omega
        · rw [es, settle_cons hb, List.append_assoc]; rfl
end Pf
end

section
namespace Pf
open PySem PySem.Spec PyProof.Rows L2
variable {P : Program} {w : World} {K : PySem.W.Frag} {mg : Str → Option Value} {base : Heap} {a : Ad}
theorem nexts_zip : ∀ (ts : List Rat) (t : Rat), nexts (t :: ts) = (t :: ts).zip (ts ++ [(t :: ts).getLast (by simp) + 2])
  | [], t => rfl
  | t' :: r, t => by
    show (t, t') :: nexts (t' :: r) = _
    rw [nexts_zip r t']
    rfl
theorem Pt.same {F : Addr} {H0 H H' : Hp} {r : V} {q : Part} (s : Same H H') (h : Pt K F H0 H r q) : Pt K F H0 H' r q := by
  obtain ⟨t, rl, lv, mv, rfl, h1, h2, h3, h4, h5, h6, h7⟩ := h
  exact ⟨t, rl, lv, mv, rfl, sqt_same s h1, h2, h3, s _ _ h4, h5.same s, h6.keep (Same.keep s), h7⟩
/-- the head of the law's turns -/
theorem turns_head {qs : List Rat} (pw : qs.Pairwise (· < ·)) (h0 : (0 : Rat) ∈ qs) (nn : ∀ q ∈ qs, 0 ≤ q) : ∃ ts, qs = 0 :: ts := by
  cases qs with
  | nil => cases h0
  | cons t ts =>
    obtain ⟨h1, _⟩ := List.pairwise_cons.mp pw
    rcases List.mem_cons.mp h0 with e | h
    · exact ⟨ts, by rw [← e]⟩
    · have := h1 _ h
      have := nn t List.mem_cons_self
      exfalso
      grind
/-- what the law reckons is what the program tells -/
theorem due_told {W : Wd} (o : W.Ok) (x : Rat) {ts : List Rat} (pw : (0 :: ts).Pairwise (· < ·)) (thr : ∀ y, Thr W.n W.sp (W.hs x) y → y ∈ (0 : Rat) :: ts) :
    dueG W.sp (W.hs x) W.n (nexts (0 :: ts)) (settle (FmL W.sp (W.hs x) none) W.n (allP W.n)).1 (settle (Fw W.sp (W.hs x) 0) W.n (allP W.n)).2 = W.told x := by
  have N := o.nums x
  have L := settle_left (wider_Fw N (Rat.le_refl : (0 : Rat) ≤ 0)) (allP W.n) (allP_lot W.n)
  have e := parts_due_from N ts (settle (FmL W.sp (W.hs x) none) W.n (allP W.n)).1 (settle (Fw W.sp (W.hs x) 0) W.n (allP W.n)).2 0 Rat.le_refl pw (fun y hy => by
    rcases List.mem_cons.mp (thr y hy) with z | z
    · exact .inl (by rw [z]; exact Rat.le_refl)
    · exact .inr z) L
  rw [e]
  have c1 : settle (FmL W.sp (W.hs x) none) W.n (allP W.n) = settle W.F0 W.n (allP W.n) := settle_congr (fun a p b _ => by
    show decide (W.st p - W.ld a p b < 0) = decide (W.st p < W.ld a p b)
    apply decide_eq_decide.mpr
    constructor <;> intro h <;> grind) _ (allP_lot W.n)
  have c2 : settle (Fw W.sp (W.hs x) 0) W.n (allP W.n) = settle W.F0 W.n (allP W.n) := settle_congr (fun a p b _ => by
    show decide (W.st p - W.ld a p b < 0 * W.sh a p b x) = decide (W.st p < W.ld a p b)
    apply decide_eq_decide.mpr
    constructor <;> intro h <;> grind) _ (allP_lot W.n)
  rw [c1, c2]
theorem parts_len {sp hs : Int → Int → Int → Rat} {n : Nat} (N : Nums n sp hs) : ∀ (k : Nat) (row s : List Int), s.length ≤ k → Lot (n : Int) s → (parts sp hs n row s).length ≤ s.length + 1
  | k, row, s, hk, hl => by
    cases h : most sp hs n s with
    | none => rw [parts_none h]; show 1 ≤ s.length + 1; omega
    | some u =>
      have lt := settle_len_lt (most_bad N hl h)
      rw [parts_some N hl h]
      cases k with
      | zero => omega
      | succ k =>
        have := parts_len N k (settle (Gu sp hs u) n s).1 (settle (Gu sp hs u) n s).2 (by omega) (settle_lot _ hl)
        show _ + 1 ≤ s.length + 1
        omega
theorem told_len {W : Wd} (o : W.Ok) (x : Rat) : (W.told x).length ≤ 13 := by
  have h := parts_len (o.nums x) _ (settle W.F0 W.n (allP W.n)).1 _ (Nat.le_refl _) (settle_lot (F := W.F0) _ (allP_lot W.n))
  have := lot12 (settle_lot (F := W.F0) _ (allP_lot W.n))
  have := o.n12
  show (parts _ _ _ _ _).length ≤ 13
  omega
theorem Pt.re {F F' : Addr} {H0 H : Hp} {r : V} {q : Part} (hn : H F' = none) (h : Pt K F H0 H r q) : Pt K F' H0 H r q := by
  obtain ⟨t, rl, lv, mv, rfl, h1, h2, h3, h4, h5⟩ := h
  exact ⟨t, rl, lv, mv, rfl, h1, h2, ne_of_none h4 hn, h4, h5⟩
theorem SH.mut {H H' : Hp} {sd hd FL : Addr} {n : Nat} {sp hs : Int → Int → Int → Rat} {xs : List V} (h : SH K H sd hd n sp hs) (keep : ∀ b u, b ≠ FL → H b = some u → H' b = some u) (e : H FL = some (.lst xs)) : SH K H' sd hd n sp hs := by
  have kp : Keep H H' := fun b u q m => keep b u (by rintro rfl; rw [e] at q; cases q; exact m trivial) q
  obtain ⟨kvs, h1, h2⟩ := h.s
  obtain ⟨hk, r1, r2⟩ := h.h
  refine ⟨⟨kvs, keep _ _ (by rintro rfl; rw [e] at h1; cases h1) h1, h2.imp fun _ _ _ _ z => z.keep kp⟩, ⟨hk, ?_, r2.imp fun _ _ _ _ z => z.keep kp⟩, h.nums, h.zs, h.zh⟩
  rcases r1 with r | ⟨o, r⟩
  · exact .inl (keep _ _ (by rintro rfl; rw [e] at r; cases r) r)
  · exact .inr ⟨o, keep _ _ (by rintro rfl; rw [e] at r; cases r) r⟩
theorem sqt_off {H : Hp} {d p : Addr} {od : Obj} {kvs : List (List L2.Key × V)} {u : HO} {xs : List V} (e : H d = some (.frz od (.dT kvs))) (h : SqT K H p xs) : SqT K (upd H d u) p xs := by
  rcases h with (h | ⟨o, h⟩) | h
  · exact .inl (.inl (by rw [upd_ne (by rintro rfl; rw [e] at h; cases h)]; exact h))
  · exact .inl (.inr ⟨o, by rw [upd_ne (by rintro rfl; rw [e] at h; cases h)]; exact h⟩)
  · exact .inr h
theorem Fr.off {H : Hp} {d : Addr} {od : Obj} {kvs : List (List L2.Key × V)} {u : HO} {v : V} {q : Rat} (e : H d = some (.frz od (.dT kvs))) (h : Fr K H v q) : Fr K (upd H d u) v q := by
  obtain ⟨p, rfl, h⟩ := h
  exact ⟨p, rfl, sqt_off e h⟩
def spDue (K : PySem.W.Frag) : Sp := fun vs H Q _ => ∃ (d sd : Addr) (W : Wd) (v : V) (x : Rat) (kvs : List (List L2.Key × V)), vs = [.ref d, .ref sd, v] ∧ WoS H d W ∧ W.Ok ∧ H sd = some (.dT kvs) ∧ Full K (fun l p r v => Fr K H v (W.sp l p r)) W.n kvs ∧ Fr K H v x ∧ Sz 128 x ∧
  ∀ H' l rs, Same H H' → H l = none → H' l = some (.lst rs) → Paired (Pt K l H H') rs (W.told x) → rs.length ≤ 20 → Q (.ref l) H'
abbrev N_law_due : List Str := ["_law_world_here", "_law_spares_here", "_law_spot", "_law_many", "_law_shares", "_law_turns", "_law_key", "_law_stood", "_law_row_here", "_law_found", "_law_here", "_law_there", "_law_behind"]
theorem sc_law_due : FnScope N_law_due ["_law_world_here", "_law_spares_here", "_law_spot"] (defScope s_law_due) := ⟨rfl, rfl, rfl, by decide +kernel, rfl, by decide +kernel, by decide +kernel⟩
theorem ok_ldue (G : Gd K mg "_law_due" s_law_due) (B : Bt mg) (D_law_share : Df P w K mg base "_law_share" ["_law_world_here", "_law_key", "_law_spot"] 2 (spLShare K)) (D_law_part_of : Df P w K mg base "_law_part_of" ["_law_one", "_law_other"] 2 (sp2 K (· / ·) pos2))
    (D_law_rising : Df P w K mg base "_law_rising" ["_law_some"] 2 (spRising K)) (D_law_left : Df P w K mg base "_law_left" ["_law_many", "_law_spares_here", "_law_shares", "_law_much"] 3 (spLeft K)) (D_law_row : Df P w K mg base "_law_row" ["_law_many", "_law_spares_here", "_law_shares", "_law_much", "_law_stood"] 3 (spRow K))
    (D_law_plus : Df P w K mg base "_law_plus" ["_law_one", "_law_other"] 2 (sp2 K (· + ·) any2)) (D_law_amid : Df P w K mg base "_law_amid" ["_law_one", "_law_other"] 3 (spAmid K)) : Df P w K mg base "_law_due" ["_law_world_here", "_law_spares_here", "_law_spot"] 4 (spDue K) := by
  refine df_mk G sc_law_due (fun vs H Q E h => by obtain ⟨_, _, _, _, _, _, rfl, _⟩ := h; rfl) (fun _ _ _ _ _ _ us hl => match us, hl with | [_, _, _], _ => rfl) (fun f cdv A' outer sh H vs Q E hr h => ?_)
  obtain ⟨d, sd, W, v, x, kvs, rfl, wo, o, esd, fl, fx, zx, k⟩ := h
  have hu := hu_of hr
  have n12 := o.n12
  have N := o.nums x
  refine ⟨_, (pss_cons (ps_set (i := 3) sc_law_due.nd rfl (by first | exact Or.inl rfl | exact Or.inr rfl) (pe_callB call_len_seq (by rfl) B.len (by decide +kernel) (pa_cons (pe_dget hu (pv 0) pe_str (fun _ _ => rfl)) pa_nil)))
    (pss_cons (ps_set (i := 4) sc_law_due.nd rfl (by first | exact Or.inl rfl | exact Or.inr rfl) pe_dnewT)
    (pss_cons (ps_set (i := 5) sc_law_due.nd rfl (by first | exact Or.inl rfl | exact Or.inr rfl) (pe_lst (pa_cons (pe_tup (pa_cons pe_int (pa_cons pe_int pa_nil))) pa_nil)))
    (pss_cons (ps_lock (ps_for PassesOwn.never rfl (pi_keys (pv 1)) (pg_name (i := 6) sc_law_due.nd rfl (by first | exact Or.inl rfl | exact Or.inr rfl))
    (pss_cons (ps_dput hu (pv 4) (pv 6) (pcall D_law_share hr (by decide) (by rfl) (pa_cons (pv 0) (pa_cons (pv 6) (pa_cons (pv 2) pa_nil)))) rfl)
      (pss_one (ps_if (PW.pt (pw_and (pt_cmpR op_gt (pe_ix (r := rIxT K) ix_tup (pe_dget hu (pv 4) (pv 6) (fun _ _ => rfl)) pe_int (fun _ _ => rfl)) pe_int (nomark _)) (pw_and1 (pt_cmpR op_ge (pe_ix (r := rIxT K) ix_tup (pe_dget hu (pv 1) (pv 6) (fun _ _ => rfl)) pe_int (fun _ _ => rfl)) pe_int (nomark _)))))
      (pss_one (ps_expr (pe_bm PySem.F.plainAttrs_list PySem.F.slot_list_append PySem.F.type_list_append mt_append (pv 5) (pa_cons (pcall D_law_part_of hr (by decide) (by rfl) (pa_cons (pe_dget hu (pv 1) (pv 6) (fun _ _ => rfl)) (pa_cons (pe_dget hu (pv 4) (pv 6) (fun _ _ => rfl)) pa_nil))) pa_nil))))
      pss_nil)))))
    (pss_cons (ps_set (i := 5) sc_law_due.nd rfl (by first | exact Or.inl rfl | exact Or.inr rfl) (pcall D_law_rising hr (by decide) (by rfl) (pa_cons (pv 5) pa_nil)))
    (pss_cons (ps_set (i := 7) sc_law_due.nd rfl (by first | exact Or.inl rfl | exact Or.inr rfl) (pcall D_law_left hr (by decide) (by rfl) (pa_cons (pv 3) (pa_cons (pv 1) (pa_cons (pv 4) (pa_cons (pe_tup (pa_cons pe_int (pa_cons pe_int pa_nil))) pa_nil))))))
    (pss_cons (ps_set (i := 8) sc_law_due.nd rfl (by first | exact Or.inl rfl | exact Or.inr rfl) (pcall D_law_row hr (by decide) (by rfl) (pa_cons (pv 3) (pa_cons (pv 1) (pa_cons (pv 4) (pa_cons pe_non (pa_cons (pe_tupRg rfl (by rfl) B.tuple (prg_1 (by rfl) B.range (pv 3))) pa_nil)))))))
    (pss_cons (ps_set (i := 9) sc_law_due.nd rfl (by first | exact Or.inl rfl | exact Or.inr rfl) (pe_lst pa_nil))
    (pss_cons (ps_for PassesOwn.never rfl (RZ.pi_zipA (by rfl) B.zip (pa_cons (pv 5) (pa_cons (pe_op op_cat (pe_slice (r := rSlL K) sl_list (pv 5) (po_some pe_int) po_none) (pe_lst (pa_cons (pcall D_law_plus hr (by decide) (by rfl) (pa_cons (pe_ix (r := rIxL K) ix_list (pv 5) (pe_un un_neg pe_int) (fun _ _ => rfl)) (pa_cons (pe_tup (pa_cons pe_int (pa_cons pe_int pa_nil))) pa_nil))) pa_nil))) pa_nil))) (pg_tup (by rfl) (pgs_cons (pg_name (i := 10) sc_law_due.nd rfl (by first | exact Or.inl rfl | exact Or.inr rfl)) (pgs_cons (pg_name (i := 11) sc_law_due.nd rfl (by first | exact Or.inl rfl | exact Or.inr rfl)) pgs_nil)))
    (pss_cons (ps_set (i := 12) sc_law_due.nd rfl (by first | exact Or.inl rfl | exact Or.inr rfl) (pcall D_law_left hr (by decide) (by rfl) (pa_cons (pv 3) (pa_cons (pv 1) (pa_cons (pv 4) (pa_cons (pcall D_law_amid hr (by decide) (by rfl) (pa_cons (pv 10) (pa_cons (pv 11) pa_nil))) pa_nil))))))
      (pss_one (ps_if (pt_cmpR (op_neD hr.units) (pv 12) (pv 7) (nomark _))
      (pss_cons (ps_expr (pe_bm PySem.F.plainAttrs_list PySem.F.slot_list_append PySem.F.type_list_append mt_append (pv 9) (pa_cons (pe_tup (pa_cons (pv 8) (pa_cons (pv 7) (pa_cons (pv 10) pa_nil)))) pa_nil)))
        (pss_cons (ps_set (i := 8) sc_law_due.nd rfl (by first | exact Or.inl rfl | exact Or.inr rfl) (pcall D_law_row hr (by decide) (by rfl) (pa_cons (pv 3) (pa_cons (pv 1) (pa_cons (pv 4) (pa_cons (pv 10) (pa_cons (pv 7) pa_nil)))))))
        (pss_one (ps_set (i := 7) sc_law_due.nd rfl (by first | exact Or.inl rfl | exact Or.inr rfl) (pv 12)))))
      pss_nil))))
    (pss_one (ps_ret (pe_op op_cat (pv 9) (pe_lst (pa_cons (pe_tup (pa_cons (pv 8) (pa_cons (pv 7) (pa_cons pe_non pa_nil)))) pa_nil)))))))))))))), ?_⟩
  obtain ⟨kw, sl, g1, g2, g3, g4⟩ := wo.ex
  have el : ((((W.ps.map (·.1)).map V.int).length : Nat) : Int) = ((W.n : Nat) : Int) := by simp
  refine ⟨_, rfl, d, _, rfl, getK g1 g3, sl, _, rfl, .inl (SqL.of g4), ?_⟩
  rw [el]
  refine fun SD hSD => ?_
  have s1 := same_new (o := .dT []) hSD
  have e1 : (upd H SD (.dT [])) SD = some (.dT []) := upd_same
  generalize upd H SD (.dT []) = H1 at s1 e1
  have two : 2 ≤ sizeLine := by decide
  refine ⟨two, fun z0 hz0 => ?_⟩
  have s2 := same_new (o := .tup [V.int 0, V.int 1]) hz0
  have f0 : Fr K (upd H1 z0 (.tup [V.int 0, V.int 1])) (.ref z0) 0 := ⟨z0, rfl, SqT.of upd_same⟩
  have e2 := s2 _ _ e1
  have s12 := s1.trans s2
  generalize upd H1 z0 (.tup [V.int 0, V.int 1]) = H2 at s12 f0 e2
  refine ⟨by show 1 ≤ sizeLine; decide, fun TL hTL => ?_⟩
  have s3 := same_new (o := .lst [V.ref z0]) hTL
  have eT3 : (upd H2 TL (.lst [V.ref z0])) TL = some (.lst [V.ref z0]) := upd_same
  have f3 := f0.same s3
  have e3 := s3 _ _ e2
  have s13 := s12.trans s3
  have TL0 := s12.free hTL
  have nTS : TL ≠ SD := by rintro rfl; rw [e2] at hTL; cases hTL
  generalize upd H2 TL (.lst [V.ref z0]) = H3 at s13 eT3 f3 e3
  have es3 := s13 _ _ esd
  have nSd : SD ≠ sd := by rintro rfl; rw [esd] at hSD; cases hSD
  have nTd : TL ≠ sd := by rintro rfl; rw [esd] at TL0; cases TL0
  refine ⟨sd, .dT kvs, es3, trivial, fun od => ?_⟩
  have kpL : Keep H3 (upd H3 sd (.frz od (.dT kvs))) := Keep.upd (by rw [es3]; exact trivial)
  have eSL : (upd H3 sd (.frz od (.dT kvs))) SD = some (.dT []) := by rw [upd_ne nSd]; exact e3
  have eTL : (upd H3 sd (.frz od (.dT kvs))) TL = some (.lst [V.ref z0]) := by rw [upd_ne nTd]; exact eT3
  have esL : (upd H3 sd (.frz od (.dT kvs))) sd = some (.frz od (.dT kvs)) := upd_same
  have othL : ∀ b u, b ≠ sd → H b = some u → (upd H3 sd (.frz od (.dT kvs))) b = some u := fun b u nb e => by rw [upd_ne nb]; exact s13 b u e
  have fxL := (fx.same s13).keep kpL
  have f0L := f3.keep kpL
  have flL := (fl.imp fun _ _ _ _ z => z.same s13).imp fun _ _ _ _ z => z.keep kpL
  generalize upd H3 sd (.frz od (.dT kvs)) = HL at kpL eSL eTL esL othL fxL f0L flL
  have nds : d ≠ sd := by rintro rfl; rw [g1] at esd; cases esd
  have nls : sl ≠ sd := by rintro rfl; rw [g4] at esd; cases esd
  have woL : WoS HL d W := ⟨kw, sl, othL _ _ nds g1, g2, g3, othL _ _ nls g4⟩
  refine ⟨_, rfl, sd, od, rfl, .inr ⟨kvs, esL, ?_⟩⟩
  have kl := fl.tab.small n12
  refine for_it (walk_keysT (d := sd) (o := od) (kvs := kvs)) (fun i σ H' => ∃ x6 sk ys qs, σ = [some (.ref d), some (.ref sd), some v, some (.int (W.n : Int)), some (.ref SD), some (.ref TL), x6, none, none, none, none, none, none] ∧ (∀ b u, b ≠ SD → b ≠ TL → HL b = some u → H' b = some u) ∧ H' SD = some (.dT sk) ∧ Tab W.n (fun l p r u => Fr K H' u (W.hs x l p r)) sk ∧ (∀ e ∈ kvs.take i, ∃ u, valV sk e.1 = some u) ∧
      H' TL = some (.lst ys) ∧ Frs K H' ys qs ∧ (0 : Rat) ∈ qs ∧ (∀ q ∈ qs, 0 ≤ q ∧ Sz 3901 q) ∧ (∀ l p r, kk l p r ∈ (kvs.take i).map (·.1) → 0 < W.hs x l p r → 0 ≤ W.sp l p r → W.sp l p r / W.hs x l p r ∈ qs) ∧ qs.length ≤ i + 1)
    ⟨_, [], [.ref z0], [0], rfl, fun _ _ _ _ e => e, eSL, Tab.nil, (fun e he => by simp at he), eTL, .cons f0L .nil, List.mem_singleton_self _, (fun q hq => by rw [List.mem_singleton.mp hq]; exact ⟨Rat.le_refl, sz_zero.mono (by decide)⟩), (fun l p r hm => by simp at hm), Nat.le_refl _⟩
    (fun i σ H' _ I => by obtain ⟨_, _, _, _, _, I, _⟩ := I; exact I _ _ nSd.symm nTd.symm esL) (fun i y σ Hx H' hi I hy => ?_) (fun σ H' I => ?_)
  · obtain ⟨x6, sk, ys, qs, rfl, keep, eS, tb, fu, eT, fq, q0, qz, qa, ql⟩ := I
    obtain ⟨rfl, kk', v0, kq, hki, rfl, hkq⟩ := hy
    obtain ⟨l, p, r, ek, k3, _⟩ := flL.tab.all _ (List.mem_of_getElem? hki)
    have ek : kk' = kk l p r := ek
    subst ek
    obtain ⟨v1, hv1, f1⟩ := flL.get k3
    have kpH : Keep HL H' := fun b u e m => keep b u (by rintro rfl; rw [eSL] at e; cases e; exact m trivial) (by rintro rfl; rw [eTL] at e; cases e; exact m trivial) e
    have old : ∀ b u, b ≠ sd → H b = some u → H' b = some u := fun b u nb e => keep b u (ne_of_none e hSD) (ne_of_none e TL0) (othL b u nb e)
    have zs := o.sz_sp k3
    have zh := o.sz_sh k3 zx
    have nn := N.nn _ _ _ k3
    have nqS : kq ≠ SD := by rintro rfl; rw [eS] at hkq; cases hkq
    have nqT : kq ≠ TL := by rintro rfl; rw [eT] at hkq; cases hkq
    refine ⟨_, rfl, _, rfl, _, rfl, d, kq, W, l, p, r, v, x, rfl, ⟨kw, sl, old _ _ nds g1, g2, g3, old _ _ nls g4⟩, o, SqT.of hkq, k3, fxL.keep kpH, zx, fun H3 hv s3 fh => ?_⟩
    have eS3 := s3 _ _ eS
    have eT3 := s3 _ _ eT
    have hkq3 := s3 _ _ hkq
    refine ⟨_, rfl, _, rfl, SD, _, rfl, DPut.t eS3 (k := kk l p r) hkq3 (small_lt (by have := tb.small n12; omega)), ?_⟩
    have kpu : Keep H3 (upd H3 SD (.dT (putK sk (kk l p r) hv))) := Keep.upd (by rw [eS3]; exact trivial)
    have kpa := (Same.keep s3).trans kpu
    have eS4 : (upd H3 SD (.dT (putK sk (kk l p r) hv))) SD = some (.dT (putK sk (kk l p r) hv)) := upd_same
    have eT4 : (upd H3 SD (.dT (putK sk (kk l p r) hv))) TL = some (.lst ys) := by rw [upd_ne nTS]; exact eT3
    have keep4 : ∀ b u, b ≠ SD → b ≠ TL → HL b = some u → (upd H3 SD (.dT (putK sk (kk l p r) hv))) b = some u := fun b u n1 n2 e => by rw [upd_ne n1]; exact s3 _ _ (keep b u n1 n2 e)
    have hkq4 : (upd H3 SD (.dT (putK sk (kk l p r) hv))) kq = some (.tup ((kk l p r).map kV)) := by rw [upd_ne nqS]; exact hkq3
    have tb5 := (tb.imp fun _ _ _ _ z => z.keep kpa).put k3 (fh.keep kpu)
    have fh4 := fh.keep kpu
    have fq4 := Frs.keep kpa fq
    have f14 := (f1.keep kpH).keep kpa
    have fu4 : ∀ e ∈ kvs.take (i + 1), ∃ u, valV (putK sk (kk l p r) hv) e.1 = some u := fun e he => by
      rw [List.take_add_one, hki] at he
      rw [valV_put]
      split
      · exact ⟨_, rfl⟩
      · rename_i ne
        rcases List.mem_append.mp he with he | he
        · exact fu e he
        · rw [List.mem_singleton.mp he] at ne
          exact absurd rfl ne
    have hvS : valV (putK sk (kk l p r) hv) (kk l p r) = some hv := by rw [valV_put, if_pos rfl]
    generalize putK sk (kk l p r) hv = sk4 at eS4 eT4 keep4 hkq4 tb5 fh4 fq4 f14 fu4 hvS
    generalize upd H3 SD (.dT sk4) = H4 at eS4 eT4 keep4 hkq4 tb5 fh4 fq4 f14
    have qa4 : ∀ qs' : List Rat, (∀ q ∈ qs, q ∈ qs') → (0 < W.hs x l p r → 0 ≤ W.sp l p r → W.sp l p r / W.hs x l p r ∈ qs') → ∀ l p r, kk l p r ∈ (kvs.take (i + 1)).map (·.1) → 0 < W.hs x l p r → 0 ≤ W.sp l p r → W.sp l p r / W.hs x l p r ∈ qs' := fun qs' hsub hnew l' p' r' hm c1 c2 => by
      rw [List.take_add_one, hki, List.map_append] at hm
      rcases List.mem_append.mp hm with hm | hm
      · exact hsub _ (qa l' p' r' hm c1 c2)
      · have e : kk l' p' r' = kk l p r := List.mem_singleton.mp hm
        unfold kk at e
        simp only [List.cons.injEq, Sum.inl.injEq, and_true] at e
        obtain ⟨rfl, rfl, rfl⟩ := e
        exact hnew c1 c2
    obtain ⟨pv1, rfl, hp1⟩ := id f14
    obtain ⟨pvh, rfl, hph⟩ := id fh4
    have dgS : DGet H4 SD (.ref kq) (some (.ref pvh)) := .inr ⟨sk4, kk l p r, kq, .inl eS4, rfl, hkq4, hvS.symm⟩
    have dgs : DGet H4 sd (.ref kq) (some (.ref pv1)) := .inr ⟨kvs, kk l p r, kq, .inr ⟨od, keep4 _ _ nSd.symm nTd.symm esL⟩, rfl, hkq4, hv1.symm⟩
    refine ⟨_, rfl, _, rfl, SD, _, rfl, dgS, _, _, _, _, rfl, rfl, hph, rfl, _, _, rfl, rfl, _, rfl, ?_⟩
    refine ite2 (fun c1 => ?_) (fun c1 => ?_)
    · have c1 : 0 < W.hs x l p r := num_pos_iff.mp (of_decide_eq_true c1)
      refine ⟨_, rfl, _, rfl, sd, _, rfl, dgs, _, _, _, _, rfl, rfl, hp1, rfl, _, _, rfl, rfl, _, rfl, ?_⟩
      refine ite2 (fun c2 => ?_) (fun c2 => ?_)
      · have c2 : 0 ≤ W.sp l p r := num_nonneg.mp (of_decide_eq_true c2)
        refine ⟨_, rfl, (.inl ⟨rfl, _, SqL.of eT4⟩), _, rfl, _, rfl, sd, _, rfl, dgs, _, rfl, _, rfl, SD, _, rfl, dgS, _, _, _, _, rfl, f14, fh4, ⟨_, _, zs, zh, by decide⟩, c1, fun H5 pv s5 fp => ?_⟩
        have fp : Fr K H5 pv (W.sp l p r / W.hs x l p r) := fp
        have eT5 := s5 _ _ eT4
        have kp5 : Keep H5 (upd H5 TL (.lst (ys ++ [pv]))) := Keep.upd (by rw [eT5]; exact trivial)
        have kp6 := (Same.keep s5).trans kp5
        have ly := Paired.length fq
        refine ⟨TL, _, _, rfl, rfl, eT5, small_lt (by omega), _, sk4, ys ++ [pv], qs ++ [W.sp l p r / W.hs x l p r], rfl, fun b u n1 n2 e => by rw [upd_ne n2]; exact s5 _ _ (keep4 b u n1 n2 e), by rw [upd_ne nTS.symm]; exact s5 _ _ eS4, tb5.imp fun _ _ _ _ z => z.keep kp6, fu4, upd_same, Paired.snoc (fp.keep kp5) (Frs.keep kp6 fq4), List.mem_append.mpr (.inl q0), fun q hq => ?_, qa4 _ (fun q hq => List.mem_append.mpr (.inl hq)) (fun _ _ => List.mem_append.mpr (.inr (List.mem_singleton_self _))), by rw [List.length_append]; show qs.length + 1 ≤ i + 1 + 1; omega⟩
        rcases List.mem_append.mp hq with hq | hq
        · exact qz q hq
        · rw [List.mem_singleton.mp hq]
          exact ⟨rdiv_nonneg c1 c2, zs.div zh c1⟩
      · exact ⟨_, sk4, ys, qs, rfl, keep4, eS4, tb5, fu4, eT4, fq4, q0, qz, qa4 _ (fun _ h => h) (fun _ z => absurd (decide_eq_true (num_nonneg.mpr z)) c2), by omega⟩
    · exact ⟨_, sk4, ys, qs, rfl, keep4, eS4, tb5, fu4, eT4, fq4, q0, qz, qa4 _ (fun _ h => h) (fun z _ => absurd (decide_eq_true (num_pos_iff.mpr z)) c1), by omega⟩
  · obtain ⟨x6, sk, ys, qs, rfl, keep, eS, tb, fu, eT, fq, q0, qz, qa, ql⟩ := I
    have esd' := keep _ _ nSd.symm nTd.symm esL
    refine ⟨esd', ?_⟩
    rw [List.take_length] at fu qa
    have sH : Same H (upd H' sd (.dT kvs)) := fun b u e => by
      by_cases hb : b = sd
      · rw [hb] at e ⊢
        rw [esd] at e
        rw [upd_same, e]
      · rw [upd_ne hb]
        exact keep b u (ne_of_none e hSD) (ne_of_none e TL0) (othL b u hb e)
    have eSr : (upd H' sd (.dT kvs)) SD = some (.dT sk) := by rw [upd_ne nSd]; exact eS
    have eTr : (upd H' sd (.dT kvs)) TL = some (.lst ys) := by rw [upd_ne nTd]; exact eT
    have fqr : Frs K (upd H' sd (.dT kvs)) ys qs := Paired.mapP fq fun _ _ z => z.off esd'
    have mk : ∀ l p r, Key3 W.n l p r → kk l p r ∈ kvs.map (·.1) := fun l p r k3 => by
      obtain ⟨u, hu', _⟩ := fl.get k3
      exact List.mem_map.mpr ⟨_, valV_mem hu', rfl⟩
    have SHr : SH K (upd H' sd (.dT kvs)) sd SD W.n W.sp (W.hs x) := ⟨⟨kvs, upd_same, fl.imp fun _ _ _ _ z => z.same sH⟩, ⟨sk, .inl eSr, tb.imp fun _ _ _ _ z => z.off esd', fun l p r k3 => by
      obtain ⟨u, hu', _⟩ := fl.get k3
      exact fu _ (valV_mem hu')⟩, N, fun _ _ _ k3 => o.sz_sp k3, fun _ _ _ k3 => o.sz_sh k3 zx⟩
    generalize upd H' sd (.dT kvs) = Hr at sH eSr eTr fqr SHr
    -- the turns, rising
    refine ⟨_, rfl, TL, ys, qs, rfl, SqL.of eTr, fqr, (fun q hq => (qz q hq).2), by omega, fun Ha T2 ys2 qs2 sa hT2 eT2 f2 pw2 mem2 len2 => ?_⟩
    obtain ⟨ts, rfl⟩ := turns_head pw2 ((mem2 0).mpr q0) fun q hq => (qz q ((mem2 q).mp hq)).1
    have zts : ∀ q ∈ (0 : Rat) :: ts, 0 ≤ q ∧ Sz 3901 q := fun q hq => qz q ((mem2 q).mp hq)
    have thr : ∀ y, Thr W.n W.sp (W.hs x) y → y ∈ (0 : Rat) :: ts := fun y hy => by
      obtain ⟨a', p', b', k3, h1, h2, e⟩ := hy
      rw [e]
      exact (mem2 _).mpr (qa a' p' b' (mk _ _ _ k3) h1 h2)
    have SHa := SHr.same sa
    have sHa := sH.trans sa
    -- who stands, who fell
    refine ⟨_, rfl, _, rfl, _, rfl, two, fun t0 ht0 => ?_⟩
    have g0 := same_new (o := .tup [V.int 0, V.int 1]) ht0
    refine ⟨W.n, sd, SD, W.sp, W.hs x, .ref t0, 0, rfl, n12, SHa.same g0, nSd.symm, ⟨t0, rfl, SqT.of upd_same⟩, sz_zero.mono (by decide), Rat.le_refl, fun Hb v7 sb l7 => ?_⟩
    have sab := g0.trans sb
    have SHb := SHa.same sab
    refine ⟨_, rfl, _, rfl, _, rfl, _, rfl, _, rfl, RgOk.of_le (by omega) (by omega) (by omega) (by omega), fun qr hqr => ?_⟩
    have gq := same_new (o := .tup (rgV 0 (W.n : Int))) hqr
    refine ⟨W.n, sd, SD, W.sp, W.hs x, .non, .ref qr, none, allP W.n, rfl, n12, SHb.same gq, rfl, (fun _ z => nomatch z), ⟨qr, rfl, by rw [← allP_rgV]; exact SqT.of upd_same⟩, allP_lot _, fun Hc rl sc hrl erl => ?_⟩
    have sbc := gq.trans sc
    have rl0 : H rl = none := sHa.free (sab.free (gq.free hrl))
    refine ⟨by decide, fun FL hFL => ?_⟩
    have gF := same_new (o := .lst []) hFL
    have FL0 : H FL = none := sHa.free (sab.free (sbc.free hFL))
    have nrF : rl ≠ FL := by rintro rfl; rw [erl] at hFL; cases hFL
    have eF0 : (upd Hc FL (.lst [])) FL = some (.lst []) := upd_same
    have sad := (sab.trans sbc).trans gF
    have eT3 := sad _ _ eT2
    have f3' := Frs.keep (Same.keep sad) f2
    have l73 := l7.same (sbc.trans gF)
    have erl3 := gF _ _ erl
    have sHd := sHa.trans sad
    have SHd := SHa.same sad
    generalize upd Hc FL (.lst []) = Hd at gF eF0 sad eT3 f3' l73 erl3 sHd SHd
    -- turn by turn
    have ly2 := Paired.length f3'
    obtain ⟨last, hlast⟩ : ∃ last, last = ((0 : Rat) :: ts).getLast (by simp) := ⟨_, rfl⟩
    obtain ⟨ysi, yl, hys2, flast⟩ := paired_last f3' (show ((0 : Rat) :: ts).getLast? = some last by rw [hlast]; exact List.getLast?_eq_some_getLast _)
    have zlast : 0 ≤ last ∧ Sz 3901 last := zts last (by rw [hlast]; exact List.getLast_mem _)
    refine ⟨_, rfl, _, rfl, 1, rfl, T2, _, rfl, SqL.of eT3, fun p1 hp1 => ?_⟩
    have g1 := same_new (o := .lst (cutV ys2 (some 1) none)) hp1
    have ep1 : (upd Hd p1 (.lst (cutV ys2 (some 1) none))) p1 = some (.lst (ys2.drop 1)) := by rw [upd_same, cut1]
    generalize upd Hd p1 (.lst (cutV ys2 (some 1) none)) = He at g1 ep1
    refine ⟨_, rfl, 1, rfl, T2, _, _, _, rfl, rfl, SqL.of (g1 _ _ eT3), (by rw [hys2]; exact atI_last _ _), two, fun t2 ht2 => ?_⟩
    have g2 := same_new (o := .tup [V.int 2, V.int 1]) ht2
    refine ⟨yl, .ref t2, last, 2, rfl, (flast.same g1).same g2, ⟨t2, rfl, SqT.of upd_same⟩, ⟨_, 2, zlast.2, ⟨by decide, by decide⟩, by decide⟩, trivial, fun Hf pv sf fpv => ?_⟩
    have gf := g2.trans sf
    have fpv : Fr K Hf pv (last + 2) := fpv
    refine ⟨by show 1 ≤ sizeLine; decide, fun A hA => ?_⟩
    have gA := same_new (o := .lst [pv]) hA
    refine ⟨p1, A, _, _, rfl, rfl, gA _ _ (gf _ _ ep1), upd_same, small (by rw [List.length_drop]; show _ + 1 ≤ 100000; omega), fun U hU => ?_⟩
    have gU := same_new (o := .lst (ys2.drop 1 ++ [pv])) hU
    have eU : (upd (upd Hf A (.lst [pv])) U (.lst (ys2.drop 1 ++ [pv]))) U = some (.lst (ys2.drop 1 ++ [pv])) := upd_same
    have gall := ((g1.trans gf).trans gA).trans gU
    have fpv2 := (fpv.same gA).same gU
    generalize upd (upd Hf A (.lst [pv])) U (.lst (ys2.drop 1 ++ [pv])) = Hg at gU eU gall fpv2
    have fU : Frs K Hg (ys2.drop 1 ++ [pv]) (ts ++ [last + 2]) := Paired.snoc fpv2 (Frs.keep (Same.keep gall) (Paired.drop 1 f3'))
    have lU : (ys2.drop 1 ++ [pv]).length = ys2.length := by rw [Paired.length fU, ly2]; simp
    have zU : ∀ q ∈ ts ++ [last + 2], Sz 3910 q := fun q hq => by
      rcases List.mem_append.mp hq with hq | hq
      · exact (zts q (List.mem_cons_of_mem _ hq)).2.mono (by decide)
      · rw [List.mem_singleton.mp hq]
        exact (zlast.2.add (n := 2) (b := 2) ⟨by decide, by decide⟩).mono (by decide)
    have nU : ∀ q ∈ ts ++ [last + 2], 0 ≤ q := fun q hq => by
      rcases List.mem_append.mp hq with hq | hq
      · exact (zts q (List.mem_cons_of_mem _ hq)).1
      · rw [List.mem_singleton.mp hq]; have := zlast.1; grind
    have enx : nexts (0 :: ts) = ((0 : Rat) :: ts).zip (ts ++ [last + 2]) := by rw [nexts_zip, ← hlast]
    have total := due_told o x pw2 thr
    rw [enx] at total
    have eT4 := gall _ _ eT3
    refine ⟨T2, U, _, _, rfl, .inl ⟨SqL.of eT4, SqL.of eU, ?_⟩⟩
    have row0 : (settle (FmL W.sp (W.hs x) none) W.n (allP W.n)).1 = (settle (FmL W.sp (W.hs x) none) W.n (allP W.n)).1 := rfl
    generalize (settle (FmL W.sp (W.hs x) none) W.n (allP W.n)).1 = rw0 at total erl3 row0
    have s0lot : Lot (W.n : Int) (settle (Fw W.sp (W.hs x) 0) W.n (allP W.n)).2 := settle_lot _ (allP_lot _)
    generalize (settle (Fw W.sp (W.hs x) 0) W.n (allP W.n)).2 = st0 at total l73 s0lot
    refine for_it (walk_zip (K := K) (a := T2) (b := U) (xs := ys2) (ys := ys2.drop 1 ++ [pv]) (n := ys2.length) (by rw [lU, Nat.min_self])) (fun i σ H'' => ∃ sv st rl row refs done x10 x11 x12, σ = [some (.ref d), some (.ref sd), some v, some (.int (W.n : Int)), some (.ref SD), some (.ref T2), x6, some sv, some (.ref rl), some (.ref FL), x10, x11, x12] ∧ (Same H H'' ∧ (∀ b u, b ≠ FL → Hg b = some u → H'' b = some u)) ∧ LotV K H'' sv st ∧ Lot (W.n : Int) st ∧ H rl = none ∧ rl ≠ FL ∧ H'' rl = some (.lst (row.map V.int)) ∧
        H'' FL = some (.lst refs) ∧ Paired (Pt K FL H H'') refs done ∧ done ++ dueG W.sp (W.hs x) W.n ((((0 : Rat) :: ts).zip (ts ++ [last + 2])).drop i) row st = W.told x)
      ⟨v7, st0, rl, rw0, [], [], _, _, _, rfl, ⟨sHd.trans gall, fun _ _ _ e => e⟩, l73.same gall, s0lot, rl0, nrF, gall _ _ erl3, gall _ _ eF0, .nil, total⟩ (fun i σ H'' _ I => ?_) (fun i y σ Hx H'' hi I hy => ?_) (fun σ H'' I => ?_)
    · obtain ⟨_, _, _, _, _, _, _, _, _, _, ⟨_, I⟩, _⟩ := I
      have n1 : T2 ≠ FL := by rintro rfl; rw [eF0] at eT3; cases eT3; cases ly2
      have n2 : U ≠ FL := by
        rintro rfl
        rw [gall _ _ eF0] at eU
        have := (Option.some.inj eU)
        cases this' : ys2.drop 1 ++ [pv] with
        | nil => simp at this'
        | cons a' b' => rw [this'] at this; cases this
      exact ⟨SqL.of (I _ _ n1 eT4), SqL.of (I _ _ n2 eU)⟩
    · obtain ⟨sv, st, rl, row, refs, done, x10, x11, x12, rfl, ⟨sH', keep'⟩, hsv, lst', hrl0, nrl, erl', eFL, pd, tot⟩ := I
      obtain ⟨T, a1, b1, rfl, hT, rfl, ha1, hb1⟩ := hy
      have ha1 : ys2[i]? = some a1 := ha1
      have hb1 : (ys2.drop 1 ++ [pv])[i]? = some b1 := hb1
      obtain ⟨qa', hqa, fa⟩ := Paired.get? f3' ha1
      obtain ⟨qb, hqb, fb⟩ := Paired.get? fU hb1
      have za := zts _ (List.mem_of_getElem? hqa)
      have zb := zU _ (List.mem_of_getElem? hqb)
      have nb := nU _ (List.mem_of_getElem? hqb)
      have hpair : (((0 : Rat) :: ts).zip (ts ++ [last + 2]))[i]? = some (qa', qb) := List.getElem?_zip_eq_some.mpr ⟨hqa, hqb⟩
      obtain ⟨hil, eil⟩ := List.getElem?_eq_some_iff.mp hpair
      have edrop := List.drop_eq_getElem_cons hil
      rw [eil] at edrop
      rw [edrop] at tot
      have eFg := gall _ _ eF0
      have SHg := SHd.same gall
      have kpg : ∀ X : Hp, (∀ b u, b ≠ FL → Hg b = some u → X b = some u) → Keep Hg X := fun X kx b u e m => kx b u (by rintro rfl; rw [eFg] at e; cases e; exact m trivial) e
      have sT := same_new (o := .tup [a1, b1]) hT
      have fa6 := (((fa.same gall).keep (kpg _ keep')).same sT)
      have fb6 := ((fb.keep (kpg _ keep')).same sT)
      refine ⟨T, _, rfl, SqT.of upd_same, rfl, _, _, rfl, _, _, rfl, rfl, ?_⟩
      have SH6 := (SHg.mut keep' eFg).same sT
      refine ⟨_, rfl, _, rfl, _, rfl, _, rfl, _, rfl, a1, b1, qa', qb, rfl, fa6, fb6, za.2.mono (by decide), zb, fun H7 mv s7 fm => ?_⟩
      have zm : Sz 7900 ((qa' + qb) / 2) := (((za.2.mono (m := 3901) (n := 3910) (by decide)).add zb).div (n := 2) (b := 2) ⟨by decide, by decide⟩ (show (0 : Rat) < 2 by decide)).mono (by decide)
      have nm : 0 ≤ (qa' + qb) / 2 := rdiv_nonneg (by decide) (by have := za.1; grind)
      have s67 := sT.trans s7
      refine ⟨W.n, sd, SD, W.sp, W.hs x, mv, (qa' + qb) / 2, rfl, n12, SH6.same s7, nSd.symm, fm, zm, nm, fun H8 bv s8 lb => ?_⟩
      have s68 := s67.trans s8
      refine ⟨_, rfl, _, rfl, _, _, dp_lot lb, dp_lot (hsv.same s68), shaped_lot _, shaped_lot _, _, rfl, ?_⟩
      rw [eqv_lots]
      have lb' : Lot (W.n : Int) (settle (Fw W.sp (W.hs x) ((qa' + qb) / 2)) W.n (allP W.n)).2 := settle_lot _ (allP_lot _)
      unfold dueG at tot
      have keep8 : ∀ b u, b ≠ FL → Hg b = some u → H8 b = some u := fun b u n1 e => s68 _ _ (keep' b u n1 e)
      have erl8 := s68 _ _ erl'
      have eFL8 := s68 _ _ eFL
      have pd8 : Paired (Pt K FL H H8) refs done := Paired.mapP pd fun _ _ z => z.same s68
      have sH8 := sH'.trans s68
      generalize (settle (Fw W.sp (W.hs x) ((qa' + qb) / 2)) W.n (allP W.n)).2 = bh at lb lb' tot
      by_cases c : bh = st
      · rw [if_neg (fun z => z c)] at tot
        rw [decide_eq_true c]
        exact iteF ⟨sv, st, rl, row, refs, done, _, _, _, rfl, ⟨sH8, keep8⟩, hsv.same s68, lst', hrl0, nrl, erl8, eFL8, pd8, tot⟩
      · rw [if_pos c] at tot
        rw [decide_eq_false c]
        have tl := told_len o x
        have dl : done.length ≤ 13 := by
          rw [← tot, List.length_append] at tl
          omega
        have rlen : refs.length < sizeLine := small_lt (by rw [Paired.length pd]; omega)
        refine iteT ⟨_, rfl, (.inl ⟨rfl, _, SqL.of eFL8⟩), _, rfl, _, rfl, _, rfl, by show 3 ≤ sizeLine; decide, fun T3 hT3 => ?_⟩
        have s9 := same_new (o := .tup [V.ref rl, sv, a1]) hT3
        have eF9 := s9 _ _ eFL8
        refine ⟨FL, _, _, rfl, rfl, eF9, rlen, ?_⟩
        have kp9 : Keep (upd H8 T3 (.tup [V.ref rl, sv, a1])) (upd (upd H8 T3 (.tup [V.ref rl, sv, a1])) FL (.lst (refs ++ [V.ref T3]))) := Keep.upd (by rw [eF9]; exact trivial)
        have pnew : Pt K FL H (upd (upd H8 T3 (.tup [V.ref rl, sv, a1])) FL (.lst (refs ++ [V.ref T3]))) (.ref T3) (row, st, some qa') :=
          ⟨T3, rl, sv, a1, rfl, sqt_keep kp9 (SqT.of upd_same), hrl0, nrl, by rw [upd_ne nrl]; exact s9 _ _ erl8, ((hsv.same s68).same s9).keep kp9, ((((fa6.same s7).same s8).same s9).keep kp9 : Fr K _ a1 qa'), fun u hu' => by cases hu'; exact za.2⟩
        have pdn : Paired (Pt K FL H (upd (upd H8 T3 (.tup [V.ref rl, sv, a1])) FL (.lst (refs ++ [V.ref T3])))) refs done := Paired.mapP pd8 fun _ _ z => (z.same s9).put eF9
        have keep9 : ∀ b u, b ≠ FL → Hg b = some u → (upd (upd H8 T3 (.tup [V.ref rl, sv, a1])) FL (.lst (refs ++ [V.ref T3]))) b = some u := fun b u n1 e => by rw [upd_ne n1]; exact s9 _ _ (keep8 b u n1 e)
        have sH9 := same_mut (o := .lst (refs ++ [V.ref T3])) (sH8.trans s9) FL0
        have hsv9 := ((hsv.same s68).same s9).keep kp9
        have lb9 := (lb.same s9).keep kp9
        have fa9 : OV K (upd (upd H8 T3 (.tup [V.ref rl, sv, a1])) FL (.lst (refs ++ [V.ref T3]))) a1 (some qa') := (((fa6.same s7).same s8).same s9).keep kp9
        have eF10 : (upd (upd H8 T3 (.tup [V.ref rl, sv, a1])) FL (.lst (refs ++ [V.ref T3]))) FL = some (.lst (refs ++ [V.ref T3])) := upd_same
        generalize upd (upd H8 T3 (.tup [V.ref rl, sv, a1])) FL (.lst (refs ++ [V.ref T3])) = H9 at pnew pdn keep9 sH9 hsv9 lb9 fa9 eF10
        refine ⟨_, rfl, _, rfl, _, rfl, _, rfl, _, rfl, W.n, sd, SD, W.sp, W.hs x, a1, sv, some qa', st, rfl, n12, SHg.mut keep9 eFg, fa9, (fun u hu' => by cases hu'; exact za.2.mono (by decide)), hsv9, lst', fun H10 rl2 s10 hrl2 erl2 => ?_⟩
        exact ⟨_, rfl, bv, bh, rl2, _, refs ++ [V.ref T3], done ++ [(row, st, some qa')], _, _, _, rfl, ⟨sH9.trans s10, fun b u n1 e => s10 _ _ (keep9 b u n1 e)⟩, lb9.same s10, lb', sH9.free hrl2, (by rintro rfl; rw [eF10] at hrl2; cases hrl2), erl2, s10 _ _ eF10, Paired.mapP (Paired.snoc pnew pdn) fun _ _ z => z.same s10, by rw [List.append_assoc]; exact tot⟩
    · obtain ⟨sv, st, rl, row, refs, done, x10, x11, x12, rfl, ⟨sH', keep'⟩, hsv, lst', hrl0, nrl, erl', eFL, pd, tot⟩ := I
      have lz : (((0 : Rat) :: ts).zip (ts ++ [last + 2])).length ≤ ys2.length := by rw [List.length_zip, ly2]; exact Nat.min_le_left _ _
      rw [List.drop_of_length_le lz] at tot
      unfold dueG at tot
      have tl := told_len o x
      have dl : done.length + 1 ≤ 13 := by
        rw [← tot, List.length_append] at tl
        exact tl
      have rlen := Paired.length pd
      refine ⟨_, rfl, _, rfl, _, rfl, by show 3 ≤ sizeLine; decide, fun T3 hT3 => ⟨by show 1 ≤ sizeLine; decide, fun A3 hA3 => ?_⟩⟩
      have s9 := same_new (o := .tup [V.ref rl, sv, V.non]) hT3
      have pnew : Pt K FL H (upd H'' T3 (.tup [V.ref rl, sv, V.non])) (.ref T3) (row, st, none) := ⟨T3, rl, sv, .non, rfl, SqT.of upd_same, hrl0, nrl, s9 _ _ erl', hsv.same s9, rfl, fun _ z => nomatch z⟩
      have pdn : Paired (Pt K FL H (upd H'' T3 (.tup [V.ref rl, sv, V.non]))) refs done := Paired.mapP pd fun _ _ z => z.same s9
      have sA := same_new (o := .lst [V.ref T3]) hA3
      have eFL9 := s9 _ _ eFL
      have eA3 : (upd (upd H'' T3 (.tup [V.ref rl, sv, V.non])) A3 (.lst [V.ref T3])) A3 = some (.lst [V.ref T3]) := upd_same
      refine ⟨FL, A3, _, _, rfl, rfl, sA _ _ eFL9, eA3, small (by show refs.length + 1 ≤ 100000; omega), fun Rs hRs => ?_⟩
      have sR := same_new (o := .lst (refs ++ [V.ref T3])) hRs
      refine k _ Rs (refs ++ [V.ref T3]) (((sH'.trans s9).trans sA).trans sR) (((sH'.trans s9).trans sA).free hRs) upd_same ?_ (by rw [List.length_append]; show refs.length + 1 ≤ 20; omega)
      rw [← tot]
      exact Paired.mapP (Paired.snoc pnew pdn) fun _ _ z => (((z.same sA).re hRs).same sR)
end Pf
end

section
namespace Pf
open PySem PySem.Spec PyProof.Rows L2
variable {P : Program} {w : World} {K : PySem.W.Frag} {mg : Str → Option Value} {base : Heap} {a : Ad}
theorem settle_row_len {F : Fail} {n : Nat} {s : List Int} (h : Lot (n : Int) s) : (settle F n s).1.length ≤ n :=
  Nat.le_trans (nodup_le (settle_nodup s) (settle_sub s)) (lot12 h)
theorem parts_rows {sp hs : Int → Int → Int → Rat} {n : Nat} (N : Nums n sp hs) : ∀ (k : Nat) (row s : List Int), s.length ≤ k → Lot (n : Int) s → row.length ≤ n → ∀ q ∈ parts sp hs n row s, q.1.length ≤ n
  | k, row, s, hk, hl, hr, q, hq => by
    cases h : most sp hs n s with
    | none => rw [parts_none h] at hq; rw [List.mem_singleton.mp hq]; exact hr
    | some u =>
      have lt := settle_len_lt (most_bad N hl h)
      rw [parts_some N hl h] at hq
      rcases List.mem_cons.mp hq with e | hq
      · rw [e]; exact hr
      · cases k with
        | zero => omega
        | succ k => exact parts_rows N k _ _ (by omega) (settle_lot _ hl) (settle_row_len hl) q hq
theorem told_rows {W : Wd} (o : W.Ok) (x : Rat) : ∀ q ∈ W.told x, q.1.length ≤ 12 := fun q hq =>
  Nat.le_trans (parts_rows (o.nums x) _ _ _ (Nat.le_refl _) (settle_lot (F := W.F0) _ (allP_lot W.n)) (settle_row_len (allP_lot W.n)) q hq) o.n12
/-! ### weights as data -/
def wtD (q : Rat × Rat) : PyData := .tuple [frD q.1, frD q.2]
theorem dpa_wts {H : Hp} : ∀ {rs : List V} {qs : List (Rat × Rat)}, Paired (Wt K H) rs qs → DpAll K H rs (qs.map wtD)
  | _, _, .nil => .nil
  | _, _, .cons h t => by
    obtain ⟨t', xv, mv, rfl, h1, h2, h3⟩ := h
    exact .cons (.tup h1 (.cons (dp_fr h2) (.cons (dp_fr h3) .nil))) (dpa_wts t)
theorem lay_wts : ∀ qs : List (Rat × Rat), PyData.canLayAll0 (qs.map wtD) = true
  | [] => by simp [PyData.canLayAll0]
  | q :: qs => by rw [List.map_cons, PyData.canLayAll0, lay_wts qs]; simp [PyData.canLay0, wtD, frD, PyData.canLayAll0]
theorem dep_wts : ∀ qs : List (Rat × Rat), PyData.depthAll (qs.map wtD) ≤ 4
  | [] => by simp [PyData.depthAll]
  | q :: qs => by rw [List.map_cons, PyData.depthAll]; have := dep_wts qs; simp [PyData.depth, wtD, frD, PyData.depthAll]; omega
theorem eqva_refl_wts : ∀ qs : List (Rat × Rat), PyData.eqvAll (qs.map wtD) (qs.map wtD) = true
  | [] => by simp [PyData.eqvAll]
  | q :: qs => by
    rw [List.map_cons, PyData.eqvAll, eqva_refl_wts qs]
    simp [wtD, PyData.eqv, PyData.eqvAll, eqv_fr]
theorem shaped_ov (m : Option Rat) : SeqAt.shaped (ovD m) = true := by
  have h1 := lay_ov m
  have h2 := dep_ov m
  simp [SeqAt.shaped, h1]
  omega
theorem stood_ne {p : Int} {q : Part} {qs : List Part} (h : p ∈ q.2.1) : stoodIn p (q :: qs) ≠ [] := by
  unfold stoodIn
  simp [h]
theorem last_of {α : Type} : ∀ {l : List α}, l ≠ [] → ∃ m, l.getLast? = some m
  | [], h => absurd rfl h
  | x :: t, _ => ⟨_, List.getLast?_eq_some_getLast (by simp)⟩
def spRight (K : PySem.W.Frag) (a : Ad) : Sp := fun vs H Q _ => ∃ (d p sd : Addr) (W : Wd) (v : V) (x : Rat) (kvs : List (List L2.Key × V)), vs = [.ref d, .ref p, .ref sd, v] ∧ Wo K H d W ∧ W.Ok ∧ Plk K a H p W ∧ H sd = some (.dT kvs) ∧ Full K (fun l p r v => Fr K H v (W.sp l p r)) W.n kvs ∧ Fr K H v x ∧ Spt W x ∧
  ∀ H', Same H H' → Q (.bl true) H'
abbrev N_law_right : List Str := ["_law_world_here", "_law_plank", "_law_spares_here", "_law_spot", "_law_due_here", "_law_heavy_here", "_law_again", "_law_told", "_law_row_here", "_law_stood", "_law_most", "_law_prop"]
theorem sc_law_right : FnScope N_law_right ["_law_world_here", "_law_plank", "_law_spares_here", "_law_spot"] (defScope s_law_right) := ⟨rfl, rfl, rfl, by decide +kernel, rfl, by decide +kernel, by decide +kernel⟩
theorem ok_lright (G : Gd K mg "_law_right" s_law_right) (B : Bt mg) (D_law_due : Df P w K mg base "_law_due" ["_law_world_here", "_law_spares_here", "_law_spot"] 4 (spDue K)) (D_further : Df P w K mg base "further" ["plank", "weights", "place"] 12 (spFurther K a))
    (D_is_further : Df P w K mg base "is_further" ["plank", "weights", "place", "thing"] 12 (spIsFurther K a)) (D_felled : Df P w K mg base "felled" ["plank", "weights", "place", "prop"] 12 (spFelled K a)) :
    Df P w K mg base "_law_right" ["_law_world_here", "_law_plank", "_law_spares_here", "_law_spot"] 13 (spRight K a) := by
  refine df_mk G sc_law_right (fun vs H Q E h => by obtain ⟨_, _, _, _, _, _, _, rfl, _⟩ := h; rfl) (fun _ _ _ _ _ _ us hl => match us, hl with | [_, _, _, _], _ => rfl) (fun f cdv A' outer sh H vs Q E hr h => ?_)
  obtain ⟨d, p, sd, W, v, x, kvs, rfl, wo, o, pk, esd, fl, fx, sx, k⟩ := h
  have hu := hu_of hr
  refine ⟨_, (pss_cons (ps_set (i := 4) sc_law_right.nd rfl (by first | exact Or.inl rfl | exact Or.inr rfl) (pcall D_law_due hr (by decide) (by rfl) (pa_cons (pv 0) (pa_cons (pv 2) (pa_cons (pv 3) pa_nil)))))
    (pss_cons (ps_set (i := 5) sc_law_right.nd rfl (by first | exact Or.inl rfl | exact Or.inr rfl) (pe_callTy call_list_of (by rfl) B.list_ (by decide +kernel) (pa_cons (pe_dget hu (pv 0) pe_str (fun _ _ => rfl)) pa_nil)))
    (pss_cons (ps_for PassesOwn.never rfl (pi_range1 (by rfl) B.range (pa_cons pe_int pa_nil)) (pg_name (i := 6) sc_law_right.nd rfl (by first | exact Or.inl rfl | exact Or.inr rfl))
    (pss_cons (ps_set (i := 7) sc_law_right.nd rfl (by first | exact Or.inl rfl | exact Or.inr rfl) (pcall D_further hr (by decide) (by rfl) (pa_cons (pv 1) (pa_cons (pv 5) (pa_cons (pv 3) pa_nil)))))
      (pss_cons (ps_if (PW.pt (pw_or (pt_cmpR (op_neD hr.units) (pv 7) (pv 4) (nomark _)) (pw_or (pt_not (pt_val (pe_callB call_isi (by rfl) B.isinstance (by decide +kernel) (pa_cons (pv 7) (pa_cons (pe_bltn (v := .ty "list") (by rfl) B.list_ (by decide +kernel) rfl) pa_nil))))) (pw_or1 (pt_cmpR op_notBl (pcall D_is_further hr (by decide) (by rfl) (pa_cons (pv 1) (pa_cons (pv 5) (pa_cons (pv 3) (pa_cons (pv 7) pa_nil))))) pe_bl (nomark _))))))
      (pss_one (ps_ret pe_bl))
      pss_nil)
      (pss_cons (ps_for PassesOwn.never rfl (pi_list (pv 7)) (pg_tup (by rfl) (pgs_cons (pg_name (i := 8) sc_law_right.nd rfl (by first | exact Or.inl rfl | exact Or.inr rfl)) (pgs_cons (pg_name (i := 9) sc_law_right.nd rfl (by first | exact Or.inl rfl | exact Or.inr rfl)) (pgs_cons (pg_name (i := 10) sc_law_right.nd rfl (by first | exact Or.inl rfl | exact Or.inr rfl)) pgs_nil))))
      (pss_one (ps_expr (pe_bm PySem.F.plainAttrs_list PySem.F.slot_list_append PySem.F.type_list_append mt_append (pv 8) (pa_cons pe_int pa_nil)))))
      (pss_one (ps_expr (pe_bm0 PySem.F.plainAttrs_list PySem.F.slot_list_clear PySem.F.type_list_clear mt_clear (pv 7))))))))
    (pss_cons (ps_for PassesOwn.never rfl (pi_tup (pe_ix (r := rIxT K) ix_tup (pe_ix (r := rIxL K) ix_list (pv 4) pe_int (fun _ _ => rfl)) pe_int (fun _ _ => rfl))) (pg_name (i := 11) sc_law_right.nd rfl (by first | exact Or.inl rfl | exact Or.inr rfl))
    (pss_one (ps_if (pt_cmpR (op_neD hr.units) (pcall D_felled hr (by decide) (by rfl) (pa_cons (pv 1) (pa_cons (pv 5) (pa_cons (pv 3) (pa_cons (pv 11) pa_nil))))) (pe_ix (r := rIxL K) ix_list (pe_lc (own := [("_law_row_here", 8), ("_law_stood", 9), ("_law_most", 10)]) (g := gTup K 3 (gCons (gName 8) (gCons (gName 9) (gCons (gName 10) gNil)))) rfl sc_law_right.nd (pi_list (pv 4)) (blkOk_by (N := N_law_right) (sc := defScope s_law_right) (by decide +kernel)) (fun _ _ _ _ _ => (pg_tup (by rfl) (pgs_cons (pg_name (i := 8) sc_law_right.nd rfl (by first | exact Or.inl rfl | exact Or.inr rfl)) (pgs_cons (pg_name (i := 9) sc_law_right.nd rfl (by first | exact Or.inl rfl | exact Or.inr rfl)) (pgs_cons (pg_name (i := 10) sc_law_right.nd rfl (by first | exact Or.inl rfl | exact Or.inr rfl)) pgs_nil))))) (fun _ _ _ _ _ => pts_one (pt_cmpR (r := rIn K false) op_in_seq (pv 11) (pv 9) (by rfl))) (fun _ _ _ _ _ => (pv 10))) (pe_un un_neg pe_int) (fun _ _ => rfl)) (nomark _))
      (pss_one (ps_ret pe_bl))
      pss_nil)))
    (pss_one (ps_ret (pe_cmpR (op_eqD hr.units) (pv 5) (pe_dget hu (pv 0) pe_str (fun _ _ => rfl)) (nomark _)))))))), ?_⟩
  refine ⟨_, rfl, _, rfl, _, rfl, d, sd, W, v, x, kvs, rfl, wo.s, o, esd, fl, fx, sx.sz, fun H1 DL rd s1 hDL eDL pd ld => ?_⟩
  obtain ⟨kw, sl, hl, tl, refs, frs, e1, e2, e3, e4, e5, e6, e7, e8, e9, e10⟩ := (wo.same s1).ex
  refine ⟨_, rfl, d, _, rfl, getK e1 e5, hl, _, rfl, .inl (SqL.of e6), fun HV hHV => ?_⟩
  have s2 := same_new (o := .lst refs) hHV
  have eHV : (upd H1 HV (.lst refs)) HV = some (.lst refs) := upd_same
  have s12 := s1.trans s2
  have eDL2 := s2 _ _ eDL
  have pd2 : Paired (Pw K (upd H1 HV (.lst refs))) rd (W.told x) := Paired.mapP pd fun _ _ z => z.pw.same s2
  have pkb := pk.same s12
  have e62 := s2 _ _ e6
  have e12 := s2 _ _ e1
  have pwb : Paired (Wt K (upd H1 HV (.lst refs))) refs W.hv := Paired.mapP e7 fun _ _ z => z.keep (Same.keep s2)
  have fxb := fx.same s12
  generalize upd H1 HV (.lst refs) = Hb at s2 eHV s12 eDL2 pd2 pkb e62 e12 pwb fxb
  refine ⟨2, rfl, by decide, by decide, for_range (lo := 0) (n := 2) (fun i σ H' => ∃ x6 x7 x8 x9 x10 x11, σ = [some (.ref d), some (.ref p), some (.ref sd), some v, some (.ref DL), some (.ref HV), x6, x7, x8, x9, x10, x11] ∧ Same Hb H') ⟨_, _, _, _, _, _, rfl, Same.refl _⟩ (fun i σ H' hi I => ?_) (fun σ H' I => ?_)⟩
  · obtain ⟨x6, x7, x8, x9, x10, x11, rfl, sb⟩ := I
    refine ⟨_, rfl, _, rfl, _, rfl, p, HV, W, refs, v, x, rfl, pkb.same sb, o, SqL.of (sb _ _ eHV), Paired.mapP pwb fun _ _ z => z.keep (Same.keep sb), fxb.same sb, sx, fun H2 T rs s3 hT eT pt l20 => ?_⟩
    have sb2 := sb.trans s3
    refine ⟨_, rfl, _, rfl, _, _, dp_parts (SqL.of eT) (Paired.mapP pt fun _ _ z => z.pw), dp_parts (SqL.of (sb2 _ _ eDL2)) (Paired.mapP pd2 fun _ _ z => z.same sb2), shaped_parts _, shaped_parts _, _, rfl, ?_⟩
    rw [eqv_parts, decide_eq_true rfl]
    refine iteF ⟨_, rfl, _, _, .type "list", _, true, rfl, .ty "list", tyx_lst (SqL.of eT), kit_ty (by decide +kernel), _, rfl, ?_⟩
    refine iteF ⟨_, rfl, _, rfl, _, rfl, _, rfl, p, HV, T, T, W, refs, rs, v, x, H', rfl, pkb.same sb2, o, SqL.of (sb2 _ _ eHV), Paired.mapP pwb fun _ _ z => z.keep (Same.keep sb2), fxb.same sb2, sx, eT, pt, fun H3 s4 => ?_⟩
    refine ⟨true, true, rfl, rfl, _, rfl, iteF ?_⟩
    have sb3 := sb2.trans s4
    have eT3 := s4 _ _ eT
    have lens : ∀ q ∈ W.told x, q.1.length ≤ 12 := told_rows o x
    have rows0 : ∀ (j : Nat) (r : V), rs[j]? = some r → ∃ t rl lv mv xs, r = .ref t ∧ SqT K H3 t [.ref rl, lv, mv] ∧ rl ≠ T ∧ Hb rl = none ∧ H3 rl = some (.lst xs) ∧ xs.length ≤ 12 := fun j r hj => by
      obtain ⟨q, hq, t, rl, lv, mv, rfl, h1, h2, h3, h4, _⟩ := Paired.get? pt hj
      exact ⟨t, rl, lv, mv, _, rfl, sqt_same s4 h1, h3, sb.free h2, s4 _ _ h4, by rw [List.length_map]; exact lens q (List.mem_of_getElem? hq)⟩
    have T0 : Hb T = none := sb.free hT
    refine ⟨_, rfl, T, rfl, ⟨_, SqL.of eT3⟩, for_list (K := K) (a := T) (xs := rs) (fun j σ H'' => ∃ x6 x8 x9 x10 x11, σ = [some (.ref d), some (.ref p), some (.ref sd), some v, some (.ref DL), some (.ref HV), x6, some (.ref T), x8, x9, x10, x11] ∧ Same Hb H'' ∧ H'' T = some (.lst rs) ∧
      ∀ (i : Nat) (r : V), rs[i]? = some r → ∃ t rl lv mv xs, r = .ref t ∧ SqT K H'' t [.ref rl, lv, mv] ∧ rl ≠ T ∧ Hb rl = none ∧ H'' rl = some (.lst xs) ∧ xs.length ≤ 12 + j) ⟨_, _, _, _, _, rfl, sb3, eT3, rows0⟩ (fun j σ H'' _ I => by obtain ⟨_, _, _, _, _, _, _, e, _⟩ := I; exact SqL.of e) (fun j r σ H'' hj I => ?_) (fun σ H'' I => ?_)⟩
    · obtain ⟨x6, x8, x9, x10, x11, rfl, s5, eT5, rows⟩ := I
      obtain ⟨t, rl, lv, mv, xs, rfl, h1, h2, h3, h4, h5⟩ := rows j r hj
      have hjl := (List.getElem?_eq_some_iff.mp hj).1
      have kp : Keep H'' (upd H'' rl (.lst (xs ++ [V.int 0]))) := Keep.upd (by rw [h4]; exact trivial)
      refine ⟨t, _, rfl, h1, rfl, _, _, rfl, _, _, rfl, _, _, rfl, rfl, _, rfl, (.inl ⟨rfl, _, SqL.of h4⟩), rl, xs, _, rfl, rfl, h4, small_lt (by omega), _, _, _, _, _, rfl, same_mut s5 h3, by rw [upd_ne (Ne.symm h2)]; exact eT5, fun i r' hi => ?_⟩
      obtain ⟨t', rl', lv', mv', xs', rfl, k1, k2, k3, k4, k5⟩ := rows i r' hi
      by_cases e : rl' = rl
      · subst e
        rw [h4] at k4
        cases k4
        exact ⟨t', rl', lv', mv', _, rfl, sqt_keep kp k1, k2, k3, upd_same, by rw [List.length_append]; show xs.length + 1 ≤ _; omega⟩
      · exact ⟨t', rl', lv', mv', xs', rfl, sqt_keep kp k1, k2, k3, by rw [upd_ne e]; exact k4, by omega⟩
    · obtain ⟨x6, x8, x9, x10, x11, rfl, s5, eT5, rows⟩ := I
      exact ⟨_, rfl, (.inl ⟨rfl, _, SqL.of eT5⟩), T, _, rfl, rfl, eT5, _, _, _, _, _, _, rfl, same_mut s5 T0⟩
  · obtain ⟨x6, x7, x8, x9, x10, x11, rfl, sb⟩ := I
    obtain ⟨rest, ph, _⟩ := parts_head (row := (settle W.F0 W.n (allP W.n)).1) (o.nums x) (settle_lot (F := W.F0) _ (allP_lot W.n))
    have h0 : (W.told x)[0]? = some ((settle W.F0 W.n (allP W.n)).1, (settle W.F0 W.n (allP W.n)).2, most W.sp (W.hs x) W.n (settle W.F0 W.n (allP W.n)).2) := by rw [Wd.told, ph]; rfl
    obtain ⟨r0, hr0, t0, rl0, lv0, mv0, rfl, w1, w2, ⟨lt0, rfl, w3⟩, w4⟩ := Paired.get2 pd2 h0
    refine ⟨_, rfl, DL, _, 0, _, rfl, rfl, SqL.of (sb _ _ eDL2), atI_nat (j := 0) hr0, _, _, _, _, rfl, rfl, sqt_same sb w1, rfl, lt0, rfl, ⟨_, sqt_same sb w3⟩, ?_⟩
    refine for_it (walk_tup (K := K) (a := lt0) (xs := (settle W.F0 W.n (allP W.n)).2.map V.int)) (fun i σ H' => ∃ x6 x7 x8 x9 x10 x11, σ = [some (.ref d), some (.ref p), some (.ref sd), some v, some (.ref DL), some (.ref HV), x6, x7, x8, x9, x10, x11] ∧ Same Hb H') ⟨_, _, _, _, _, _, rfl, sb⟩ (fun i σ H' _ I => by obtain ⟨_, _, _, _, _, _, _, I⟩ := I; exact sqt_same I w3) (fun i y σ Hx H'' hi I hy => ?_) (fun σ H'' I => ?_)
    · obtain ⟨x6, x7, x8, x9, x10, x11, rfl, sc⟩ := I
      obtain ⟨rfl, hx⟩ := hy
      rw [List.getElem?_map] at hx
      obtain ⟨pr, hpr, rfl⟩ := Option.map_eq_some_iff.mp hx
      have hmem := List.mem_of_getElem? hpr
      obtain ⟨m, hm⟩ : ∃ m, (stoodIn pr (W.told x)).getLast? = some m := last_of (by
        rw [Wd.told, ph]
        exact stood_ne hmem)
      refine ⟨_, rfl, _, rfl, _, rfl, _, rfl, p, HV, W, refs, v, x, pr, m, rfl, pkb.same sc, o, SqL.of (sc _ _ eHV), Paired.mapP pwb fun _ _ z => z.keep (Same.keep sc), fxb.same sc, sx, hmem, hm, fun H3 r s3 ov => ?_⟩
      have sc3 := sc.trans s3
      refine ⟨_, rfl, DL, rfl, ⟨_, SqL.of (sc3 _ _ eDL2)⟩, fun D hD => ?_⟩
      have lr := Paired.length pd2
      refine lc_list (K := K) (a := DL) (xs := rd) (fun i H' => Same H3 H' ∧ ∃ ys, H' D = some (.lst ys) ∧ Paired (OV K H') ys (stoodIn pr ((W.told x).take i))) ⟨same_new hD, _, upd_same, .nil⟩ (fun i H' _ I => SqL.of (I.1 _ _ (sc3 _ _ eDL2))) (fun i y H' hy I => ?_) (fun H' I => ?_)
      · obtain ⟨I, ys, eD, oy⟩ := I
        obtain ⟨q, hq, t, rl, lv, mv, rfl, z1, z2, ⟨lt', rfl, hlv⟩, z6⟩ := Paired.get? pd2 hy
        have zz := stoodIn_snoc (p := pr) hq
        have s3' := sc3.trans I
        have zl : ys.length ≤ 20 := by
          rw [Paired.length oy]
          refine Nat.le_trans stoodIn_len ?_
          rw [List.length_take]
          exact Nat.le_trans (Nat.min_le_right _ _) (by rw [← lr]; exact ld)
        refine ⟨t, _, rfl, sqt_same s3' z1, rfl, _, _, rfl, _, _, rfl, _, _, rfl, rfl, rfl, _, rfl, _, rfl, lt', _, rfl, .inr (sqt_same s3' hlv), rfl, flat_ints _, _, rfl, ?_⟩
        rw [inV_ints]
        refine ite2 (fun c => ?_) (fun c => ?_)
        · have kp : Keep H' (upd H' D (.lst (ys ++ [mv]))) := Keep.upd (by rw [eD]; exact trivial)
          refine ⟨_, rfl, _, eD, small_lt (by omega), same_mut I hD, _, upd_same, ?_⟩
          rw [zz, if_pos (of_decide_eq_true c)]
          exact Paired.snoc ((z6.keep (Same.keep s3')).keep kp) (Paired.mapP oy fun _ _ z => z.keep kp)
        · refine ⟨I, ys, eD, ?_⟩
          rw [zz, if_neg (fun z => c (decide_eq_true z))]
          exact oy
      · obtain ⟨I, ys, eD, oy⟩ := I
        rw [lr, List.take_length] at oy
        obtain ⟨ys', v', rfl, hv⟩ := paired_last oy hm
        refine ⟨1, rfl, D, _, _, _, rfl, rfl, SqL.of eD, atI_last _ _, _, _, dp_ov (ov.keep (Same.keep I)), dp_ov hv, shaped_ov m, shaped_ov m, _, rfl, ?_⟩
        rw [eqv_ov, decide_eq_true rfl]
        exact iteF ⟨_, _, _, _, _, _, rfl, sc3.trans I⟩
    · obtain ⟨x6, x7, x8, x9, x10, x11, rfl, sc⟩ := I
      have pc : Paired (Wt K H'') refs W.hv := Paired.mapP pwb fun _ _ z => z.keep (Same.keep sc)
      refine ⟨_, rfl, _, rfl, d, _, rfl, getK (sc _ _ e12) e5, _, _, .lst (SqL.of (sc _ _ eHV)) (dpa_wts pc), .lst (SqL.of (sc _ _ e62)) (dpa_wts pc), shaped_lst (lay_wts _) (by have := dep_wts W.hv; omega), shaped_lst (lay_wts _) (by have := dep_wts W.hv; omega), ?_⟩
      rw [PyData.eqv, eqva_refl_wts]
      exact k H'' (s12.trans sc)
end Pf
end

section
namespace Pf
open PySem PySem.Spec PyProof.Rows L2
variable {P : Program} {w : World} {K : PySem.W.Frag} {mg : Str → Option Value} {base : Heap} {a : Ad}
theorem ixN_of {n : Nat} {i : Int} (h0 : 0 ≤ i) (h1 : i < n) : ixN n i = some i.toNat := by
  unfold ixN
  rw [if_pos h0, if_pos (by omega)]
theorem Paired.set {α β : Type} {F : α → β → Prop} {x : α} {y : β} (h : F x y) : ∀ {xs : List α} {ys : List β} (j : Nat), Paired F xs ys → Paired F (xs.set j x) (ys.set j y)
  | _, _, _, .nil => .nil
  | _, _, 0, .cons _ t => .cons h t
  | _, _, j + 1, .cons r t => .cons r (Paired.set h j t)
theorem putK_old {kvs : List (L2.Key × V)} {k : L2.Key} {v v0 : V} (h : valV kvs k = some v0) : (putK kvs k v).length = kvs.length := by
  have hany : (kvs.any fun kv => decide (kv.1 = k)) = true := by rw [valV_any, h]; rfl
  unfold putK
  rw [if_pos hany, List.length_map]
structure WW (W : Wd) : Prop where
  ok : W.Ok
  n0 : 0 < W.n
  n5 : W.n ≤ 5
def spFine (K : PySem.W.Frag) : Sp := fun vs H Q _ => ∃ (dl d : Addr) (m : Nat) (gs : List Int) (n : Nat) (sts : List Rat) (hv : List (Rat × Rat)), vs = [.ref dl, .ref d] ∧ Dg K H dl m ∧ 12 ≤ m ∧ Wo K H d (mkW gs n sts hv) ∧ gs.length = n + 1 ∧ 1 ≤ n ∧ n ≤ 5 ∧ (∀ g ∈ gs, 1 ≤ g ∧ g ≤ 30) ∧ sts.length = n ∧ (∀ s ∈ sts, 0 ≤ s ∧ Sz 1750 s) ∧ hv.length ≤ 5 ∧
  (∀ q ∈ hv, 0 ≤ q.1 ∧ q.1 ≤ ((gs.sum : Int) : Rat) ∧ 0 < q.2 ∧ Sz 100 q.1 ∧ Sz 100 q.2) ∧ ∀ H' d' W, Same H H' → Wo K H' d' W → WW W → Q (.ref d') H'
abbrev N_law_fine : List Str := ["_law_digits_here", "_law_world_here", "_law_number", "_law_one", "_law_bottom", "_law_spot", "_law_at", "_law_strong", "_law_found"]
theorem sc_law_fine : FnScope N_law_fine ["_law_digits_here", "_law_world_here"] (defScope s_law_fine) := ⟨rfl, rfl, rfl, by decide +kernel, rfl, by decide +kernel, by decide +kernel⟩
theorem ok_lfine (G : Gd K mg "_law_fine" s_law_fine) (B : Bt mg) (D_law_cut : Df P w K mg base "_law_cut" ["_law_top", "_law_bottom"] 1 (spCut K)) (D_law_plus : Df P w K mg base "_law_plus" ["_law_one", "_law_other"] 2 (sp2 K (· + ·) any2)) :
    Df P w K mg base "_law_fine" ["_law_digits_here", "_law_world_here"] 3 (spFine K) := by
  refine df_mk G sc_law_fine (fun vs H Q E h => by obtain ⟨_, _, _, _, _, _, _, rfl, _⟩ := h; rfl) (fun _ _ _ _ _ _ us hl => match us, hl with | [_, _], _ => rfl) (fun f cdv A' outer sh H vs Q E hr h => ?_)
  obtain ⟨dl, d, m, gs, n, sts, hv, rfl, dg, m12, wo, lg, n1, n5, hg, ls, bs, lh, bh, k⟩ := h
  have hu := hu_of hr
  refine ⟨_, (pss_cons (ps_set (i := 2) sc_law_fine.nd rfl (by first | exact Or.inl rfl | exact Or.inr rfl) pe_int)
    (pss_cons (ps_for PassesOwn.never rfl (pi_list (pe_slice (r := rSlL K) sl_list (pv 0) po_none (po_some pe_int))) (pg_name (i := 3) sc_law_fine.nd rfl (by first | exact Or.inl rfl | exact Or.inr rfl))
    (pss_one (ps_set (i := 2) sc_law_fine.nd rfl (by first | exact Or.inl rfl | exact Or.inr rfl) (pe_op op_add (pe_op op_mulW (pv 2) pe_int) (pv 3)))))
    (pss_cons (ps_set (i := 4) sc_law_fine.nd rfl (by first | exact Or.inl rfl | exact Or.inr rfl) (pe_op op_add (pe_op op_pow pe_int pe_int) (pv 2)))
    (pss_cons (ps_set (i := 5) sc_law_fine.nd rfl (by first | exact Or.inl rfl | exact Or.inr rfl) (pcall D_law_cut hr (by decide) (by rfl) (pa_cons (pe_op op_mod (pe_callTy call_int1 (by rfl) B.int (by decide +kernel) (pa_cons (pe_op op_mulW (pv 2) pe_int) pa_nil)) (pe_op op_add (pe_op op_mulW (pe_dget hu (pv 1) pe_str (fun _ _ => rfl)) (pv 4)) pe_int)) (pa_cons (pv 4) pa_nil))))
    (pss_cons (ps_set (i := 6) sc_law_fine.nd rfl (by first | exact Or.inl rfl | exact Or.inr rfl) (pe_op op_mod (pe_callTy call_int1 (by rfl) B.int (by decide +kernel) (pa_cons (pe_ix (r := rIxL K) ix_list (pv 0) pe_int (fun _ _ => rfl)) pa_nil)) (pe_callB call_len_seq (by rfl) B.len (by decide +kernel) (pa_cons (pe_dget hu (pv 1) pe_str (fun _ _ => rfl)) pa_nil))))
    (pss_cons (ps_set (i := 7) sc_law_fine.nd rfl (by first | exact Or.inl rfl | exact Or.inr rfl) (pe_callTy call_list_of (by rfl) B.list_ (by decide +kernel) (pa_cons (pe_dget hu (pv 1) pe_str (fun _ _ => rfl)) pa_nil)))
    (pss_cons (ps_asg (pcall D_law_plus hr (by decide) (by rfl) (pa_cons (pe_ix (r := rIxL K) ix_list (pv 7) (pv 6) (fun _ _ => rfl)) (pa_cons (pcall D_law_cut hr (by decide) (by rfl) (pa_cons (pv 2) (pa_cons (pe_op op_add (pv 4) pe_int) pa_nil))) pa_nil))) (pg_sub (pv 7) (pv 6) set_list))
    (pss_cons (ps_set (i := 8) sc_law_fine.nd rfl (by first | exact Or.inl rfl | exact Or.inr rfl) (pe_callTy call_dictD (by rfl) B.dict (by decide +kernel) (pa_cons (pv 1) pa_nil)))
    (pss_cons (ps_dput hu (pv 8) pe_str (pe_op op_cat (pe_dget hu (pv 1) pe_str (fun _ _ => rfl)) (pe_lst (pa_cons (pe_tup (pa_cons (pv 5) (pa_cons (pcall D_law_cut hr (by decide) (by rfl) (pa_cons (pe_op op_mulW (pv 2) pe_int) (pa_cons (pe_op op_add (pv 4) pe_int) pa_nil))) pa_nil))) pa_nil))) rfl)
    (pss_cons (ps_dput hu (pv 8) pe_str (pv 7) rfl)
    (pss_one (ps_ret (pv 8))))))))))))), ?_⟩
  obtain ⟨ds, hds, lds, bds⟩ := dg.ex
  refine ⟨_, rfl, 9, rfl, dl, _, rfl, hds, fun T hT => ?_⟩
  have s1 := same_new (o := .lst (cutV (ds.map V.int) none (some 9))) hT
  have eT : (upd H T (.lst (cutV (ds.map V.int) none (some 9)))) T = some (.lst ((ds.take 9).map V.int)) := by
    rw [upd_same, show (9 : Int) = ((9 : Nat) : Int) by rfl, cutTo, List.map_take]
  generalize upd H T (.lst (cutV (ds.map V.int) none (some 9))) = H1 at s1 eT
  refine ⟨T, rfl, ⟨_, SqL.of eT⟩, for_list (K := K) (a := T) (xs := (ds.take 9).map V.int) (fun i σ H' => H' = H1 ∧ ∃ (N : Int) (x3 : Option V), σ = [some (.ref dl), some (.ref d), some (.int N), x3, none, none, none, none, none] ∧ 0 < N ∧ N + 1 ≤ 2 * 1009 ^ i) ⟨rfl, 1, _, rfl, by decide, by decide⟩ (fun i σ H' _ I => by rw [I.1]; exact SqL.of eT) (fun i y σ H' hy I => ?_) (fun σ H' I => ?_)⟩
  · obtain ⟨rfl, N, x3, rfl, p0, p1⟩ := I
    rw [List.getElem?_map] at hy
    obtain ⟨one, ho, rfl⟩ := Option.map_eq_some_iff.mp hy
    have hi : i < 9 := by
      have := (List.getElem?_eq_some_iff.mp ho).1
      rw [List.length_take] at this
      omega
    have hb := bds one (List.mem_of_mem_take (List.mem_of_getElem? ho))
    have pp : (1009 : Int) ^ i ≤ 1009 ^ 9 := by exact_mod_cast Nat.pow_le_pow_right (show 0 < 1009 by decide) (show i ≤ 9 by omega)
    have pq : (2 : Int) * 1009 ^ 9 < 2 ^ 91 := by decide
    have nn : N.natAbs < 2 ^ 91 := by
      have : N < 2 ^ 91 := by omega
      omega
    refine ⟨_, rfl, _, _, rfl, rfl, mulW (m := 91) (n := 10) nn (by decide) (by decide), _, rfl, _, _, rfl, rfl, rfl, _, _, rfl, by omega, ?_⟩
    rw [Int.pow_succ]
    omega
  · obtain ⟨rfl, N, x3, rfl, p0, p1⟩ := I
    have l9 : ((ds.take 9).map V.int).length = 9 := by rw [List.length_map, List.length_take]; omega
    rw [l9] at p1
    have pq : (2 : Int) * 1009 ^ 9 < 2 ^ 91 := by decide
    have N91 : N < 2 ^ 91 := by omega
    obtain ⟨kvs, sl, hl, tl, refs, frs, e1, e2, e3, e4, e5, e6, e7, e8, e9, e10⟩ := (wo.same s1).ex
    rw [mkW_snd ls] at e10
    rw [mkW_fst] at e4
    have e7 : Paired (Wt K H') refs hv := e7
    have e2 : valV kvs (.inr ("long" : Str)) = some (.int gs.sum) := e2
    have O0 : (mkW gs n sts hv).Ok := mkW_ok lg n1 n5 (fun g hg' => (hg g hg').1) (fun g hg' => (hg g hg').2) (fun s hs => ⟨(bs s hs).1, (bs s hs).2.mono (by decide)⟩) (by omega) (fun q hq => by
      obtain ⟨z1, z2, z3, z4, z5⟩ := bh q hq
      exact ⟨z1, z2, z3, z4.mono (by decide), z5.mono (by decide)⟩)
    have g2 : 2 ≤ gs.sum := O0.l2
    have g1000 : gs.sum ≤ 1000 := O0.lm
    have p30 : (10 : Int) ^ (30 : Int).toNat = 10 ^ 30 := by decide
    refine ⟨_, _, rfl, rfl, ⟨by decide, by decide, by decide⟩, _, rfl, _, _, rfl, rfl, ?_⟩
    dsimp only
    rw [p30]
    obtain ⟨Bt', hBt⟩ : ∃ b : Int, b = 10 ^ 30 + N := ⟨_, rfl⟩
    rw [← hBt]
    have B0 : 0 < Bt' := by rw [hBt]; have h30 : (0 : Int) < 10 ^ 30 := (by decide); omega
    have B101 : Bt' < 2 ^ 101 := by rw [hBt]; have h30 : (10 : Int) ^ 30 + 2 ^ 91 < 2 ^ 101 := (by decide); omega
    have nB : Bt'.natAbs < 2 ^ 101 := by omega
    have nN : N.natAbs < 2 ^ 91 := by omega
    have sum10 : gs.sum.natAbs < 2 ^ 10 := by show _ < 1024; omega
    have mb : gs.sum * Bt' < 2 ^ 111 := by
      have := Int.mul_le_mul g1000 (Int.le_of_lt B101) (by omega) (by decide)
      have e : (1000 : Int) * 2 ^ 101 < 2 ^ 111 := by decide
      omega
    have mp : 0 < gs.sum * Bt' := Int.mul_pos (by omega) B0
    -- the spot
    refine ⟨_, rfl, _, _, rfl, rfl, mulW (m := 91) (n := 13) nN (by decide) (by decide), .inl ⟨_, rfl, _, rfl, d, _, rfl, getK e1 e2, _, rfl, _, _, rfl, rfl, mulW (m := 10) (n := 101) sum10 nB (by decide), _, _, rfl, rfl, _, _, rfl, rfl, (show (0 : Int) < gs.sum * Bt' + 1 by omega), _, rfl, _, _, rfl, B0, pow_up (m := 101) (by decide) nB, fun H2 v2 s2 f2 => ?_⟩⟩
    have t0 := Int.emod_nonneg (N * 7919) (show gs.sum * Bt' + 1 ≠ 0 by omega)
    have t1 := Int.emod_lt_of_pos (N * 7919) (show 0 < gs.sum * Bt' + 1 by omega)
    have sp1 := cut_in (L := gs.sum) t0 B0 (by omega)
    have sz1 : Sz 128 (((N * 7919 % (gs.sum * Bt' + 1) : Int) : Rat) / (Bt' : Rat)) := cut_sz B0 (pow_up (m := 112) (by decide) (by have h112 : (2 : Int) ^ 111 < 2 ^ 112 := (by decide); omega)) (pow_up (m := 101) (by decide) nB)
    generalize ((N * 7919 % (gs.sum * Bt' + 1) : Int) : Rat) / (Bt' : Rat) = spq at sp1 sz1 f2
    have f2 : Fr K H2 v2 spq := f2
    have s02 := s1.trans s2
    -- where it is stronger
    obtain ⟨xs11, d11, y11, a11, b11, c11⟩ := (dg.same s02).get (j := 11) (by decide) (by omega)
    have en : ((((spotsOf gs n).map V.int).length : Nat) : Int) = (n : Int) := by simp [spotsOf]
    have u0 := Int.emod_nonneg d11 (show (n : Int) ≠ 0 by omega)
    have u1 := Int.emod_lt_of_pos d11 (show 0 < (n : Int) by omega)
    refine ⟨_, rfl, dl, _, 11, _, rfl, rfl, y11, a11, .inl ⟨_, rfl, _, rfl, d, _, rfl, getK (s2 _ _ e1) e3, sl, _, rfl, .inl (SqL.of (s2 _ _ e4)), _, _, rfl, rfl, (by rw [en]; omega), ?_⟩⟩
    dsimp only
    rw [en]
    generalize d11 % (n : Int) = at' at u0 u1
    refine ⟨_, rfl, d, _, rfl, getK (s2 _ _ e1) e8, tl, _, rfl, .inl (SqL.of (s2 _ _ e9)), fun SL hSL => ?_⟩
    have g3 := same_new (o := .lst frs) hSL
    have eSL : (upd H2 SL (.lst frs)) SL = some (.lst frs) := upd_same
    have s03 := s02.trans g3
    have s23 := s2.trans g3
    have f3 := f2.same g3
    have fr3 := Frs.keep (Same.keep s23) e10
    have SL0 := s02.free hSL
    generalize upd H2 SL (.lst frs) = H3 at g3 eSL s03 s23 f3 fr3
    have lfr : frs.length = n := by rw [Paired.length e10, ls]
    have hat : at'.toNat < frs.length := by omega
    obtain ⟨st, hst, fst⟩ := Paired.get? fr3 (List.getElem?_eq_getElem hat)
    have bst := bs st (List.mem_of_getElem? hst)
    have b2 : 0 < Bt' + 2 := by omega
    have n2 : (Bt' + 2).natAbs < 2 ^ 102 := by have h2 : (2 : Int) ^ 101 + 2 < 2 ^ 102 := (by decide); omega
    refine ⟨_, rfl, _, rfl, SL, _, _, _, rfl, rfl, SqL.of eSL, at_of (j := at'.toNat) (by omega) (List.getElem?_eq_getElem hat), _, rfl, _, rfl, _, _, rfl, rfl, _, _, rfl, b2, pow_up (m := 102) (by decide) n2, fun H4 v4 s4 f4 => ?_⟩
    have z4 : Sz 102 ((N : Rat) / ((Bt' + 2 : Int) : Rat)) := cut_sz b2 (pow_up (m := 91) (by decide) nN) n2
    have p4 := cut_pos (t := N) (b := Bt' + 2) p0 b2
    have f4 : Fr K H4 v4 ((N : Rat) / ((Bt' + 2 : Int) : Rat)) := f4
    generalize (N : Rat) / ((Bt' + 2 : Int) : Rat) = ex at z4 p4 f4
    refine ⟨_, v4, st, ex, rfl, fst.same s4, f4, ⟨_, _, bst.2, z4, by decide⟩, trivial, fun H5 v5 s5 f5 => ?_⟩
    have f5 : Fr K H5 v5 (st + ex) := f5
    have s35 := s4.trans s5
    have eSL5 := s35 _ _ eSL
    refine ⟨_, rfl, _, rfl, SL, frs, at', at'.toNat, rfl, rfl, eSL5, ixN_of u0 (by omega), ?_⟩
    have kp5 : Keep H5 (upd H5 SL (.lst (frs.set at'.toNat v5))) := Keep.upd (by rw [eSL5]; exact trivial)
    have s05 := same_mut (o := .lst (frs.set at'.toNat v5)) (s03.trans s35) SL0
    have eSL6 : (upd H5 SL (.lst (frs.set at'.toNat v5))) SL = some (.lst (frs.set at'.toNat v5)) := upd_same
    have kpp := ((Same.keep s23).trans (Same.keep s35)).trans kp5
    have fr6 : Frs K (upd H5 SL (.lst (frs.set at'.toNat v5))) (frs.set at'.toNat v5) (sts.set at'.toNat (st + ex)) := Paired.set (f5.keep kp5) _ (Frs.keep kpp e10)
    have f36 := (f3.keep (Same.keep s35)).keep kp5
    have pw6 : Paired (Wt K (upd H5 SL (.lst (frs.set at'.toNat v5)))) refs hv := Paired.mapP e7 fun _ _ z => z.keep kpp
    have old : ∀ b u, b ≠ SL → H' b = some u → (upd H5 SL (.lst (frs.set at'.toNat v5))) b = some u := fun b u nb e => by rw [upd_ne nb]; exact s35 _ _ (s23 _ _ e)
    have H'SL : H' SL = none := s2.free hSL
    have e16 := old _ _ (ne_of_none e1 H'SL) e1
    have e46 := old _ _ (ne_of_none e4 H'SL) e4
    have e66 := old _ _ (ne_of_none e6 H'SL) e6
    generalize upd H5 SL (.lst (frs.set at'.toNat v5)) = H6 at s05 eSL6 fr6 f36 pw6 e16 e46 e66
    -- the copy
    refine ⟨_, rfl, d, kvs, rfl, .inl e16, fun FD hFD => ?_⟩
    have gF := same_new (o := .dK kvs) hFD
    have eFD : (upd H6 FD (.dK kvs)) FD = some (.dK kvs) := upd_same
    have FD0 := s05.free hFD
    have s07 := s05.trans gF
    have f37 := f36.same gF
    have eSL7 := gF _ _ eSL6
    have e17 := gF _ _ e16
    have e67 := gF _ _ e66
    have e47 := gF _ _ e46
    have pw7 : Paired (Wt K (upd H6 FD (.dK kvs))) refs hv := Paired.mapP pw6 fun _ _ z => z.keep (Same.keep gF)
    have fr7 := Frs.keep (Same.keep gF) fr6
    generalize upd H6 FD (.dK kvs) = H7 at gF eFD s07 f37 eSL7 e17 e67 e47 pw7 fr7
    have b1 : 0 < Bt' + 1 := by omega
    have nb1 : (Bt' + 1).natAbs < 2 ^ 102 := by have h2 : (2 : Int) ^ 101 + 1 < 2 ^ 102 := (by decide); omega
    refine ⟨_, rfl, d, _, rfl, getK e17 e5, _, rfl, _, rfl, _, _, rfl, rfl, mulW (m := 91) (n := 10) nN (by decide) (by decide), _, rfl, _, _, rfl, rfl, _, _, rfl, b1, pow_up (m := 102) (by decide) nb1, fun H8 v8 s8 f8 => ⟨by show 2 ≤ sizeLine; decide, fun T8 hT8 => ⟨by show 1 ≤ sizeLine; decide, fun A8 hA8 => ?_⟩⟩⟩
    have z8 : Sz 128 (((N * 1009 : Int) : Rat) / ((Bt' + 1 : Int) : Rat)) := cut_sz b1 (pow_up (m := 101) (by decide) (wide_lt (a := 91) (b := 10) nN (by decide))) (pow_up (m := 102) (by decide) nb1)
    have p8 := cut_pos (t := N * 1009) (b := Bt' + 1) (by omega) b1
    have f8 : Fr K H8 v8 (((N * 1009 : Int) : Rat) / ((Bt' + 1 : Int) : Rat)) := f8
    generalize ((N * 1009 : Int) : Rat) / ((Bt' + 1 : Int) : Rat) = mq at z8 p8 f8
    have gT := same_new (o := .tup [v2, v8]) hT8
    have eT8 : (upd H8 T8 (.tup [v2, v8])) T8 = some (.tup [v2, v8]) := upd_same
    have gA := same_new (o := .lst [V.ref T8]) hA8
    have eA8 : (upd (upd H8 T8 (.tup [v2, v8])) A8 (.lst [V.ref T8])) A8 = some (.lst [V.ref T8]) := upd_same
    have s79 := (s8.trans gT).trans gA
    have wt8 : Wt K (upd (upd H8 T8 (.tup [v2, v8])) A8 (.lst [V.ref T8])) (.ref T8) (spq, mq) := ⟨T8, v2, v8, rfl, SqT.of (gA _ _ eT8), f37.same s79, (f8.same gT).same gA⟩
    have e69 := s79 _ _ e67
    have lrf := Paired.length e7
    refine ⟨hl, A8, _, _, rfl, rfl, e69, eA8, small (by show refs.length + 1 ≤ 100000; omega), fun NL hNL => ?_⟩
    have gN := same_new (o := .lst (refs ++ [V.ref T8])) hNL
    have eNL : (upd (upd (upd H8 T8 (.tup [v2, v8])) A8 (.lst [V.ref T8])) NL (.lst (refs ++ [V.ref T8]))) NL = some (.lst (refs ++ [V.ref T8])) := upd_same
    have s7n := s79.trans gN
    have wtn := wt8.keep (Same.keep gN)
    generalize upd (upd (upd H8 T8 (.tup [v2, v8])) A8 (.lst [V.ref T8])) NL (.lst (refs ++ [V.ref T8])) = H9 at gN eNL s7n wtn
    have eFD9 := s7n _ _ eFD
    obtain ⟨kvl, l1, l2⟩ := wo.len
    have ekv : kvl = kvs := by
      have := s1 _ _ l1
      rw [e1] at this
      cases this
      rfl
    subst ekv
    refine ⟨_, rfl, FD, _, rfl, DPut.k (k := .inr ("heavy" : Str)) eFD9 (small_lt (by omega)), ?_⟩
    have kq1 : Keep H9 (upd H9 FD (.dK (putK kvl (.inr ("heavy" : Str)) (.ref NL)))) := Keep.upd (by rw [eFD9]; exact trivial)
    have lk1 := putK_old (v := .ref NL) e5
    refine ⟨_, rfl, _, rfl, FD, _, rfl, DPut.k (k := .inr ("strong" : Str)) upd_same (small_lt (by omega)), ?_⟩
    rw [upd_upd]
    have kq : Keep H9 (upd H9 FD (.dK (putK (putK kvl (.inr ("heavy" : Str)) (.ref NL)) (.inr ("strong" : Str)) (.ref SL)))) := Keep.upd (by rw [eFD9]; exact trivial)
    have e8' : valV (putK kvl (.inr ("heavy" : Str)) (.ref NL)) (.inr ("strong" : Str)) = some (.ref tl) := by rw [valV_put]; exact e8
    have lk2 := putK_old (v := .ref SL) e8'
    have nSLF : SL ≠ FD := by rintro rfl; rw [eFD] at eSL7; cases eSL7
    have nslF : sl ≠ FD := by rintro rfl; rw [eFD] at e47; cases e47
    have nNLF : NL ≠ FD := by rintro rfl; rw [s79 _ _ eFD] at hNL; cases hNL
    have lset : (sts.set at'.toNat (st + ex)).length = n := by rw [List.length_set, ls]
    have O1 : (mkW gs n (sts.set at'.toNat (st + ex)) (hv ++ [(spq, mq)])).Ok := mkW_ok lg n1 n5 (fun g hg' => (hg g hg').1) (fun g hg' => (hg g hg').2) (fun s hs => by
        rcases List.mem_or_eq_of_mem_set hs with hs | hs
        · exact ⟨(bs s hs).1, (bs s hs).2.mono (by decide)⟩
        · rw [hs]
          exact ⟨by have := bst.1; grind, (bst.2.add z4).mono (by decide)⟩) (by rw [List.length_append]; show hv.length + 1 ≤ 6; omega) (fun q hq => by
        rcases List.mem_append.mp hq with hq | hq
        · obtain ⟨z1, z2, z3, z4, z5⟩ := bh q hq
          exact ⟨z1, z2, z3, z4.mono (by decide), z5.mono (by decide)⟩
        · rw [List.mem_singleton.mp hq]
          exact ⟨sp1.1, sp1.2, p8, sz1, z8⟩)
    refine ⟨_, rfl, k _ FD (mkW gs n (sts.set at'.toNat (st + ex)) (hv ++ [(spq, mq)])) (same_mut (s07.trans s7n) FD0) ⟨⟨_, sl, NL, SL, refs ++ [V.ref T8], frs.set at'.toNat v5, upd_same, ?_, ?_, ?_, ?_, ?_, ?_, ?_, ?_, ?_⟩, ⟨_, upd_same, by omega⟩⟩ ⟨O1, by rw [mkW_n]; omega, by rw [mkW_n]; omega⟩⟩
    · rw [valV_put, valV_put]; exact e2
    · rw [valV_put, valV_put]; exact e3
    · rw [upd_ne nslF, mkW_fst]; exact s7n _ _ e47
    · rw [valV_put, valV_put]; rfl
    · rw [upd_ne nNLF]; exact eNL
    · exact Paired.snoc (wtn.keep kq) (Paired.mapP pw7 fun _ _ z => z.keep ((Same.keep s7n).trans kq))
    · rw [valV_put]; rfl
    · rw [upd_ne nSLF]; exact s7n _ _ eSL7
    · rw [mkW_snd lset]; exact Frs.keep ((Same.keep s7n).trans kq) fr7
end Pf
end

section
namespace Pf
open PySem PySem.Spec PyProof.Rows L2
variable {P : Program} {w : World} {K : PySem.W.Frag} {mg : Str → Option Value} {base : Heap} {a : Ad}
theorem frs_of {Pr : Rat → Prop} {H : Hp} : ∀ ys : List V, (∀ (k : Nat) y, ys[k]? = some y → ∃ q, Fr K H y q ∧ Pr q) → ∃ qs, Frs K H ys qs ∧ ∀ q ∈ qs, Pr q
  | [], _ => ⟨[], .nil, fun _ z => nomatch z⟩
  | y :: ys, h => by
    obtain ⟨q, hq, pq⟩ := h 0 y rfl
    obtain ⟨qs, h1, h2⟩ := frs_of ys fun k z hz => h (k + 1) z hz
    exact ⟨q :: qs, .cons hq h1, fun x hx => by
      rcases List.mem_cons.mp hx with e | hx
      · rw [e]; exact pq
      · exact h2 x hx⟩
theorem wts_of {Pr : Rat × Rat → Prop} {H : Hp} : ∀ ys : List V, (∀ (k : Nat) y, ys[k]? = some y → ∃ q, Wt K H y q ∧ Pr q) → ∃ qs, Paired (Wt K H) ys qs ∧ ∀ q ∈ qs, Pr q
  | [], _ => ⟨[], .nil, fun _ z => nomatch z⟩
  | y :: ys, h => by
    obtain ⟨q, hq, pq⟩ := h 0 y rfl
    obtain ⟨qs, h1, h2⟩ := wts_of ys fun k z hz => h (k + 1) z hz
    exact ⟨q :: qs, .cons hq h1, fun x hx => by
      rcases List.mem_cons.mp hx with e | hx
      · rw [e]; exact pq
      · exact h2 x hx⟩
/-- a plank with no props: nothing stands, nothing falls -/
theorem told_bare {W : Wd} (x : Rat) (h : W.ps = []) : W.told x = [([], [], none)] := by
  have hn : W.n = 0 := by show W.ps.length = 0; rw [h]; rfl
  have ha : allP W.n = [] := by rw [hn]; rfl
  have hb : ∀ F : Fail, settle F W.n (allP W.n) = ([], []) := fun F => by
    rw [ha]
    exact settle_nil rfl
  rw [Wd.told, hb]
  exact parts_none rfl
def spBare (K : PySem.W.Frag) : Sp := fun vs H Q _ => ∃ (dl : Addr) (n : Nat), vs = [.ref dl] ∧ Dg K H dl n ∧ 9 ≤ n ∧ ∀ H', Same H H' → Q (.bl true) H'
abbrev N_law_bare_right : List Str := ["_law_digits_here", "_law_long", "_law_spots", "_law_heavy_here", "_law_plank", "_law_spot", "_law_told", "_law_k"]
theorem sc_law_bare_right : FnScope N_law_bare_right ["_law_digits_here"] (defScope s_law_bare_right) := ⟨rfl, rfl, rfl, by decide +kernel, rfl, by decide +kernel, by decide +kernel⟩
theorem ok_lbare (G : Gd K mg "_law_bare_right" s_law_bare_right) (B : Bt mg) (C : Ct K mg a) (D_law_cut : Df P w K mg base "_law_cut" ["_law_top", "_law_bottom"] 1 (spCut K)) (D_Plank_init : If P w K mg base a.Pi ["self", "length", "props", "bend"] [.non] 6 (spPlankInit K a))
    (D_further : Df P w K mg base "further" ["plank", "weights", "place"] 12 (spFurther K a)) (D_is_further : Df P w K mg base "is_further" ["plank", "weights", "place", "thing"] 12 (spIsFurther K a)) : Df P w K mg base "_law_bare_right" ["_law_digits_here"] 13 (spBare K) := by
  refine df_mk G sc_law_bare_right (fun vs H Q E h => by obtain ⟨_, _, rfl, _⟩ := h; rfl) (fun _ _ _ _ _ _ us hl => match us, hl with | [_], _ => rfl) (fun f cdv A' outer sh H vs Q E hr h => ?_)
  obtain ⟨dl, n, rfl, dg, n9, k⟩ := h
  have hu := hu_of hr
  refine ⟨_, (pss_cons (ps_set (i := 1) sc_law_bare_right.nd rfl (by first | exact Or.inl rfl | exact Or.inr rfl) (pe_op op_add pe_int (pe_op op_mod (pe_callTy call_int1 (by rfl) B.int (by decide +kernel) (pa_cons (pe_ix (r := rIxL K) ix_list (pv 0) pe_int (fun _ _ => rfl)) pa_nil)) pe_int)))
    (pss_cons (ps_setLcX (i := 2) (own := [("_law_k", 7)]) (g := gName 7) rfl sc_law_bare_right.nd rfl (pi_range1 (by rfl) B.range (pa_cons (pe_op op_mod (pe_callTy call_int1 (by rfl) B.int (by decide +kernel) (pa_cons (pe_ix (r := rIxL K) ix_list (pv 0) pe_int (fun _ _ => rfl)) pa_nil)) pe_int) pa_nil)) (blkOk_by (N := N_law_bare_right) (sc := defScope s_law_bare_right) (by decide +kernel)) (fun _ _ _ _ _ => (pg_name (i := 7) sc_law_bare_right.nd rfl (by first | exact Or.inl rfl | exact Or.inr rfl))) (fun _ _ _ _ _ => pts_nil) (fun _ _ _ _ _ => (pcall D_law_cut hr (by decide) (by rfl) (pa_cons (pe_op op_mod (pe_callTy call_int1 (by rfl) B.int (by decide +kernel) (pa_cons (pe_ix (r := rIxL K) ix_list (pv 0) (pe_op op_add pe_int (pv 7)) (fun _ _ => rfl)) pa_nil)) (pe_op op_add (pe_op op_mulW pe_int (pv 1)) pe_int)) (pa_cons pe_int pa_nil)))))
    (pss_cons (ps_setLcX (i := 3) (own := [("_law_k", 7), ("_law_spot", 5)]) (g := gTup K 2 (gCons (gName 7) (gCons (gName 5) gNil))) rfl sc_law_bare_right.nd rfl (pi_enum (by rfl) B.enumerate (pa_cons (pv 2) pa_nil)) (blkOk_by (N := N_law_bare_right) (sc := defScope s_law_bare_right) (by decide +kernel)) (fun _ _ _ _ _ => (pg_tup (by rfl) (pgs_cons (pg_name (i := 7) sc_law_bare_right.nd rfl (by first | exact Or.inl rfl | exact Or.inr rfl)) (pgs_cons (pg_name (i := 5) sc_law_bare_right.nd rfl (by first | exact Or.inl rfl | exact Or.inr rfl)) pgs_nil)))) (fun _ _ _ _ _ => pts_nil) (fun _ _ _ _ _ => (pe_tup (pa_cons (pv 5) (pa_cons (pe_tup (pa_cons (pe_op op_add pe_int (pe_op op_mod (pe_callTy call_int1 (by rfl) B.int (by decide +kernel) (pa_cons (pe_ix (r := rIxL K) ix_list (pv 0) (pe_op op_add pe_int (pv 7)) (fun _ _ => rfl)) pa_nil)) pe_int)) (pa_cons pe_int pa_nil))) pa_nil)))))
    (pss_cons (ps_set (i := 4) sc_law_bare_right.nd rfl (by first | exact Or.inl rfl | exact Or.inr rfl) (pmake D_Plank_init C.mkP hr (by decide) (by rfl) C.gP (pa_cons (pv 1) (pa_cons (pe_lst pa_nil) pa_nil))))
    (pss_cons (ps_set (i := 5) sc_law_bare_right.nd rfl (by first | exact Or.inl rfl | exact Or.inr rfl) (pcall D_law_cut hr (by decide) (by rfl) (pa_cons (pe_op op_mod (pe_callTy call_int1 (by rfl) B.int (by decide +kernel) (pa_cons (pe_ix (r := rIxL K) ix_list (pv 0) pe_int (fun _ _ => rfl)) pa_nil)) (pe_op op_add (pe_op op_mulW pe_int (pv 1)) pe_int)) (pa_cons pe_int pa_nil))))
    (pss_cons (ps_set (i := 6) sc_law_bare_right.nd rfl (by first | exact Or.inl rfl | exact Or.inr rfl) (pcall D_further hr (by decide) (by rfl) (pa_cons (pv 4) (pa_cons (pv 3) (pa_cons (pv 5) pa_nil)))))
    (pss_one (ps_ret (pe_and (pe_cmpR (op_eqD hr.units) (pv 6) (pe_lst (pa_cons (pe_tup (pa_cons (pe_lst pa_nil) (pa_cons (pe_tup pa_nil) (pa_cons pe_non pa_nil)))) pa_nil)) (nomark _)) (pe_one (pe_cmpR op_isBl (pcall D_is_further hr (by decide) (by rfl) (pa_cons (pv 4) (pa_cons (pv 3) (pa_cons (pv 5) (pa_cons (pv 6) pa_nil))))) pe_bl (nomark _)))))))))))), ?_⟩
  obtain ⟨xs0, d0, y0, a0, b0, c0⟩ := dg.get (j := 0) (by decide) (by omega)
  have m0 := Int.emod_nonneg d0 (show (9 : Int) ≠ 0 by decide)
  have m1 := Int.emod_lt_of_pos d0 (show (0 : Int) < 9 by decide)
  refine ⟨_, rfl, dl, _, 0, _, rfl, rfl, y0, a0, .inl ⟨_, rfl, _, _, rfl, rfl, (show (0 : Int) < 9 by decide), _, _, rfl, rfl, ?_⟩⟩
  dsimp only
  obtain ⟨L, hL⟩ : ∃ L : Int, L = 2 + d0 % 9 := ⟨_, rfl⟩
  rw [← hL]
  have L2 : 2 ≤ L := by omega
  have L10 : L ≤ 10 := by omega
  clear hL m0 m1
  obtain ⟨xs1, d1, y1, a1, b1, c1⟩ := dg.get (j := 1) (by decide) (by omega)
  have q0 := Int.emod_nonneg d1 (show (3 : Int) ≠ 0 by decide)
  have q1 := Int.emod_lt_of_pos d1 (show (0 : Int) < 3 by decide)
  refine ⟨_, rfl, dl, _, 1, _, rfl, rfl, y1, a1, .inl ⟨_, rfl, _, _, rfl, rfl, (show (0 : Int) < 3 by decide), _, rfl, (show -(2 ^ 62) ≤ d1 % 3 by omega), (show d1 % 3 < 2 ^ 62 by omega), fun SP hSP => ?_⟩⟩
  refine lc_each (w := walk_range (lo := 0) (n := (d1 % 3).toNat)) hSP (by omega) (fun _ y H' => ∃ q, Fr K H' y q ∧ 0 ≤ q ∧ q ≤ (L : Rat) ∧ Sz 100 q) (fun _ _ _ _ kp z => by obtain ⟨q, h1, h2⟩ := z; exact ⟨q, h1.keep kp, h2⟩) (fun _ _ => trivial) (fun i y H2 H3 hi s' hy Q' k' => ?_) (fun H2 g => ?_)
  · obtain ⟨rfl, rfl⟩ := hy
    obtain ⟨xs2, d2, y2, a2, b2, c2⟩ := (dg.same s').get (j := 2 + (0 + (i : Nat))) (by omega) (by omega)
    have t0 := Int.emod_nonneg d2 (show 2 * L + 1 ≠ 0 by omega)
    have t1 := Int.emod_lt_of_pos d2 (show 0 < 2 * L + 1 by omega)
    refine ⟨rfl, _, rfl, _, rfl, _, _, rfl, rfl, dl, _, _, _, rfl, rfl, y2, a2, .inl ⟨_, rfl, _, rfl, _, _, rfl, rfl, mul64 (by decide) (by omega), _, _, rfl, rfl, _, _, rfl, rfl, (show 0 < 2 * L + 1 by omega), _, _, rfl, by decide, pow_up (m := 2) (by decide) (by decide), fun H4 v4 s4 f4 => k' _ _ s4 ⟨_, f4, ?_⟩⟩⟩
    have sp1 := cut_in (t := d2 % (2 * L + 1)) (b := 2) (L := L) t0 (by decide) (by omega)
    exact ⟨sp1.1, sp1.2, cut_sz (by decide) (pow_up (m := 5) (by decide) (by show _ < 32; omega)) (pow_up (m := 2) (by decide) (by decide))⟩
  obtain ⟨s2, ys, eSP, ly, hys⟩ := g
  have lys : ys.length ≤ 2 := by rw [ly]; omega
  -- the weights
  refine ⟨_, rfl, SP, ys, rfl, SqL.of eSP, fun HV hHV => ?_⟩
  refine lc_each (w := walk_enum (K := K) (a := SP) (xs := ys)) hHV (by omega) (fun _ y H' => ∃ q : Rat × Rat, Wt K H' y q ∧ 0 ≤ q.1 ∧ q.1 ≤ (L : Rat) ∧ 0 < q.2 ∧ Sz 128 q.1 ∧ Sz 128 q.2) (fun _ _ _ _ kp z => by obtain ⟨q, h1, h2⟩ := z; exact ⟨q, h1.keep kp, h2⟩) (fun H' s => sql_same s (SqL.of eSP)) (fun i y H3 H4 hi s' hy Q' k' => ?_) (fun H3 g => ?_)
  · obtain ⟨T, u, z, rfl, hT, rfl, hu', hz⟩ := hy
    cases hu'
    have hz : ys[i]? = some z := hz
    obtain ⟨q, fq, q0', q1', zq⟩ := hys i z hz
    have sT := same_new (o := .tup [V.int (i : Nat), z]) hT
    obtain ⟨xs5, d5, y5, a5, b5, c5⟩ := (dg.same ((s2.trans s').trans sT)).get (j := 5 + (i : Nat)) (by omega) (by omega)
    have r0 := Int.emod_nonneg d5 (show (5 : Int) ≠ 0 by decide)
    have r1 := Int.emod_lt_of_pos d5 (show (0 : Int) < 5 by decide)
    refine ⟨T, _, rfl, SqT.of upd_same, rfl, _, _, rfl, _, _, rfl, rfl, rfl, _, rfl, _, rfl, _, rfl, _, _, rfl, rfl, dl, _, _, _, rfl, rfl, y5, a5, .inl ⟨_, rfl, _, _, rfl, rfl, (show (0 : Int) < 5 by decide), _, _, rfl, rfl, by show 2 ≤ sizeLine; decide, fun T1 hT1 => ⟨by show 2 ≤ sizeLine; decide, fun T2 hT2 => ?_⟩⟩⟩
    have g1 := same_new (o := .tup [V.int (1 + d5 % 5), V.int 1]) hT1
    have f1 : Fr K (upd (upd H3 T (.tup [V.int (i : Nat), z])) T1 (.tup [V.int (1 + d5 % 5), V.int 1])) (.ref T1) ((1 + d5 % 5 : Int) : Rat) := fr_int (SqT.of upd_same)
    have g2 := same_new (o := .tup [z, V.ref T1]) hT2
    refine k' _ _ ((sT.trans g1).trans g2) ⟨(q, ((1 + d5 % 5 : Int) : Rat)), ⟨T2, z, .ref T1, rfl, SqT.of upd_same, fq.same (((s'.trans sT).trans g1).trans g2), f1.same g2⟩, q0', q1', ?_, zq.mono (by decide), (Sz.int (n := 3) (by show _ < 8; omega) (by decide)).mono (by decide)⟩
    show (0 : Rat) < ((1 + d5 % 5 : Int) : Rat)
    exact_mod_cast (show (0 : Int) < 1 + d5 % 5 by omega)
  obtain ⟨s3, ws, eHV, lw, hws⟩ := g
  obtain ⟨hv, pw, bw⟩ := wts_of (Pr := fun q => 0 ≤ q.1 ∧ q.1 ≤ (L : Rat) ∧ 0 < q.2 ∧ Sz 128 q.1 ∧ Sz 128 q.2) ws hws
  have lhv : hv.length ≤ 6 := by rw [← Paired.length pw, lw]; omega
  have O : (⟨L, [], hv⟩ : Wd).Ok := ⟨L2, by show L ≤ 1000; omega, by show 0 ≤ 12; decide, (fun i x s h => by cases i <;> cases h), (fun i j x s y t _ h => by cases i <;> cases h), (fun i x s h => by cases i <;> cases h), lhv, bw⟩
  have s13 := s2.trans s3
  -- the plank
  refine ⟨_, rfl, by decide, fun LP hLP => ?_⟩
  have g4 := same_new (o := .lst []) hLP
  have eLP : (upd H3 LP (.lst [])) LP = some (.lst []) := upd_same
  generalize upd H3 LP (.lst []) = H4 at g4 eLP
  intro p dx hp hdx ne
  have g5 : Same H4 (upd (upd H4 dx (.own p)) p (.ins a.P dx [])) := fun b o e => by
    rw [upd_ne (ne_of_none e hp), upd_ne (ne_of_none e hdx)]
    exact e
  refine ⟨p, dx, LP, [], ⟨L, [], hv⟩, rfl, upd_same, g5 _ _ eLP, .nil, O, fun H5 keep pl => ⟨rfl, ?_⟩⟩
  have s45 : Same H4 H5 := fun b o e => keep b o (g5 b o e) (ne_of_none e hp)
  have s35 := g4.trans s45
  have s15 := s13.trans s35
  -- the spot
  obtain ⟨xs8, d8, y8, a8, b8, c8⟩ := (dg.same s15).get (j := 8) (by decide) (by omega)
  have t0 := Int.emod_nonneg d8 (show 3 * L + 1 ≠ 0 by omega)
  have t1 := Int.emod_lt_of_pos d8 (show 0 < 3 * L + 1 by omega)
  refine ⟨_, rfl, dl, _, 8, _, rfl, rfl, y8, a8, .inl ⟨_, rfl, _, rfl, _, _, rfl, rfl, mul64 (by decide) (by omega), _, _, rfl, rfl, _, _, rfl, rfl, (show 0 < 3 * L + 1 by omega), _, _, rfl, by decide, pow_up (m := 2) (by decide) (by decide), fun H6 v6 s6 f6 => ?_⟩⟩
  have sp := cut_in (t := d8 % (3 * L + 1)) (b := 3) (L := L) t0 (by decide) (by omega)
  have szq : Sz 128 (((d8 % (3 * L + 1) : Int) : Rat) / ((3 : Int) : Rat)) := cut_sz (by decide) (pow_up (m := 5) (by decide) (by show _ < 32; omega)) (pow_up (m := 2) (by decide) (by decide))
  have f6 : Fr K H6 v6 (((d8 % (3 * L + 1) : Int) : Rat) / ((3 : Int) : Rat)) := f6
  generalize ((d8 % (3 * L + 1) : Int) : Rat) / ((3 : Int) : Rat) = x at sp szq f6
  have s36 := s35.trans s6
  have eHV6 := s36 _ _ eHV
  have pw6 : Paired (Wt K H6) ws hv := Paired.mapP pw fun _ _ z => z.keep (Same.keep s36)
  have pl6 := pl.same s6
  have spt : Spt ⟨L, [], hv⟩ x := ⟨sp.1, sp.2, szq⟩
  refine ⟨_, rfl, _, rfl, _, rfl, p, HV, ⟨L, [], hv⟩, ws, v6, x, rfl, pl6, O, SqL.of eHV6, pw6, f6, spt, fun H7 TT rs s7 hTT eTT pt l20 => ?_⟩
  have told := told_bare (W := ⟨L, [], hv⟩) x rfl
  refine ⟨_, rfl, by decide, fun E1 hE1 => ⟨by decide, fun E2 hE2 => ⟨by show 3 ≤ sizeLine; decide, fun T3 hT3 => ⟨by show 1 ≤ sizeLine; decide, fun E4 hE4 => ?_⟩⟩⟩⟩
  have h1 := same_new (o := .lst []) hE1
  have h2 := same_new (o := .tup []) hE2
  have h3 := same_new (o := .tup [V.ref E1, V.ref E2, V.non]) hT3
  have h4 := same_new (o := .lst [V.ref T3]) hE4
  have i1 : (upd (upd (upd (upd H7 E1 (.lst [])) E2 (.tup [])) T3 (.tup [V.ref E1, V.ref E2, V.non])) E4 (.lst [V.ref T3])) E1 = some (.lst []) := h4 _ _ (h3 _ _ (h2 _ _ upd_same))
  have i2 : (upd (upd (upd (upd H7 E1 (.lst [])) E2 (.tup [])) T3 (.tup [V.ref E1, V.ref E2, V.non])) E4 (.lst [V.ref T3])) E2 = some (.tup []) := h4 _ _ (h3 _ _ upd_same)
  have i3 : (upd (upd (upd (upd H7 E1 (.lst [])) E2 (.tup [])) T3 (.tup [V.ref E1, V.ref E2, V.non])) E4 (.lst [V.ref T3])) T3 = some (.tup [V.ref E1, V.ref E2, V.non]) := h4 _ _ upd_same
  have i4 : (upd (upd (upd (upd H7 E1 (.lst [])) E2 (.tup [])) T3 (.tup [V.ref E1, V.ref E2, V.non])) E4 (.lst [V.ref T3])) E4 = some (.lst [V.ref T3]) := upd_same
  have hh := ((h1.trans h2).trans h3).trans h4
  generalize upd (upd (upd (upd H7 E1 (.lst [])) E2 (.tup [])) T3 (.tup [V.ref E1, V.ref E2, V.non])) E4 (.lst [V.ref T3]) = H8 at i1 i2 i3 i4 hh
  have pn : Paired (Pw K H8) [V.ref T3] [(([], [], none) : Part)] := .cons ⟨T3, E1, .ref E2, .non, rfl, SqT.of i3, SqL.of i1, ⟨E2, rfl, SqT.of i2⟩, rfl⟩ .nil
  refine ⟨_, _, dp_parts (SqL.of (hh _ _ eTT)) (Paired.mapP pt fun _ _ z => z.pw.same hh), dp_parts (SqL.of i4) pn, shaped_parts _, shaped_parts _, _, rfl, ?_⟩
  rw [eqv_parts, told, decide_eq_true rfl]
  have s78 := s7.trans hh
  refine iteT ⟨_, rfl, _, rfl, _, rfl, _, rfl, p, HV, TT, TT, ⟨L, [], hv⟩, ws, rs, v6, x, H6, rfl, pl6.same s78, O, SqL.of (s78 _ _ eHV6), Paired.mapP pw6 fun _ _ z => z.keep (Same.keep s78), f6.same s78, spt, hh _ _ eTT, Paired.mapP pt fun _ _ z => z.same hh, fun H9 s9 => ⟨true, true, rfl, rfl, ?_⟩⟩
  exact k H9 (((s15.trans s6).trans s78).trans s9)
end Pf
end

section
namespace Pf
open PySem PySem.Spec PyProof.Rows L2
variable {P : Program} {w : World} {K : PySem.W.Frag} {mg : Str → Option Value} {base : Heap} {a : Ad}
/-- places, all of them on the plank -/
def SpL (K : PySem.W.Frag) (W : Wd) (H : Hp) (xs : List V) : Prop := ∀ y ∈ xs, ∃ q, Fr K H y q ∧ Spt W q
theorem SpL.keep {W : Wd} {H H' : Hp} {xs : List V} (k : Keep H H') (h : SpL K W H xs) : SpL K W H' xs := fun y hy => by
  obtain ⟨q, h1, h2⟩ := h y hy
  exact ⟨q, h1.keep k, h2⟩
theorem SpL.app {W : Wd} {H : Hp} {xs ys : List V} (h : SpL K W H xs) (h' : SpL K W H ys) : SpL K W H (xs ++ ys) := fun y hy => by
  rcases List.mem_append.mp hy with z | z
  · exact h y z
  · exact h' y z
theorem SpL.one {W : Wd} {H : Hp} {v : V} {q : Rat} (f : Fr K H v q) (s : Spt W q) : SpL K W H [v] := fun y hy => by
  rw [List.mem_singleton.mp hy]
  exact ⟨q, f, s⟩
theorem SpL.rep {W : Wd} {H : Hp} {xs : List V} {n : Nat} (h : SpL K W H xs) : SpL K W H (List.replicate n xs).flatten := fun y hy => by
  obtain ⟨l, hl, hy⟩ := List.mem_flatten.mp hy
  rw [List.eq_of_mem_replicate hl] at hy
  exact h y hy
theorem spt_int {W : Wd} (o : W.Ok) {i : Int} (h0 : 0 ≤ i) (h1 : i ≤ W.long) : Spt W (i : Rat) :=
  ⟨by exact_mod_cast h0, cast_le h1, (sz_len (by omega) (by have := o.lm; omega)).mono (by decide)⟩
def spLaw (K : PySem.W.Frag) : Sp := fun vs H Q _ => ∃ (l : Addr) (ns : List Int), vs = [.ref l] ∧ SqL K H l (ns.map V.int) ∧ ∀ H', Q (.bl true) H'
abbrev N_law : List Str := ["_law_script", "_law_place", "_law_digits_here", "_law_world_here", "_law_plank", "_law_spares_here", "_law_spots", "_law_k", "_law_spot", "_law_much"]
theorem sc_law : FnScope N_law ["_law_script"] (defScope s_law) := ⟨rfl, rfl, rfl, by decide +kernel, rfl, by decide +kernel, by decide +kernel⟩
theorem ok_law {f : Addr} {fd : FuncData} (F : FunD K "law" "law" (defArgs s_law) (defBody s_law) (defScope s_law) [] [] f fd) (B : Bt mg) (D_law_digits : Df P w K mg base "_law_digits" ["_law_cell_here", "_law_wanted"] 1 (spDigits K)) (D_law_cell : Df P w K mg base "_law_cell" ["_law_script", "_law_k"] 1 (spCell K)) (D_law_world : Df P w K mg base "_law_world" ["_law_digits_here", "_law_most"] 4 (spWorld K))
    (D_law_fine : Df P w K mg base "_law_fine" ["_law_digits_here", "_law_world_here"] 3 (spFine K)) (D_law_made : Df P w K mg base "_law_made" ["_law_world_here"] 8 (spMade K a)) (D_law_spares : Df P w K mg base "_law_spares" ["_law_world_here", "_law_heavy_here"] 4 (spSpares K))
    (D_law_cut : Df P w K mg base "_law_cut" ["_law_top", "_law_bottom"] 1 (spCut K)) (D_law_right : Df P w K mg base "_law_right" ["_law_world_here", "_law_plank", "_law_spares_here", "_law_spot"] 13 (spRight K a)) (D_law_bare_right : Df P w K mg base "_law_bare_right" ["_law_digits_here"] 13 (spBare K)) :
    FnOk P w K mg base CX0 14 f fd ["_law_script"] (spLaw K) := by
  refine F.ok sc_law (fun vs H Q E h => by obtain ⟨_, _, rfl, _⟩ := h; rfl) (fun cdv A' outer sh H vs Q E hr h => ?_)
  obtain ⟨l, ns, rfl, hl, k⟩ := h
  have hu := hu_of hr
  have two : 2 ≤ sizeLine := by decide
  have one : 1 ≤ sizeLine := by decide
  refine ⟨_, PSs.nox (pss_cons (ps_for PassesOwn.never rfl (pi_range1 (by rfl) B.range (pa_cons (pe_callB (call_max2 rfl) (by rfl) B.max (by decide +kernel) (pa_cons pe_int (pa_cons (pe_callB (call_min2 rfl) (by rfl) B.min (by decide +kernel) (pa_cons pe_int (pa_cons (pe_callB call_len_seq (by rfl) B.len (by decide +kernel) (pa_cons (pv 0) pa_nil)) pa_nil))) pa_nil))) pa_nil)) (pg_name (i := 1) sc_law.nd rfl (by first | exact Or.inl rfl | exact Or.inr rfl))
    (pss_cons (ps_set (i := 2) sc_law.nd rfl (by first | exact Or.inl rfl | exact Or.inr rfl) (pcall D_law_digits hr (by decide) (by rfl) (pa_cons (pcall D_law_cell hr (by decide) (by rfl) (pa_cons (pv 0) (pa_cons (pv 1) pa_nil))) (pa_cons pe_int pa_nil))))
      (pss_cons (ps_set (i := 3) sc_law.nd rfl (by first | exact Or.inl rfl | exact Or.inr rfl) (pcall D_law_world hr (by decide) (by rfl) (pa_cons (pv 2) (pa_cons pe_int pa_nil))))
      (pss_cons (ps_if (pt_cmpR op_eq (pe_op op_mod (pe_callTy call_int1 (by rfl) B.int (by decide +kernel) (pa_cons (pe_ix (r := rIxL K) ix_list (pv 2) pe_int (fun _ _ => rfl)) pa_nil)) pe_int) pe_int (nomark _))
      (pss_one (ps_set (i := 3) sc_law.nd rfl (by first | exact Or.inl rfl | exact Or.inr rfl) (pcall D_law_fine hr (by decide) (by rfl) (pa_cons (pe_slice (r := rSlL K) sl_list (pv 2) (po_some pe_int) po_none) (pa_cons (pv 3) pa_nil)))))
      pss_nil)
      (pss_cons (ps_set (i := 4) sc_law.nd rfl (by first | exact Or.inl rfl | exact Or.inr rfl) (pcall D_law_made hr (by decide) (by rfl) (pa_cons (pv 3) pa_nil)))
      (pss_cons (ps_set (i := 5) sc_law.nd rfl (by first | exact Or.inl rfl | exact Or.inr rfl) (pcall D_law_spares hr (by decide) (by rfl) (pa_cons (pv 3) (pa_cons (pe_dget hu (pv 3) pe_str (fun _ _ => rfl)) pa_nil))))
      (pss_cons (ps_set (i := 6) sc_law.nd rfl (by first | exact Or.inl rfl | exact Or.inr rfl) (pe_op op_cat (pe_lst (pa_cons (pe_tup (pa_cons pe_int (pa_cons pe_int pa_nil))) (pa_cons (pe_tup (pa_cons (pe_dget hu (pv 3) pe_str (fun _ _ => rfl)) (pa_cons pe_int pa_nil))) pa_nil))) (pe_op op_rep (pe_lc (own := [("_law_spot", 8)]) (g := gName 8) rfl sc_law.nd (pi_list (pe_dget hu (pv 3) pe_str (fun _ _ => rfl))) (blkOk_by (N := N_law) (sc := defScope s_law) (by decide +kernel)) (fun _ _ _ _ _ => (pg_name (i := 8) sc_law.nd rfl (by first | exact Or.inl rfl | exact Or.inr rfl))) (fun _ _ _ _ _ => pts_nil) (fun _ _ _ _ _ => (pe_tup (pa_cons (pv 8) (pa_cons pe_int pa_nil))))) pe_int)))
      (pss_cons (ps_set (i := 6) sc_law.nd rfl (by first | exact Or.inl rfl | exact Or.inr rfl) (pe_op op_cat (pv 6) (pe_lc (own := [("_law_spot", 8), ("_law_much", 9)]) (g := gTup K 2 (gCons (gName 8) (gCons (gName 9) gNil))) rfl sc_law.nd (pi_list (pe_dget hu (pv 3) pe_str (fun _ _ => rfl))) (blkOk_by (N := N_law) (sc := defScope s_law) (by decide +kernel)) (fun _ _ _ _ _ => (pg_tup (by rfl) (pgs_cons (pg_name (i := 8) sc_law.nd rfl (by first | exact Or.inl rfl | exact Or.inr rfl)) (pgs_cons (pg_name (i := 9) sc_law.nd rfl (by first | exact Or.inl rfl | exact Or.inr rfl)) pgs_nil)))) (fun _ _ _ _ _ => pts_nil) (fun _ _ _ _ _ => (pv 8)))))
      (pss_cons (ps_set (i := 6) sc_law.nd rfl (by first | exact Or.inl rfl | exact Or.inr rfl) (pe_op op_cat (pv 6) (pe_op op_rep (pe_lst (pa_cons (pcall D_law_cut hr (by decide) (by rfl) (pa_cons (pe_op op_mod (pe_callTy call_int1 (by rfl) B.int (by decide +kernel) (pa_cons (pe_ix (r := rIxL K) ix_list (pv 2) pe_int (fun _ _ => rfl)) pa_nil)) (pe_op op_add (pe_op op_mulW pe_int (pe_dget hu (pv 3) pe_str (fun _ _ => rfl))) pe_int)) (pa_cons pe_int pa_nil))) pa_nil)) pe_int)))
      (pss_cons (ps_expr (pe_bm PySem.F.plainAttrs_list PySem.F.slot_list_append PySem.F.type_list_append mt_append (pv 6) (pa_cons (pe_tup (pa_cons (pe_op op_mod (pe_callTy call_int1 (by rfl) B.int (by decide +kernel) (pa_cons (pe_ix (r := rIxL K) ix_list (pv 2) pe_int (fun _ _ => rfl)) pa_nil)) (pe_op op_add (pe_dget hu (pv 3) pe_str (fun _ _ => rfl)) pe_int)) (pa_cons pe_int pa_nil))) pa_nil)))
      (pss_cons (ps_for PassesOwn.never rfl (pi_range1 (by rfl) B.range (pa_cons pe_int pa_nil)) (pg_name (i := 7) sc_law.nd rfl (by first | exact Or.inl rfl | exact Or.inr rfl))
      (pss_one (ps_if (pt_not (pt_val (pcall D_law_right hr (by decide) (by rfl) (pa_cons (pv 3) (pa_cons (pv 4) (pa_cons (pv 5) (pa_cons (pe_ix (r := rIxL K) ix_list (pv 6) (pe_op op_mod (pe_callTy call_int1 (by rfl) B.int (by decide +kernel) (pa_cons (pe_ix (r := rIxL K) ix_list (pv 2) (pe_op op_add pe_int (pv 7)) (fun _ _ => rfl)) pa_nil)) (pe_callB call_len_seq (by rfl) B.len (by decide +kernel) (pa_cons (pv 6) pa_nil))) (fun _ _ => rfl)) pa_nil)))))))
        (pss_one (ps_ret pe_bl))
        pss_nil)))
      (pss_one (ps_if (pt_not (pt_val (pcall D_law_bare_right hr (by decide) (by rfl) (pa_cons (pe_slice (r := rSlL K) sl_list (pv 2) (po_some pe_int) po_none) pa_nil))))
      (pss_one (ps_ret pe_bl))
      pss_nil)))))))))))))
    (pss_one (ps_ret pe_bl))), ?_⟩
  obtain ⟨c, hc, c1, c3⟩ : ∃ c : Int, c = (if (if (((ns.map V.int).length : Nat) : Int) < 3 then (((ns.map V.int).length : Nat) : Int) else 3) > 1 then (if (((ns.map V.int).length : Nat) : Int) < 3 then (((ns.map V.int).length : Nat) : Int) else 3) else 1) ∧ 1 ≤ c ∧ c ≤ 3 := ⟨_, rfl, by split <;> (try split) <;> omega, by split <;> (try split at *) <;> (try split) <;> omega⟩
  refine ⟨_, rfl, l, _, rfl, .inl hl, _, _, rfl, _, _, rfl, _, rfl, ?_⟩
  rw [← hc]
  refine ⟨by omega, by omega, ?_⟩
  refine for_range (lo := 0) (n := c.toNat) (fun i σ H' => ∃ x1 x2 x3 x4 x5 x6 x7 x8 x9, σ = [some (.ref l), x1, x2, x3, x4, x5, x6, x7, x8, x9] ∧ Same H H') ⟨_, _, _, _, _, _, _, _, _, rfl, Same.refl _⟩ (fun i σ H' hi I => ?_) (fun σ H' I => ?_)
  · obtain ⟨x1, x2, x3, x4, x5, x6, x7, x8, x9, rfl, s0⟩ := I
    refine ⟨_, rfl, _, rfl, l, ns, _, rfl, sql_same s0 hl, by omega, by omega, fun cell => ⟨cell, rfl, fun H1 DL ds s1 hDL eDL lds bds => ?_⟩⟩
    have dg : Dg K H1 DL 80 := ⟨ds, SqL.of eDL, lds, bds⟩
    refine ⟨_, rfl, DL, rfl, dg, fun H2 d gs n sts hv s2 hd wo lg n1 n5 hg ls bs lh bh => ?_⟩
    have s02 := (s0.trans s1).trans s2
    obtain ⟨xs75, d75, y75, a75, b75, c75⟩ := (dg.same s2).get (j := 75) (by decide) (by decide)
    refine ⟨_, rfl, DL, _, 75, _, rfl, rfl, y75, a75, .inl ⟨_, rfl, _, _, rfl, rfl, (show (0 : Int) < 3 by decide), rfl, _, rfl, ?_⟩⟩
    refine ite2 (fun _ => ?_) (fun _ => ?_)
    · refine ⟨_, rfl, 58, rfl, DL, _, rfl, SqL.of (s2 _ _ eDL), fun T hT => ?_⟩
      have gT := same_new (o := .lst (cutV (ds.map V.int) (some 58) none)) hT
      have dgT : Dg K (upd H2 T (.lst (cutV (ds.map V.int) (some 58) none))) T 22 := Dg.drop (n := 80) 58 ⟨ds, rfl, lds, bds⟩ upd_same
      refine ⟨_, rfl, T, d, 22, gs, n, sts, hv, rfl, dgT, by decide, wo.same gT, lg, n1, n5, hg, ls, bs, lh, bh, fun H3 d3 W s3 wo3 ww => ?_⟩
      have s03 := (s02.trans gT).trans s3
      have dg3 := ((dg.same s2).same gT).same s3
      have o := ww.ok
      have l2 := o.l2
      have lm := o.lm
      have n0 := ww.n0
      have n5' := ww.n5
      refine ⟨_, rfl, d3, W, rfl, wo3, o, fun H4 p s4 hp pl => ?_⟩
      have wo4 := wo3.same s4
      obtain ⟨kvs, sl, hl', tl, refs, frs, e1, e2, e3, e4, e5, e6, e7, e8, e9, e10⟩ := wo4.ex
      refine ⟨_, rfl, _, rfl, d3, _, rfl, getK e1 e5, d3, hl', W, refs, rfl, wo4, o, SqL.of e6, e7, fun H5 sd kv s5 hsd esd fl => ?_⟩
      have s45 := s5
      -- the spots
      refine ⟨two, fun t1 h1 => ?_⟩
      have g1 := same_new (o := .tup [V.int 0, V.int 1]) h1
      have f1 : Fr K (upd H5 t1 (.tup [V.int 0, V.int 1])) (.ref t1) ((0 : Int) : Rat) := fr_int (SqT.of upd_same)
      have r1 := s5.trans g1
      have q1 := g1
      generalize upd H5 t1 (.tup [V.int 0, V.int 1]) = Ha at g1 f1 r1 q1
      refine ⟨_, rfl, d3, _, rfl, getK (r1 _ _ e1) e2, two, fun t2 h2 => ?_⟩
      have g2 := same_new (o := .tup [V.int W.long, V.int 1]) h2
      have f2 : Fr K (upd Ha t2 (.tup [V.int W.long, V.int 1])) (.ref t2) ((W.long : Int) : Rat) := fr_int (SqT.of upd_same)
      have r2 := r1.trans g2
      have q2 := q1.trans g2
      have f12 := f1.same g2
      generalize upd Ha t2 (.tup [V.int W.long, V.int 1]) = Hb at g2 f2 r2 q2 f12
      refine ⟨two, fun L1 hL1 => ?_⟩
      have g3 := same_new (o := .lst [V.ref t1, V.ref t2]) hL1
      have eL1 : (upd Hb L1 (.lst [V.ref t1, V.ref t2])) L1 = some (.lst [V.ref t1, V.ref t2]) := upd_same
      have sL1 : SpL K W (upd Hb L1 (.lst [V.ref t1, V.ref t2])) [V.ref t1, V.ref t2] := SpL.app (SpL.one (f12.same g3) (spt_int o (by decide) (by omega))) (SpL.one (f2.same g3) (spt_int o (by omega) (by omega)))
      have r3 := r2.trans g3
      have q3 := q2.trans g3
      generalize upd Hb L1 (.lst [V.ref t1, V.ref t2]) = Hc at g3 eL1 sL1 r3 q3
      refine ⟨_, rfl, d3, _, rfl, getK (r3 _ _ e1) e3, sl, rfl, ⟨_, SqL.of (r3 _ _ e4)⟩, fun C1 hC1 => ?_⟩
      have lps : ((W.ps.map (·.1)).map V.int).length ≤ 5 := by rw [List.length_map, List.length_map]; exact n5'
      refine lc_each (w := walk_list (K := K) (a := sl) (xs := (W.ps.map (·.1)).map V.int)) hC1 (by omega) (fun _ y H' => ∃ q, Fr K H' y q ∧ Spt W q) (fun _ _ _ _ kp z => by obtain ⟨q, z1, z2⟩ := z; exact ⟨q, z1.keep kp, z2⟩) (fun H' s => SqL.of (s _ _ (r3 _ _ e4))) (fun j y Hx Hy hj s' hy Q' k' => ?_) (fun Hd g => ?_)
      · obtain ⟨rfl, hy⟩ := hy
        rw [List.getElem?_map, List.getElem?_map] at hy
        obtain ⟨x, hx, rfl⟩ := Option.map_eq_some_iff.mp hy
        obtain ⟨⟨x', st'⟩, hx', rfl⟩ := Option.map_eq_some_iff.mp hx
        have inn := o.inn _ _ _ hx'
        exact ⟨rfl, _, rfl, two, fun t ht => k' _ _ (same_new ht) ⟨(x' : Rat), fr_int (SqT.of upd_same), spt_int o (by omega) (by omega)⟩⟩
      obtain ⟨g4, ys, eC1, ly, hys⟩ := g
      have sys : SpL K W Hd ys := fun y hy => by
        obtain ⟨j, hj⟩ := List.mem_iff_getElem?.mp hy
        exact hys j y hj
      have r4 := r3.trans g4
      have q4 := q3.trans g4
      have lys : ys.length ≤ 5 := by rw [ly]; exact lps
      refine ⟨C1, 2, ys, rfl, rfl, eC1, by decide, by decide, small (by show ys.length * 2 ≤ 100000; omega), fun C2 hC2 => ?_⟩
      have g5 := same_new (o := .lst (List.replicate (2 : Int).toNat ys).flatten) hC2
      have eC2 : (upd Hd C2 (.lst (List.replicate (2 : Int).toNat ys).flatten)) C2 = some (.lst (List.replicate (2 : Int).toNat ys).flatten) := upd_same
      have lfl : (List.replicate (2 : Int).toNat ys).flatten.length ≤ 10 := by show (List.replicate 2 ys).flatten.length ≤ 10; simp [List.replicate]; omega
      have sC2 := (sys.rep (n := (2 : Int).toNat)).keep (Same.keep g5)
      have sL5 := sL1.keep (Same.keep (g4.trans g5))
      have eL5 := g5 _ _ (g4 _ _ eL1)
      have r5 := r4.trans g5
      have q5 := q4.trans g5
      generalize (List.replicate (2 : Int).toNat ys).flatten = ysr at g5 eC2 lfl sC2 sL5 eL5 r5 q5
      generalize upd Hd C2 (.lst ysr) = He at g5 eC2 sC2 sL5 eL5 r5 q5
      refine ⟨L1, C2, _, _, rfl, rfl, eL5, eC2, small (by show 2 + ysr.length ≤ 100000; omega), fun S1 hS1 => ?_⟩
      have g6 := same_new (o := .lst ([V.ref t1, V.ref t2] ++ ysr)) hS1
      have eS1 : (upd He S1 (.lst ([V.ref t1, V.ref t2] ++ ysr))) S1 = some (.lst ([V.ref t1, V.ref t2] ++ ysr)) := upd_same
      have sS1 := (sL5.app sC2).keep (Same.keep g6)
      have r6 := r5.trans g6
      have q6 := q5.trans g6
      have l1' : ([V.ref t1, V.ref t2] ++ ysr).length ≤ 12 := by rw [List.length_append]; show 2 + _ ≤ 12; omega
      generalize [V.ref t1, V.ref t2] ++ ysr = z1 at g6 eS1 sS1 r6 q6 l1'
      generalize upd He S1 (.lst z1) = Hf at g6 eS1 sS1 r6 q6
      -- those of the weights
      refine ⟨_, rfl, _, rfl, d3, _, rfl, getK (r6 _ _ e1) e5, hl', rfl, ⟨_, SqL.of (r6 _ _ e6)⟩, fun C3 hC3 => ?_⟩
      have lrf : refs.length ≤ 6 := by rw [Paired.length e7]; exact o.h6
      refine lc_each (w := walk_list (K := K) (a := hl') (xs := refs)) hC3 (by omega) (fun _ y H' => ∃ q, Fr K H' y q ∧ Spt W q) (fun _ _ _ _ kp z => by obtain ⟨q, z1, z2⟩ := z; exact ⟨q, z1.keep kp, z2⟩) (fun H' s => SqL.of (s _ _ (r6 _ _ e6))) (fun j y Hx Hy hj s' hy Q' k' => ?_) (fun Hg g => ?_)
      · obtain ⟨rfl, hy⟩ := hy
        obtain ⟨⟨u1, u2⟩, hu', t, xv, mv, rfl, w1, w2, w3⟩ := Paired.get? e7 hy
        obtain ⟨b1, b2, b3, b4, b5⟩ := o.hv0 _ (List.mem_of_getElem? hu')
        have ss := r6.trans s'
        exact ⟨t, _, rfl, sqt_same ss w1, rfl, _, _, rfl, _, _, rfl, rfl, rfl, _, rfl, k' _ _ (Same.refl _) ⟨u1, w2.same ss, ⟨b1, b2, b4⟩⟩⟩
      obtain ⟨g7, zs, eC3, lz, hzs⟩ := g
      have szs : SpL K W Hg zs := fun y hy => by
        obtain ⟨j, hj⟩ := List.mem_iff_getElem?.mp hy
        exact hzs j y hj
      have r7 := r6.trans g7
      have q7 := q6.trans g7
      have lzs : zs.length ≤ 6 := by rw [lz]; exact lrf
      have sS7 := sS1.keep (Same.keep g7)
      have eS7 := g7 _ _ eS1
      refine ⟨S1, C3, _, _, rfl, rfl, eS7, eC3, small (by omega), fun S2 hS2 => ?_⟩
      have g8 := same_new (o := .lst (z1 ++ zs)) hS2
      have eS2 : (upd Hg S2 (.lst (z1 ++ zs))) S2 = some (.lst (z1 ++ zs)) := upd_same
      have sS2 := (sS7.app szs).keep (Same.keep g8)
      have r8 := r7.trans g8
      have q8 := q7.trans g8
      have l2' : (z1 ++ zs).length ≤ 18 := by rw [List.length_append]; omega
      generalize z1 ++ zs = z2 at g8 eS2 sS2 r8 q8 l2'
      generalize upd Hg S2 (.lst z2) = Hh at g8 eS2 sS2 r8 q8
      -- one more, twice
      have dg8 := (dg3.same s4).same r8
      obtain ⟨xs70, d70, y70, a70, b70, c70⟩ := dg8.get (j := 70) (by decide) (by decide)
      have t0 := Int.emod_nonneg d70 (show 7 * W.long + 1 ≠ 0 by omega)
      have t1' := Int.emod_lt_of_pos d70 (show 0 < 7 * W.long + 1 by omega)
      refine ⟨_, rfl, _, rfl, DL, _, 70, _, rfl, rfl, y70, a70, .inl ⟨_, rfl, _, rfl, d3, _, rfl, getK (r8 _ _ e1) e2, _, _, rfl, rfl, mul64 (by decide) (by omega), _, _, rfl, rfl, _, _, rfl, rfl, (show 0 < 7 * W.long + 1 by omega), _, _, rfl, by decide, pow_up (m := 3) (by decide) (by decide), fun Hi vi si fi => ?_⟩⟩
      have spi := cut_in (t := d70 % (7 * W.long + 1)) (b := 7) (L := W.long) t0 (by decide) (by omega)
      have szi : Sz 128 (((d70 % (7 * W.long + 1) : Int) : Rat) / ((7 : Int) : Rat)) := cut_sz (by decide) (pow_up (m := 13) (by decide) (by show _ < 8192; omega)) (pow_up (m := 3) (by decide) (by decide))
      have fi : Fr K Hi vi (((d70 % (7 * W.long + 1) : Int) : Rat) / ((7 : Int) : Rat)) := fi
      refine ⟨one, fun A1 hA1 => ?_⟩
      have gA := same_new (o := .lst [vi]) hA1
      have eA1 : (upd Hi A1 (.lst [vi])) A1 = some (.lst [vi]) := upd_same
      refine ⟨A1, 2, [vi], rfl, rfl, eA1, by decide, by decide, small (by show 1 * 2 ≤ 100000; decide), fun A2 hA2 => ?_⟩
      have gB := same_new (o := .lst (List.replicate (2 : Int).toNat [vi]).flatten) hA2
      have eA2 : (upd (upd Hi A1 (.lst [vi])) A2 (.lst (List.replicate (2 : Int).toNat [vi]).flatten)) A2 = some (.lst [vi, vi]) := upd_same
      have gi := (si.trans gA).trans gB
      have fi2 := (fi.same gA).same gB
      have sS3 := sS2.keep (Same.keep gi)
      have eS3 := gi _ _ eS2
      have r9 := r8.trans gi
      have q9 := q8.trans gi
      generalize upd (upd Hi A1 (.lst [vi])) A2 (.lst (List.replicate (2 : Int).toNat [vi]).flatten) = Hj at eA2 fi2 sS3 eS3 r9 q9
      refine ⟨S2, A2, _, _, rfl, rfl, eS3, eA2, small (by show z2.length + 2 ≤ 100000; omega), fun S3 hS3 => ?_⟩
      have gC := same_new (o := .lst (z2 ++ [vi, vi])) hS3
      have eS4 : (upd Hj S3 (.lst (z2 ++ [vi, vi]))) S3 = some (.lst (z2 ++ [vi, vi])) := upd_same
      have spi' : Spt W (((d70 % (7 * W.long + 1) : Int) : Rat) / ((7 : Int) : Rat)) := ⟨spi.1, spi.2, szi⟩
      have sS4 : SpL K W (upd Hj S3 (.lst (z2 ++ [vi, vi]))) (z2 ++ [vi, vi]) := (sS3.app (SpL.app (SpL.one fi2 spi') (SpL.one fi2 spi'))).keep (Same.keep gC)
      have r10 := r9.trans gC
      have q10 := q9.trans gC
      have l3' : (z2 ++ [vi, vi]).length ≤ 20 := by rw [List.length_append]; show _ + 2 ≤ 20; omega
      have S30 : H4 S3 = none := r9.free hS3
      generalize z2 ++ [vi, vi] = z3 at gC eS4 sS4 r10 q10 l3'
      generalize upd Hj S3 (.lst z3) = Hk at gC eS4 sS4 r10 q10
      -- and a whole one
      have dg10 := (dg3.same s4).same r10
      obtain ⟨xs71, d71, y71, a71, b71, c71⟩ := dg10.get (j := 71) (by decide) (by decide)
      have u0 := Int.emod_nonneg d71 (show W.long + 1 ≠ 0 by omega)
      have u1 := Int.emod_lt_of_pos d71 (show 0 < W.long + 1 by omega)
      refine ⟨_, rfl, (.inl ⟨rfl, _, SqL.of eS4⟩), _, rfl, DL, _, 71, _, rfl, rfl, y71, a71, .inl ⟨_, rfl, _, rfl, d3, _, rfl, getK (r10 _ _ e1) e2, _, _, rfl, rfl, _, _, rfl, rfl, (show 0 < W.long + 1 by omega), two, fun T9 hT9 => ?_⟩⟩
      have gT9 := same_new (o := .tup [V.int (d71 % (W.long + 1)), V.int 1]) hT9
      have f9 : Fr K (upd Hk T9 (.tup [V.int (d71 % (W.long + 1)), V.int 1])) (.ref T9) ((d71 % (W.long + 1) : Int) : Rat) := fr_int (SqT.of upd_same)
      have eS5 := gT9 _ _ eS4
      refine ⟨S3, z3, _, rfl, rfl, eS5, small_lt (by omega), ?_⟩
      have kp9 : Keep (upd Hk T9 (.tup [V.int (d71 % (W.long + 1)), V.int 1])) (upd (upd Hk T9 (.tup [V.int (d71 % (W.long + 1)), V.int 1])) S3 (.lst (z3 ++ [V.ref T9]))) := Keep.upd (by rw [eS5]; exact trivial)
      have sS6 := ((sS4.keep (Same.keep gT9)).app (SpL.one f9 (spt_int o u0 (by omega)))).keep kp9
      have eS6 : (upd (upd Hk T9 (.tup [V.int (d71 % (W.long + 1)), V.int 1])) S3 (.lst (z3 ++ [V.ref T9]))) S3 = some (.lst (z3 ++ [V.ref T9])) := upd_same
      have r11 := same_mut (o := .lst (z3 ++ [V.ref T9])) (r10.trans gT9) S30
      have nsS : sd ≠ S3 := by rintro rfl; rw [(q10.trans gT9) _ _ esd] at eS5; cases eS5
      have esd11 : (upd (upd Hk T9 (.tup [V.int (d71 % (W.long + 1)), V.int 1])) S3 (.lst (z3 ++ [V.ref T9]))) sd = some (.dT kv) := by rw [upd_ne nsS]; exact gT9 _ _ (q10 _ _ esd)
      have fl11 := (fl.imp fun _ _ _ _ z => z.keep (Same.keep (q10.trans gT9))).imp fun _ _ _ _ z => z.keep kp9
      have l4' : (z3 ++ [V.ref T9]).length ≤ 21 ∧ 0 < (z3 ++ [V.ref T9]).length := by rw [List.length_append]; show _ + 1 ≤ 21 ∧ 0 < _ + 1; omega
      generalize z3 ++ [V.ref T9] = z4 at kp9 sS6 eS6 r11 esd11 fl11 l4'
      generalize upd (upd Hk T9 (.tup [V.int (d71 % (W.long + 1)), V.int 1])) S3 (.lst z4) = Hl at kp9 sS6 eS6 r11 esd11 fl11
      -- at three of them
      refine ⟨3, rfl, by decide, by decide, for_range (lo := 0) (n := 3) (fun j σ H' => ∃ x1 x7 x8 x9, σ = [some (.ref l), x1, some (.ref DL), some (.ref d3), some (.ref p), some (.ref sd), some (.ref S3), x7, x8, x9] ∧ Same Hl H') ⟨_, _, _, _, rfl, Same.refl _⟩ (fun j σ Hm hj I => ?_) (fun σ Hm I => ?_)⟩
      · obtain ⟨x1, x7, x8, x9, rfl, sm⟩ := I
        have r12 := r11.trans sm
        have eS12 := sm _ _ eS6
        obtain ⟨xs72, d72, y72, a72, b72, c72⟩ := ((dg3.same s4).same r12).get (j := 72 + (0 + (j : Nat))) (by omega) (by omega)
        have v0 := Int.emod_nonneg d72 (show ((z4.length : Nat) : Int) ≠ 0 by omega)
        have v1 := Int.emod_lt_of_pos d72 (show 0 < ((z4.length : Nat) : Int) by omega)
        have hz : (d72 % ((z4.length : Nat) : Int)).toNat < z4.length := by omega
        obtain ⟨q, fq, spq⟩ := sS6 _ (List.getElem_mem hz)
        refine ⟨_, rfl, _, rfl, _, rfl, _, rfl, _, rfl, _, rfl, _, _, rfl, rfl, DL, _, _, _, rfl, rfl, y72, a72, .inl ⟨_, rfl, _, rfl, S3, _, rfl, .inl (SqL.of eS12), _, _, rfl, rfl, (show 0 < ((z4.length : Nat) : Int) by omega), S3, _, _, _, rfl, rfl, SqL.of eS12, at_of (j := (d72 % ((z4.length : Nat) : Int)).toNat) (by omega) (List.getElem?_eq_getElem hz), ?_⟩⟩
        exact ⟨d3, p, sd, W, _, q, kv, rfl, wo4.same r12, o, pl.same r12, sm _ _ esd11, fl11.imp fun _ _ _ _ z => z.same sm, fq.same sm, spq, fun Hn sn => ⟨_, rfl, iteF ⟨_, _, _, _, rfl, sm.trans sn⟩⟩⟩
      obtain ⟨x1, x7, x8, x9, rfl, sm⟩ := I
      have r12 := r11.trans sm
      obtain ⟨ds', hds', lds', bds'⟩ := ((dg3.same s4).same r12).ex
      refine ⟨_, rfl, 60, rfl, DL, _, rfl, hds', fun T6 hT6 => ?_⟩
      have gT6 := same_new (o := .lst (cutV (ds'.map V.int) (some 60) none)) hT6
      have dg6 : Dg K (upd Hm T6 (.lst (cutV (ds'.map V.int) (some 60) none))) T6 20 := Dg.drop (n := 80) 60 ⟨ds', rfl, lds', bds'⟩ upd_same
      exact ⟨T6, 20, rfl, dg6, by decide, fun Hn sn => ⟨_, rfl, iteF ⟨_, _, _, _, _, _, _, _, _, rfl, (((s03.trans s4).trans r12).trans gT6).trans sn⟩⟩⟩
    · have O0 : (mkW gs n sts hv).Ok := mkW_ok lg n1 n5 (fun g hg' => (hg g hg').1) (fun g hg' => (hg g hg').2) (fun s hs => ⟨(bs s hs).1, (bs s hs).2.mono (by decide)⟩) (by omega) (fun q hq => by
        obtain ⟨z1, z2, z3, z4, z5⟩ := bh q hq
        exact ⟨z1, z2, z3, z4.mono (by decide), z5.mono (by decide)⟩)
      have ww : WW (mkW gs n sts hv) := ⟨O0, by rw [mkW_n]; omega, by rw [mkW_n]; omega⟩
      have dg3 := dg.same s2
      have o := ww.ok
      have l2 := o.l2
      have lm := o.lm
      have n0 := ww.n0
      have n5' := ww.n5
      refine ⟨_, rfl, d, (mkW gs n sts hv), rfl, wo, o, fun H4 p s4 hp pl => ?_⟩
      have wo4 := wo.same s4
      obtain ⟨kvs, sl, hl', tl, refs, frs, e1, e2, e3, e4, e5, e6, e7, e8, e9, e10⟩ := wo4.ex
      refine ⟨_, rfl, _, rfl, d, _, rfl, getK e1 e5, d, hl', (mkW gs n sts hv), refs, rfl, wo4, o, SqL.of e6, e7, fun H5 sd kv s5 hsd esd fl => ?_⟩
      have s45 := s5
      -- the spots
      refine ⟨two, fun t1 h1 => ?_⟩
      have g1 := same_new (o := .tup [V.int 0, V.int 1]) h1
      have f1 : Fr K (upd H5 t1 (.tup [V.int 0, V.int 1])) (.ref t1) ((0 : Int) : Rat) := fr_int (SqT.of upd_same)
      have r1 := s5.trans g1
      have q1 := g1
      generalize upd H5 t1 (.tup [V.int 0, V.int 1]) = Ha at g1 f1 r1 q1
      refine ⟨_, rfl, d, _, rfl, getK (r1 _ _ e1) e2, two, fun t2 h2 => ?_⟩
      have g2 := same_new (o := .tup [V.int (mkW gs n sts hv).long, V.int 1]) h2
      have f2 : Fr K (upd Ha t2 (.tup [V.int (mkW gs n sts hv).long, V.int 1])) (.ref t2) (((mkW gs n sts hv).long : Int) : Rat) := fr_int (SqT.of upd_same)
      have r2 := r1.trans g2
      have q2 := q1.trans g2
      have f12 := f1.same g2
      generalize upd Ha t2 (.tup [V.int (mkW gs n sts hv).long, V.int 1]) = Hb at g2 f2 r2 q2 f12
      refine ⟨two, fun L1 hL1 => ?_⟩
      have g3 := same_new (o := .lst [V.ref t1, V.ref t2]) hL1
      have eL1 : (upd Hb L1 (.lst [V.ref t1, V.ref t2])) L1 = some (.lst [V.ref t1, V.ref t2]) := upd_same
      have sL1 : SpL K (mkW gs n sts hv) (upd Hb L1 (.lst [V.ref t1, V.ref t2])) [V.ref t1, V.ref t2] := SpL.app (SpL.one (f12.same g3) (spt_int o (by decide) (by omega))) (SpL.one (f2.same g3) (spt_int o (by omega) (by omega)))
      have r3 := r2.trans g3
      have q3 := q2.trans g3
      generalize upd Hb L1 (.lst [V.ref t1, V.ref t2]) = Hc at g3 eL1 sL1 r3 q3
      refine ⟨_, rfl, d, _, rfl, getK (r3 _ _ e1) e3, sl, rfl, ⟨_, SqL.of (r3 _ _ e4)⟩, fun C1 hC1 => ?_⟩
      have lps : (((mkW gs n sts hv).ps.map (·.1)).map V.int).length ≤ 5 := by rw [List.length_map, List.length_map]; exact n5'
      refine lc_each (w := walk_list (K := K) (a := sl) (xs := ((mkW gs n sts hv).ps.map (·.1)).map V.int)) hC1 (by omega) (fun _ y H' => ∃ q, Fr K H' y q ∧ Spt (mkW gs n sts hv) q) (fun _ _ _ _ kp z => by obtain ⟨q, z1, z2⟩ := z; exact ⟨q, z1.keep kp, z2⟩) (fun H' s => SqL.of (s _ _ (r3 _ _ e4))) (fun j y Hx Hy hj s' hy Q' k' => ?_) (fun Hd g => ?_)
      · obtain ⟨rfl, hy⟩ := hy
        rw [List.getElem?_map, List.getElem?_map] at hy
        obtain ⟨x, hx, rfl⟩ := Option.map_eq_some_iff.mp hy
        obtain ⟨⟨x', st'⟩, hx', rfl⟩ := Option.map_eq_some_iff.mp hx
        have inn := o.inn _ _ _ hx'
        exact ⟨rfl, _, rfl, two, fun t ht => k' _ _ (same_new ht) ⟨(x' : Rat), fr_int (SqT.of upd_same), spt_int o (by omega) (by omega)⟩⟩
      obtain ⟨g4, ys, eC1, ly, hys⟩ := g
      have sys : SpL K (mkW gs n sts hv) Hd ys := fun y hy => by
        obtain ⟨j, hj⟩ := List.mem_iff_getElem?.mp hy
        exact hys j y hj
      have r4 := r3.trans g4
      have q4 := q3.trans g4
      have lys : ys.length ≤ 5 := by rw [ly]; exact lps
      refine ⟨C1, 2, ys, rfl, rfl, eC1, by decide, by decide, small (by show ys.length * 2 ≤ 100000; omega), fun C2 hC2 => ?_⟩
      have g5 := same_new (o := .lst (List.replicate (2 : Int).toNat ys).flatten) hC2
      have eC2 : (upd Hd C2 (.lst (List.replicate (2 : Int).toNat ys).flatten)) C2 = some (.lst (List.replicate (2 : Int).toNat ys).flatten) := upd_same
      have lfl : (List.replicate (2 : Int).toNat ys).flatten.length ≤ 10 := by show (List.replicate 2 ys).flatten.length ≤ 10; simp [List.replicate]; omega
      have sC2 := (sys.rep (n := (2 : Int).toNat)).keep (Same.keep g5)
      have sL5 := sL1.keep (Same.keep (g4.trans g5))
      have eL5 := g5 _ _ (g4 _ _ eL1)
      have r5 := r4.trans g5
      have q5 := q4.trans g5
      generalize (List.replicate (2 : Int).toNat ys).flatten = ysr at g5 eC2 lfl sC2 sL5 eL5 r5 q5
      generalize upd Hd C2 (.lst ysr) = He at g5 eC2 sC2 sL5 eL5 r5 q5
      refine ⟨L1, C2, _, _, rfl, rfl, eL5, eC2, small (by show 2 + ysr.length ≤ 100000; omega), fun S1 hS1 => ?_⟩
      have g6 := same_new (o := .lst ([V.ref t1, V.ref t2] ++ ysr)) hS1
      have eS1 : (upd He S1 (.lst ([V.ref t1, V.ref t2] ++ ysr))) S1 = some (.lst ([V.ref t1, V.ref t2] ++ ysr)) := upd_same
      have sS1 := (sL5.app sC2).keep (Same.keep g6)
      have r6 := r5.trans g6
      have q6 := q5.trans g6
      have l1' : ([V.ref t1, V.ref t2] ++ ysr).length ≤ 12 := by rw [List.length_append]; show 2 + _ ≤ 12; omega
      generalize [V.ref t1, V.ref t2] ++ ysr = z1 at g6 eS1 sS1 r6 q6 l1'
      generalize upd He S1 (.lst z1) = Hf at g6 eS1 sS1 r6 q6
      -- those of the weights
      refine ⟨_, rfl, _, rfl, d, _, rfl, getK (r6 _ _ e1) e5, hl', rfl, ⟨_, SqL.of (r6 _ _ e6)⟩, fun C3 hC3 => ?_⟩
      have lrf : refs.length ≤ 6 := by rw [Paired.length e7]; exact o.h6
      refine lc_each (w := walk_list (K := K) (a := hl') (xs := refs)) hC3 (by omega) (fun _ y H' => ∃ q, Fr K H' y q ∧ Spt (mkW gs n sts hv) q) (fun _ _ _ _ kp z => by obtain ⟨q, z1, z2⟩ := z; exact ⟨q, z1.keep kp, z2⟩) (fun H' s => SqL.of (s _ _ (r6 _ _ e6))) (fun j y Hx Hy hj s' hy Q' k' => ?_) (fun Hg g => ?_)
      · obtain ⟨rfl, hy⟩ := hy
        obtain ⟨⟨u1, u2⟩, hu', t, xv, mv, rfl, w1, w2, w3⟩ := Paired.get? e7 hy
        obtain ⟨b1, b2, b3, b4, b5⟩ := o.hv0 _ (List.mem_of_getElem? hu')
        have ss := r6.trans s'
        exact ⟨t, _, rfl, sqt_same ss w1, rfl, _, _, rfl, _, _, rfl, rfl, rfl, _, rfl, k' _ _ (Same.refl _) ⟨u1, w2.same ss, ⟨b1, b2, b4⟩⟩⟩
      obtain ⟨g7, zs, eC3, lz, hzs⟩ := g
      have szs : SpL K (mkW gs n sts hv) Hg zs := fun y hy => by
        obtain ⟨j, hj⟩ := List.mem_iff_getElem?.mp hy
        exact hzs j y hj
      have r7 := r6.trans g7
      have q7 := q6.trans g7
      have lzs : zs.length ≤ 6 := by rw [lz]; exact lrf
      have sS7 := sS1.keep (Same.keep g7)
      have eS7 := g7 _ _ eS1
      refine ⟨S1, C3, _, _, rfl, rfl, eS7, eC3, small (by omega), fun S2 hS2 => ?_⟩
      have g8 := same_new (o := .lst (z1 ++ zs)) hS2
      have eS2 : (upd Hg S2 (.lst (z1 ++ zs))) S2 = some (.lst (z1 ++ zs)) := upd_same
      have sS2 := (sS7.app szs).keep (Same.keep g8)
      have r8 := r7.trans g8
      have q8 := q7.trans g8
      have l2' : (z1 ++ zs).length ≤ 18 := by rw [List.length_append]; omega
      generalize z1 ++ zs = z2 at g8 eS2 sS2 r8 q8 l2'
      generalize upd Hg S2 (.lst z2) = Hh at g8 eS2 sS2 r8 q8
      -- one more, twice
      have dg8 := (dg3.same s4).same r8
      obtain ⟨xs70, d70, y70, a70, b70, c70⟩ := dg8.get (j := 70) (by decide) (by decide)
      have t0 := Int.emod_nonneg d70 (show 7 * (mkW gs n sts hv).long + 1 ≠ 0 by omega)
      have t1' := Int.emod_lt_of_pos d70 (show 0 < 7 * (mkW gs n sts hv).long + 1 by omega)
      refine ⟨_, rfl, _, rfl, DL, _, 70, _, rfl, rfl, y70, a70, .inl ⟨_, rfl, _, rfl, d, _, rfl, getK (r8 _ _ e1) e2, _, _, rfl, rfl, mul64 (by decide) (by omega), _, _, rfl, rfl, _, _, rfl, rfl, (show 0 < 7 * (mkW gs n sts hv).long + 1 by omega), _, _, rfl, by decide, pow_up (m := 3) (by decide) (by decide), fun Hi vi si fi => ?_⟩⟩
      have spi := cut_in (t := d70 % (7 * (mkW gs n sts hv).long + 1)) (b := 7) (L := (mkW gs n sts hv).long) t0 (by decide) (by omega)
      have szi : Sz 128 (((d70 % (7 * (mkW gs n sts hv).long + 1) : Int) : Rat) / ((7 : Int) : Rat)) := cut_sz (by decide) (pow_up (m := 13) (by decide) (by show _ < 8192; omega)) (pow_up (m := 3) (by decide) (by decide))
      have fi : Fr K Hi vi (((d70 % (7 * (mkW gs n sts hv).long + 1) : Int) : Rat) / ((7 : Int) : Rat)) := fi
      refine ⟨one, fun A1 hA1 => ?_⟩
      have gA := same_new (o := .lst [vi]) hA1
      have eA1 : (upd Hi A1 (.lst [vi])) A1 = some (.lst [vi]) := upd_same
      refine ⟨A1, 2, [vi], rfl, rfl, eA1, by decide, by decide, small (by show 1 * 2 ≤ 100000; decide), fun A2 hA2 => ?_⟩
      have gB := same_new (o := .lst (List.replicate (2 : Int).toNat [vi]).flatten) hA2
      have eA2 : (upd (upd Hi A1 (.lst [vi])) A2 (.lst (List.replicate (2 : Int).toNat [vi]).flatten)) A2 = some (.lst [vi, vi]) := upd_same
      have gi := (si.trans gA).trans gB
      have fi2 := (fi.same gA).same gB
      have sS3 := sS2.keep (Same.keep gi)
      have eS3 := gi _ _ eS2
      have r9 := r8.trans gi
      have q9 := q8.trans gi
      generalize upd (upd Hi A1 (.lst [vi])) A2 (.lst (List.replicate (2 : Int).toNat [vi]).flatten) = Hj at eA2 fi2 sS3 eS3 r9 q9
      refine ⟨S2, A2, _, _, rfl, rfl, eS3, eA2, small (by show z2.length + 2 ≤ 100000; omega), fun S3 hS3 => ?_⟩
      have gC := same_new (o := .lst (z2 ++ [vi, vi])) hS3
      have eS4 : (upd Hj S3 (.lst (z2 ++ [vi, vi]))) S3 = some (.lst (z2 ++ [vi, vi])) := upd_same
      have spi' : Spt (mkW gs n sts hv) (((d70 % (7 * (mkW gs n sts hv).long + 1) : Int) : Rat) / ((7 : Int) : Rat)) := ⟨spi.1, spi.2, szi⟩
      have sS4 : SpL K (mkW gs n sts hv) (upd Hj S3 (.lst (z2 ++ [vi, vi]))) (z2 ++ [vi, vi]) := (sS3.app (SpL.app (SpL.one fi2 spi') (SpL.one fi2 spi'))).keep (Same.keep gC)
      have r10 := r9.trans gC
      have q10 := q9.trans gC
      have l3' : (z2 ++ [vi, vi]).length ≤ 20 := by rw [List.length_append]; show _ + 2 ≤ 20; omega
      have S30 : H4 S3 = none := r9.free hS3
      generalize z2 ++ [vi, vi] = z3 at gC eS4 sS4 r10 q10 l3'
      generalize upd Hj S3 (.lst z3) = Hk at gC eS4 sS4 r10 q10
      -- and a whole one
      have dg10 := (dg3.same s4).same r10
      obtain ⟨xs71, d71, y71, a71, b71, c71⟩ := dg10.get (j := 71) (by decide) (by decide)
      have u0 := Int.emod_nonneg d71 (show (mkW gs n sts hv).long + 1 ≠ 0 by omega)
      have u1 := Int.emod_lt_of_pos d71 (show 0 < (mkW gs n sts hv).long + 1 by omega)
      refine ⟨_, rfl, (.inl ⟨rfl, _, SqL.of eS4⟩), _, rfl, DL, _, 71, _, rfl, rfl, y71, a71, .inl ⟨_, rfl, _, rfl, d, _, rfl, getK (r10 _ _ e1) e2, _, _, rfl, rfl, _, _, rfl, rfl, (show 0 < (mkW gs n sts hv).long + 1 by omega), two, fun T9 hT9 => ?_⟩⟩
      have gT9 := same_new (o := .tup [V.int (d71 % ((mkW gs n sts hv).long + 1)), V.int 1]) hT9
      have f9 : Fr K (upd Hk T9 (.tup [V.int (d71 % ((mkW gs n sts hv).long + 1)), V.int 1])) (.ref T9) ((d71 % ((mkW gs n sts hv).long + 1) : Int) : Rat) := fr_int (SqT.of upd_same)
      have eS5 := gT9 _ _ eS4
      refine ⟨S3, z3, _, rfl, rfl, eS5, small_lt (by omega), ?_⟩
      have kp9 : Keep (upd Hk T9 (.tup [V.int (d71 % ((mkW gs n sts hv).long + 1)), V.int 1])) (upd (upd Hk T9 (.tup [V.int (d71 % ((mkW gs n sts hv).long + 1)), V.int 1])) S3 (.lst (z3 ++ [V.ref T9]))) := Keep.upd (by rw [eS5]; exact trivial)
      have sS6 := ((sS4.keep (Same.keep gT9)).app (SpL.one f9 (spt_int o u0 (by omega)))).keep kp9
      have eS6 : (upd (upd Hk T9 (.tup [V.int (d71 % ((mkW gs n sts hv).long + 1)), V.int 1])) S3 (.lst (z3 ++ [V.ref T9]))) S3 = some (.lst (z3 ++ [V.ref T9])) := upd_same
      have r11 := same_mut (o := .lst (z3 ++ [V.ref T9])) (r10.trans gT9) S30
      have nsS : sd ≠ S3 := by rintro rfl; rw [(q10.trans gT9) _ _ esd] at eS5; cases eS5
      have esd11 : (upd (upd Hk T9 (.tup [V.int (d71 % ((mkW gs n sts hv).long + 1)), V.int 1])) S3 (.lst (z3 ++ [V.ref T9]))) sd = some (.dT kv) := by rw [upd_ne nsS]; exact gT9 _ _ (q10 _ _ esd)
      have fl11 := (fl.imp fun _ _ _ _ z => z.keep (Same.keep (q10.trans gT9))).imp fun _ _ _ _ z => z.keep kp9
      have l4' : (z3 ++ [V.ref T9]).length ≤ 21 ∧ 0 < (z3 ++ [V.ref T9]).length := by rw [List.length_append]; show _ + 1 ≤ 21 ∧ 0 < _ + 1; omega
      generalize z3 ++ [V.ref T9] = z4 at kp9 sS6 eS6 r11 esd11 fl11 l4'
      generalize upd (upd Hk T9 (.tup [V.int (d71 % ((mkW gs n sts hv).long + 1)), V.int 1])) S3 (.lst z4) = Hl at kp9 sS6 eS6 r11 esd11 fl11
      -- at three of them
      refine ⟨3, rfl, by decide, by decide, for_range (lo := 0) (n := 3) (fun j σ H' => ∃ x1 x7 x8 x9, σ = [some (.ref l), x1, some (.ref DL), some (.ref d), some (.ref p), some (.ref sd), some (.ref S3), x7, x8, x9] ∧ Same Hl H') ⟨_, _, _, _, rfl, Same.refl _⟩ (fun j σ Hm hj I => ?_) (fun σ Hm I => ?_)⟩
      · obtain ⟨x1, x7, x8, x9, rfl, sm⟩ := I
        have r12 := r11.trans sm
        have eS12 := sm _ _ eS6
        obtain ⟨xs72, d72, y72, a72, b72, c72⟩ := ((dg3.same s4).same r12).get (j := 72 + (0 + (j : Nat))) (by omega) (by omega)
        have v0 := Int.emod_nonneg d72 (show ((z4.length : Nat) : Int) ≠ 0 by omega)
        have v1 := Int.emod_lt_of_pos d72 (show 0 < ((z4.length : Nat) : Int) by omega)
        have hz : (d72 % ((z4.length : Nat) : Int)).toNat < z4.length := by omega
        obtain ⟨q, fq, spq⟩ := sS6 _ (List.getElem_mem hz)
        refine ⟨_, rfl, _, rfl, _, rfl, _, rfl, _, rfl, _, rfl, _, _, rfl, rfl, DL, _, _, _, rfl, rfl, y72, a72, .inl ⟨_, rfl, _, rfl, S3, _, rfl, .inl (SqL.of eS12), _, _, rfl, rfl, (show 0 < ((z4.length : Nat) : Int) by omega), S3, _, _, _, rfl, rfl, SqL.of eS12, at_of (j := (d72 % ((z4.length : Nat) : Int)).toNat) (by omega) (List.getElem?_eq_getElem hz), ?_⟩⟩
        exact ⟨d, p, sd, (mkW gs n sts hv), _, q, kv, rfl, wo4.same r12, o, pl.same r12, sm _ _ esd11, fl11.imp fun _ _ _ _ z => z.same sm, fq.same sm, spq, fun Hn sn => ⟨_, rfl, iteF ⟨_, _, _, _, rfl, sm.trans sn⟩⟩⟩
      obtain ⟨x1, x7, x8, x9, rfl, sm⟩ := I
      have r12 := r11.trans sm
      obtain ⟨ds', hds', lds', bds'⟩ := ((dg3.same s4).same r12).ex
      refine ⟨_, rfl, 60, rfl, DL, _, rfl, hds', fun T6 hT6 => ?_⟩
      have gT6 := same_new (o := .lst (cutV (ds'.map V.int) (some 60) none)) hT6
      have dg6 : Dg K (upd Hm T6 (.lst (cutV (ds'.map V.int) (some 60) none))) T6 20 := Dg.drop (n := 80) 60 ⟨ds', rfl, lds', bds'⟩ upd_same
      exact ⟨T6, 20, rfl, dg6, by decide, fun Hn sn => ⟨_, rfl, iteF ⟨_, _, _, _, _, _, _, _, _, rfl, (((s02.trans s4).trans r12).trans gT6).trans sn⟩⟩⟩
  · obtain ⟨x1, x2, x3, x4, x5, x6, x7, x8, x9, rfl, s0⟩ := I
    exact k H'
end Pf
end

section
namespace Pf
open PySem PySem.Spec PyProof.Rows L2
section
variable {K : PySem.W.Frag} {h : Heap} {mg : Str → Option Value}
theorem ba2 {x y : Bool} (e : (x && y) = true) : x = true ∧ y = true := by
  cases x <;> cases y <;> first | exact ⟨rfl, rfl⟩ | cases e
theorem gaO_ns {x : Str} {a : Addr} (e : gaO K x = some a) : PySem.W.nsIn K mainGlobals x = some (some (.ref a)) := by
  unfold gaO at e
  split at e
  · rename_i b hb
    cases e
    exact hb
  · cases e
theorem fnY_at {d : He.DefD} (e : fnY K d = (true, d.val)) : ∃ a fd, adO K d.at_ = some a ∧ PySem.W.isFn K (.ref a) = true ∧ FunD K d.name d.qual d.params d.body d.scope (d.dvs K) (d.kws K) a fd := by
  unfold fnY at e
  split at e
  · rename_i a ha
    split at e
    · rename_i oc od fd osl hl
      obtain ⟨e1, e2⟩ := Prod.mk.inj e
      obtain ⟨k0, k⟩ := ba2 e1
      obtain ⟨k1, k2⟩ := ba2 k
      obtain ⟨k3, k4⟩ := ba2 k2
      obtain ⟨n1, n2, n3, n4, n5, n6, n7, n8, n9, n10, n11, n12, n13, n14, n15⟩ := fd
      have e3 : (some (n1, n2, n3, n4, n5, n6, n7, n15) : He.FnW) = some (d.name, d.qual, d.params, .stmts d.body, d.scope, mainGlobals, [], builtinsNs) := e2
      simp only [Option.some.injEq, Prod.mk.injEq] at e3
      obtain ⟨h1, h2, h3, h4, h5, h6, h7, h8⟩ := e3
      subst h1 h2 h3 h4 h5 h6 h7 h8
      refine ⟨a, _, ha, k0, ⟨oc, od, n8, n9, n10, n11, n12, n13, n14, osl, rfl, hl, k1, He.dflB_ok k3, He.kwdB_ok k4⟩, ?_⟩
      unfold PySem.W.keepIn
      dsimp only
      rw [hl]
    · cases e
  · cases e
variable (o : obsK K = valY)
include o
theorem fn_at (i : Nat) {d : He.DefD} (hd : fns[i]? = some d) : fnY K d = (true, d.val) := by
  have e : fns.map (fnY K) = fns.map fun d => (true, d.val) := congrArg (fun z : AlY => z.1) o
  have e2 : (fns.map (fnY K))[i]? = (fns.map fun d => (true, d.val))[i]? := by rw [e]
  rw [List.getElem?_map, List.getElem?_map, hd] at e2
  exact Option.some.inj e2
theorem rest_at : cCls.all (clY K) = true ∧ cInts.all (inY K) = true ∧ cTups.all (tuY K) = true ∧ cFrees.all (frY K) = true := by
  have e : (cCls.all (clY K) && (cInts.all (inY K) && (cTups.all (tuY K) && cFrees.all (frY K)))) = true := congrArg (fun z : AlY => z.2) o
  obtain ⟨a, b⟩ := ba2 e
  obtain ⟨b, c⟩ := ba2 b
  obtain ⟨c, d⟩ := ba2 c
  exact ⟨a, b, c, d⟩
variable (X : K.In h) (G : h.Ns mainGlobals mg)
include X G
theorem gd_at (i : Nat) {d : He.DefD} {x : Str} {st : Stmt} (hd : fns[i]? = some d) (e : d = ⟨(x, none), x, x, defArgs st, defBody st, defScope st, [], []⟩) : Gd K mg x st := by
  obtain ⟨a, fd, h1, h2, F⟩ := fnY_at (fn_at o i hd)
  subst e
  have h1' : gaO K x = some a := by
    unfold adO at h1
    split at h1
    · rename_i c hc
      cases h1
      exact hc
    · cases h1
  exact ⟨a, fd, PySem.W.mg_of X G (gaO_ns h1'), F⟩
theorem free_at {x : Str} (hx : x ∈ cFrees) : mg x = none :=
  PySem.W.mg_none_of X G (He.eqO_ok (List.all_eq_true.mp (rest_at o).2.2.2 x hx))
theorem bt_at : Bt mg := by
  constructor <;> exact free_at o X G (by decide +kernel)
omit X G in
theorem md_at (i : Nat) {d : He.DefD} {c : Str} {C : Addr} {m q : Str} {st : Stmt} (hc : gaO K c = some C) (hd : fns[i]? = some d) (e : d = ⟨(c, some m), m, q, defArgs st, defBody st, defScope st, [], []⟩) : Md K C m q st := by
  obtain ⟨a, fd, h1, h2, F⟩ := fnY_at (fn_at o i hd)
  subst e
  have h1 : (match gaO K c with
    | some C => (match PySem.W.findIn K (.ref C) m with
      | some (some (.ref a)) => some a
      | _ => none)
    | none => none) = some a := h1
  rw [hc] at h1
  dsimp only at h1
  split at h1
  · rename_i b hb
    cases h1
    exact ⟨a, fd, ⟨hb, h2, F.kp⟩, F⟩
  · cases h1
omit X G in
theorem init_at (i : Nat) {d : He.DefD} {c : Str} {C : Addr} {q : Str} {st : Stmt} {kws : List (Str × He.Dv)} (hc : gaO K c = some C) (hd : fns[i]? = some d) (e : d = ⟨(c, some "__init__"), "__init__", q, defArgs st, defBody st, defScope st, [], kws⟩) :
    ∃ f fd, PySem.W.findIn K (.ref C) "__init__" = some (some (.ref f)) ∧ PySem.W.isFn K (.ref f) = true ∧ FunD K "__init__" q (defArgs st) (defBody st) (defScope st) [] (kws.map fun q => (q.1, q.2.v K)) f fd := by
  obtain ⟨a, fd, h1, h2, F⟩ := fnY_at (fn_at o i hd)
  subst e
  have h1 : (match gaO K c with
    | some C => (match PySem.W.findIn K (.ref C) "__init__" with
      | some (some (.ref a)) => some a
      | _ => none)
    | none => none) = some a := h1
  rw [hc] at h1
  dsimp only at h1
  split at h1
  · rename_i b hb
    cases h1
    exact ⟨a, fd, hb, h2, F⟩
  · cases h1
omit X G in
theorem cl_at {c : Str} {fs : List Str} (hm : (c, fs) ∈ cCls) : ∃ C, gaO K c = some C ∧ Cls K C ∧ PySem.W.makesIn K C = true ∧ PySem.W.keepIn K (.ref C) = true ∧ ∀ f ∈ fs, NoAttr K C f := by
  have h := List.all_eq_true.mp (rest_at o).1 _ hm
  unfold clY at h
  split at h
  · rename_i C hC
    obtain ⟨a1, h⟩ := ba2 h
    obtain ⟨a2, h⟩ := ba2 h
    obtain ⟨a3, h⟩ := ba2 h
    obtain ⟨a4, h⟩ := ba2 h
    obtain ⟨a5, h⟩ := ba2 h
    obtain ⟨a6, h⟩ := ba2 h
    exact ⟨C, hC, ⟨a1, a2, a3, He.eqO_ok a4⟩, a5, a6, fun f hf => He.eqO_ok (List.all_eq_true.mp h f hf)⟩
  · cases h
theorem int_at {x : Str} {i : Int} (hm : (x, i) ∈ cInts) : ∃ t, mg x = some (.int i t) := by
  have h := List.all_eq_true.mp (rest_at o).2.1 _ hm
  unfold inY at h
  split at h
  · rename_i j t hj
    have e := of_decide_eq_true h
    subst e
    exact ⟨t, PySem.W.mg_of X G hj⟩
  · cases h
theorem tu_at {x : Str} {vs : List V} (hm : (x, vs) ∈ cTups) : ∃ a, mg x = some (.ref a) ∧ ∀ H, SqT K H a vs := by
  have h := List.all_eq_true.mp (rest_at o).2.2.1 _ hm
  unfold tuY at h
  split at h
  · rename_i a ha
    split at h
    · rename_i c od its n osl hl
      obtain ⟨h1, h2⟩ := ba2 h
      obtain ⟨h3, h4⟩ := ba2 h2
      exact ⟨a, PySem.W.mg_of X G (gaO_ns ha), fun H => .inr ⟨_, its, n, hl, congrArg Value.type (of_decide_eq_true h1), rfl, of_decide_eq_true h3, He.relAll_ok h4⟩⟩
    · cases h
  · cases h
end
end Pf
end

section
/-! Each def's promise, one behind another; printed by gen_end.py. -/
namespace Pf
open PySem PySem.Spec PyProof.Rows L2
theorem law_ok {P : Program} {w : World} {K : PySem.W.Frag} {h : Heap} {mg : Str → Option Value} {base : Heap} (o : obsK K = valY) (X : K.In h) (G : h.Ns mainGlobals mg) {f : Addr} {fd : FuncData} (FW : FunD K "law" "law" (defArgs s_law) (defBody s_law) (defScope s_law) [] [] f fd) : FnOk P w K mg base CX0 14 f fd ["_law_script"] (spLaw K) := by
  have B := bt_at o X G
  obtain ⟨no, gno, tno⟩ := tu_at o X G (x := "NOUGHT") (vs := [.int 0, .int 1]) (by simp [cTups])
  obtain ⟨on, gon, ton⟩ := tu_at o X G (x := "ONE") (vs := [.int 1, .int 1]) (by simp [cTups])
  obtain ⟨cP, hP, clP, mkP, kpP, naP⟩ := cl_at o (c := "Plank") (fs := ["long", "stakes", "limit"]) (by simp [cCls])
  obtain ⟨cL, hL, clL, mkL, kpL, naL⟩ := cl_at o (c := "Loads") (fs := ["plank", "weights", "known", "over"]) (by simp [cCls])
  obtain ⟨fP, fdP, iP, isP, FP⟩ := init_at o 15 (d := d_Plank_init) hP rfl rfl
  obtain ⟨fL, fdL, iL, isL, FL⟩ := init_at o 29 (d := d_Loads_init) hL rfl rfl
  obtain ⟨a, ea⟩ : ∃ a : Ad, a = ⟨no, on, cP, cL, fP, fL⟩ := ⟨_, rfl⟩
  have C : Ct K mg a := by
    subst ea
    exact ⟨gno, tno, gon, ton, int_at o X G (by simp [cInts]), int_at o X G (by simp [cInts]), int_at o X G (by simp [cInts]), PySem.W.mg_of X G (gaO_ns hP), clP, ⟨mkP, iP, isP, kpP⟩, naP _ (by simp), naP _ (by simp), naP _ (by simp), PySem.W.mg_of X G (gaO_ns hL), clL, ⟨mkL, iL, isL, kpL⟩, naL _ (by simp), naL _ (by simp), naL _ (by simp), naL _ (by simp)⟩
  have hP : gaO K "Plank" = some a.P := by subst ea; exact hP
  have hL : gaO K "Loads" = some a.L := by subst ea; exact hL
  have FP : FunD K "__init__" "Plank.__init__" (defArgs s_Plank_init) (defBody s_Plank_init) (defScope s_Plank_init) [] [("bend", .non)] a.Pi fdP := by subst ea; exact FP
  have FL : FunD K "__init__" "Loads.__init__" (defArgs s_Loads_init) (defBody s_Loads_init) (defScope s_Loads_init) [] [] a.Li fdL := by subst ea; exact FL
  have D_divisor := ok_divisor (P := P) (w := w) (base := base) (gd_at o X G 1 (d := d_divisor) rfl rfl)
  have D_cut := ok_cut (P := P) (w := w) (base := base) (gd_at o X G 2 (d := d_cut) rfl rfl) B D_divisor
  have D_plus := ok_plus (P := P) (w := w) (base := base) (gd_at o X G 5 (d := d_plus) rfl rfl) D_cut
  have D_less := ok_less (P := P) (w := w) (base := base) (gd_at o X G 6 (d := d_less) rfl rfl) D_cut
  have D_times := ok_times (P := P) (w := w) (base := base) (gd_at o X G 7 (d := d_times) rfl rfl) D_cut
  have D_over := ok_over (P := P) (w := w) (base := base) (gd_at o X G 8 (d := d_over) rfl rfl) D_cut
  have D_is_below := ok_is_below (P := P) (w := w) (base := base) (gd_at o X G 9 (d := d_is_below) rfl rfl)
  have D_whole := ok_whole (P := P) (w := w) (base := base) (gd_at o X G 4 (d := d_whole) rfl rfl)
  have D_is_whole := ok_is_whole (P := P) (w := w) (base := base) (gd_at o X G 0 (d := d_is_whole) rfl rfl) B
  have D_is_fraction := ok_is_fraction (P := P) (w := w) (base := base) (gd_at o X G 3 (d := d_is_fraction) rfl rfl) B D_divisor D_is_whole
  have D_sum_of := ok_sum_of (P := P) (w := w) (base := base) (gd_at o X G 10 (d := d_sum_of) rfl rfl) C D_plus
  have D_least := ok_least (P := P) (w := w) (base := base) (gd_at o X G 11 (d := d_least) rfl rfl) D_is_below
  have D_is_measure := ok_is_measure (P := P) (w := w) (base := base) (gd_at o X G 12 (d := d_is_measure) rfl rfl) C D_is_fraction D_is_below
  have D_Plank_length := ok_length (P := P) (w := w) (base := base) (md_at o 16 (d := d_Plank_length) hP rfl rfl) C
  have D_Plank_count := ok_count (P := P) (w := w) (base := base) (md_at o 18 (d := d_Plank_count) hP rfl rfl) C B
  have D_Plank_props := ok_props (P := P) (w := w) (base := base) (md_at o 17 (d := d_Plank_props) hP rfl rfl) C B
  have D_Plank_place_of := ok_place (P := P) (w := w) (base := base) (md_at o 19 (d := d_Plank_place_of) hP rfl rfl) C B D_is_whole D_Plank_count
  have D_is_prop := ok_is_prop (P := P) (w := w) (base := base) (gd_at o X G 13 (d := d_is_prop) rfl rfl) B D_is_whole D_is_measure
  have D_are_props := ok_are_props (P := P) (w := w) (base := base) (gd_at o X G 14 (d := d_are_props) rfl rfl) B C D_is_prop
  have D_Plank_init : If P w K mg base a.Pi ["self", "length", "props", "bend"] [.non] 6 (spPlankInit K a) := by
    obtain ⟨ds, h1, h2⟩ := FP.binds0 (ps := ["self", "length", "props", "bend"]) 3 (by simp) rfl fun D doc pm an cdv ct us ks hl hk => match us, ks, hl, hk with
      | [_, _, _], [_], _, _ => ⟨_, _, _, _, _, _, rfl, rfl, rfl⟩
    exact ⟨_, ds, h1, h2, ok_plank_init (ds := ds) FP B C D_is_whole D_is_measure D_are_props⟩
  have D_is_lot := ok_is_lot (P := P) (w := w) (base := base) (gd_at o X G 20 (d := d_is_lot) rfl rfl) B C D_is_whole D_Plank_count
  have D_lot_of := ok_lot_of (P := P) (w := w) (base := base) (gd_at o X G 21 (d := d_lot_of) rfl rfl) B C D_is_lot D_Plank_count
  have D_check_prop := ok_check_prop (P := P) (w := w) (base := base) (gd_at o X G 22 (d := d_check_prop) rfl rfl) D_is_whole
  have D_rests_of := ok_rests_of (P := P) (w := w) (base := base) (gd_at o X G 23 (d := d_rests_of) rfl rfl) C D_Plank_count
  have D_is_spot := ok_is_spot (P := P) (w := w) (base := base) (gd_at o X G 24 (d := d_is_spot) rfl rfl) C D_is_measure D_is_below D_whole D_Plank_length
  have D_check_spot := ok_check_spot (P := P) (w := w) (base := base) (gd_at o X G 25 (d := d_check_spot) rfl rfl) D_is_spot
  have D_is_weight := ok_is_weight (P := P) (w := w) (base := base) (gd_at o X G 26 (d := d_is_weight) rfl rfl) B C D_is_spot D_is_fraction D_is_below
  have D_check_weights := ok_check_weights (P := P) (w := w) (base := base) (gd_at o X G 27 (d := d_check_weights) rfl rfl) B D_is_weight
  have D_slope := ok_slope (P := P) (w := w) (base := base) (gd_at o X G 28 (d := d_slope) rfl rfl) D_over D_less D_whole
  have D_Loads_share := ok_share (P := P) (w := w) (base := base) (md_at o 30 (d := d_Loads_share) hL rfl rfl) C D_whole D_is_below D_slope D_less D_Plank_place_of D_Plank_count
  have D_Loads_lies_on := ok_lies (P := P) (w := w) (base := base) (md_at o 31 (d := d_Loads_lies_on) hL rfl rfl) C D_times D_sum_of D_Loads_share
  have D_Loads_is_overlaid := ok_isover (P := P) (w := w) (base := base) (md_at o 32 (d := d_Loads_is_overlaid) hL rfl rfl) C D_is_below D_Loads_lies_on
  have D_Loads_init : If P w K mg base a.Li ["self", "plank", "weights"] [] 1 (spLoadsInit a) :=
    ⟨_, [], .nil, FL.bindsN fun _ _ _ _ _ _ us hl => match us, hl with | [_, _, _], _ => rfl, ok_loads_init FL C⟩
  have D_loads_of := ok_loads_of (P := P) (w := w) (base := base) (gd_at o X G 33 (d := d_loads_of) rfl rfl) B C D_check_weights D_Loads_init
  have D_overlaid_between := ok_overb (P := P) (w := w) (base := base) (gd_at o X G 34 (d := d_overlaid_between) rfl rfl) B C D_Loads_is_overlaid
  have D_without := ok_without (P := P) (w := w) (base := base) (gd_at o X G 35 (d := d_without) rfl rfl) B
  have D_settled_between := ok_setb (P := P) (w := w) (base := base) (gd_at o X G 36 (d := d_settled_between) rfl rfl) D_overlaid_between D_without
  have D_settled := ok_settled (P := P) (w := w) (base := base) (gd_at o X G 37 (d := d_settled) rfl rfl) C D_settled_between D_Plank_count
  have D_overlaid := ok_overlaid (P := P) (w := w) (base := base) (gd_at o X G 38 (d := d_overlaid) rfl rfl) C D_overlaid_between D_Plank_count
  have D_are_unlike_props := ok_unlike (P := P) (w := w) (base := base) (gd_at o X G 39 (d := d_are_unlike_props) rfl rfl) B D_is_whole
  have D_with_sides := ok_sides (P := P) (w := w) (base := base) (gd_at o X G 40 (d := d_with_sides) rfl rfl) B D_rests_of
  have D_spare_at := ok_spare (P := P) (w := w) (base := base) (gd_at o X G 41 (d := d_spare_at) rfl rfl) C D_less D_Plank_props D_Loads_lies_on
  have D_going := ok_going (P := P) (w := w) (base := base) (gd_at o X G 42 (d := d_going) rfl rfl) C D_with_sides D_less D_times D_spare_at D_is_below D_Loads_share
  have D_most_at := ok_most (P := P) (w := w) (base := base) (gd_at o X G 43 (d := d_most_at) rfl rfl) C D_with_sides D_over D_spare_at D_least D_Loads_share
  have D_falls_of := ok_falls (P := P) (w := w) (base := base) (gd_at o X G 44 (d := d_falls_of) rfl rfl) C D_settled D_lot_of D_most_at D_going D_without
  have D_further := ok_further (P := P) (w := w) (base := base) (gd_at o X G 45 (d := d_further) rfl rfl) D_loads_of D_check_spot D_falls_of
  have D_goes_so := ok_goes (P := P) (w := w) (base := base) (gd_at o X G 46 (d := d_goes_so) rfl rfl) D_overlaid D_going D_without
  have D_is_part := ok_is_part (P := P) (w := w) (base := base) (gd_at o X G 47 (d := d_is_part) rfl rfl) B C D_are_unlike_props D_goes_so D_is_lot D_most_at D_is_fraction
  have D_is_further := ok_is_further (P := P) (w := w) (base := base) (gd_at o X G 48 (d := d_is_further) rfl rfl) B D_loads_of D_check_spot D_lot_of D_is_part
  have D_felled := ok_felled (P := P) (w := w) (base := base) (gd_at o X G 49 (d := d_felled) rfl rfl) D_loads_of D_check_spot D_falls_of D_check_prop
  have D_law_cut := ok_lcut (P := P) (w := w) (base := base) (gd_at o X G 52 (d := d_law_cut) rfl rfl) B
  have D_law_plus := ok_lplus (P := P) (w := w) (base := base) (gd_at o X G 53 (d := d_law_plus) rfl rfl) D_law_cut
  have D_law_minus := ok_lminus (P := P) (w := w) (base := base) (gd_at o X G 54 (d := d_law_minus) rfl rfl) D_law_cut
  have D_law_by := ok_lby (P := P) (w := w) (base := base) (gd_at o X G 55 (d := d_law_by) rfl rfl) D_law_cut
  have D_law_part_of := ok_lpart (P := P) (w := w) (base := base) (gd_at o X G 56 (d := d_law_part_of) rfl rfl) D_law_cut
  have D_law_is_below := ok_lbelow (P := P) (w := w) (base := base) (gd_at o X G 57 (d := d_law_is_below) rfl rfl)
  have D_law_amid := ok_lamid (P := P) (w := w) (base := base) (gd_at o X G 68 (d := d_law_amid) rfl rfl) D_law_part_of D_law_plus
  have D_law_cell := ok_lcell (P := P) (w := w) (base := base) (gd_at o X G 50 (d := d_law_cell) rfl rfl) B
  have D_law_digits := ok_ldigits (P := P) (w := w) (base := base) (gd_at o X G 51 (d := d_law_digits) rfl rfl) B
  have D_law_share := ok_lshare (P := P) (w := w) (base := base) (gd_at o X G 58 (d := d_law_share) rfl rfl) D_law_is_below D_law_cut
  have D_law_load := ok_lload (P := P) (w := w) (base := base) (gd_at o X G 59 (d := d_law_load) rfl rfl) D_law_plus D_law_by D_law_share
  have D_law_keys := ok_lkeys (P := P) (w := w) (base := base) (gd_at o X G 60 (d := d_law_keys) rfl rfl) B
  have D_law_heavy := ok_lheavy (P := P) (w := w) (base := base) (gd_at o X G 61 (d := d_law_heavy) rfl rfl) B D_law_cut
  have D_law_world := ok_lworld (P := P) (w := w) (base := base) (gd_at o X G 62 (d := d_law_world) rfl rfl) B D_law_heavy D_law_load D_law_plus
  have D_law_made := ok_lmade (P := P) (w := w) (base := base) (gd_at o X G 63 (d := d_law_made) rfl rfl) B C D_Plank_init
  have D_law_spares := ok_lspares (P := P) (w := w) (base := base) (gd_at o X G 64 (d := d_law_spares) rfl rfl) B D_law_keys D_law_minus D_law_load
  have D_law_greatest := ok_lgreatest (P := P) (w := w) (base := base) (gd_at o X G 65 (d := d_law_greatest) rfl rfl) B
  have D_law_left := ok_lleft (P := P) (w := w) (base := base) (gd_at o X G 66 (d := d_law_left) rfl rfl) D_law_is_below D_law_by D_law_greatest
  have D_law_rising := ok_lrising (P := P) (w := w) (base := base) (gd_at o X G 67 (d := d_law_rising) rfl rfl) B D_law_is_below
  have D_law_row := ok_lrow (P := P) (w := w) (base := base) (gd_at o X G 70 (d := d_law_row) rfl rfl) B D_law_minus D_law_by
  have D_law_due := ok_ldue (P := P) (w := w) (base := base) (gd_at o X G 71 (d := d_law_due) rfl rfl) B D_law_share D_law_part_of D_law_rising D_law_left D_law_row D_law_plus D_law_amid
  have D_law_right := ok_lright (P := P) (w := w) (base := base) (gd_at o X G 72 (d := d_law_right) rfl rfl) B D_law_due D_further D_is_further D_felled
  have D_law_fine := ok_lfine (P := P) (w := w) (base := base) (gd_at o X G 69 (d := d_law_fine) rfl rfl) B D_law_cut D_law_plus
  have D_law_bare_right := ok_lbare (P := P) (w := w) (base := base) (gd_at o X G 73 (d := d_law_bare_right) rfl rfl) B C D_law_cut D_Plank_init D_further D_is_further
  exact ok_law FW B D_law_digits D_law_cell D_law_world D_law_fine D_law_made D_law_spares D_law_cut D_law_right D_law_bare_right
end Pf
end

section
open PySem PySem.W PySem.Calls PyProof.Rows
theorem PySem.Challenge.cw_propfall_k41_whole_all_further_weights_b_holds : PySem.Challenge.rw_propfall_k41_whole_all_further_weights_b.Holds := by
  w_on; o_law
  refine HandSHeadRun.head_any (r := OpenLaw.row PySem.Challenge.rw_propfall_k41_whole_all_further_weights_b) (q := view (OpenLaw.row PySem.Challenge.rw_propfall_k41_whole_all_further_weights_b).prog [87]) (H := Pf.hkY) (ob := Pf.ob) (M := 6000) (loose := Pf.loose) (d := HandSHeadRun.topDef (OpenLaw.row PySem.Challenge.rw_propfall_k41_whole_all_further_weights_b).prog 87) (kwd := []) Pf.ob_eq
    (by kernel_rfl) (fun s => by kernel_rfl) Pf.run (by kernel_rfl) (by kernel_rfl) (by kernel_rfl) (by rfl) (by first | assumption | decide +kernel) (by decide +kernel) ⟨rfl, rfl, rfl, rfl, rfl, by decide +kernel⟩ ?hw ?hc
  case hw => w_witness2
  case hc =>
    refine L2.walk_ofE (l := PySem.Challenge.rw_propfall_k41_whole_all_further_weights_b) (n := 63) (k := 14) (x := "_law_script") (CX := L2.CX0) rfl (by decide) (by kernel_rfl) ⟨rfl, by decide, by decide⟩ ?F (fun _ _ _ _ z => z)
    intro w mg fa h Y G hmg0
    obtain ⟨K, KX, c⟩ := Y
    have hmg : mg ("law" : PySem.Str) = some (.ref fa) := by
      have e : (HandSHeadRun.topDef (OpenLaw.row PySem.Challenge.rw_propfall_k41_whole_all_further_weights_b).prog 87).name = ("law" : PySem.Str) := by kernel_rfl
      rw [← e]
      exact hmg0
    obtain ⟨f, fd, h1, F⟩ := Pf.gd_at c KX G 74 (d := Pf.d_law) (x := "law") (st := Pf.s_law) rfl rfl
    rw [hmg] at h1
    cases h1
    refine ⟨K, fd, Pf.spLaw K, KX, fun s u => L2.FunD.bindsA (ps := ["_law_script"]) F (fun _ _ _ _ _ _ us hl => match us, hl with | [_], _ => rfl) s [u] rfl, fun H a ns hl _ hS => ⟨a, ns, rfl, hS, fun _ => rfl⟩, fun base KB GB => Pf.law_ok (P := (PySem.Challenge.rw_propfall_k41_whole_all_further_weights_b).prog) (w := w) (base := base) c KX G F⟩
end
