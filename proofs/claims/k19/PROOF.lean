import PyProof.Rows.All
import Wide.All
import OpenK.AllK
import Wide.FinOn
import HandS.ForMost
import HandS.Walk
import HandS.Style
import HandS.Conv
import HandS.IsInst
import HandS.Zip
import HandS.TupAny
import HandS.Wide
import HandS.WideBits
import KE.KDictZip
import HandS.More
import HandS.Small
import PySem.Challenge.RW_etaparts_k19_whole_same_numbers_for_ever
set_option Elab.async false
set_option linter.all false
set_option maxRecDepth 100000
/-! K19A: the plain mathematics of the law. No program here. -/
namespace K19

/-- a PRODUCT's powers: (step, power) -/
abbrev Pows := List (Int × Int)

/-- the power at a step, 0 where there is none -/
def lk : Pows → Int → Int
  | [], _ => 0
  | y :: r, x => if y.1 = x then y.2 else lk r x

structure Valid (m : Int) (ps : Pows) : Prop where
  srt : ps.Pairwise (fun a b => a.1 < b.1)
  bnd : ∀ x ∈ ps, 1 ≤ x.1 ∧ x.1 ≤ m ∧ x.2 ≠ 0 ∧ -60 ≤ x.2 ∧ x.2 ≤ 60
  len : ps.length ≤ 12

theorem Valid.mono {m n : Int} {ps : Pows} (v : Valid m ps) (h : m ≤ n) : Valid n ps :=
  ⟨v.srt, fun x hx => by have := v.bnd x hx; omega, v.len⟩
theorem Valid.tail {m : Int} {y : Int × Int} {r : Pows} (v : Valid m (y :: r)) : Valid m r :=
  ⟨(List.pairwise_cons.mp v.srt).2, fun x hx => v.bnd x (List.mem_cons_of_mem _ hx), by have := v.len; rw [List.length_cons] at this; omega⟩

/-- no key here: 0 -/
theorem lk_none : ∀ {ps : Pows} {x : Int}, (∀ y ∈ ps, y.1 ≠ x) → lk ps x = 0
  | [], _, _ => rfl
  | y :: r, x, h => by
    unfold lk
    rw [if_neg (h y List.mem_cons_self)]
    exact lk_none fun z hz => h z (List.mem_cons_of_mem _ hz)
theorem lk_mem : ∀ {ps : Pows} {x : Int}, lk ps x ≠ 0 → ∃ y ∈ ps, y.1 = x
  | [], _, h => absurd rfl h
  | y :: r, x, h => by
    unfold lk at h
    by_cases e : y.1 = x
    · exact ⟨y, List.mem_cons_self, e⟩
    · rw [if_neg e] at h
      obtain ⟨z, hz, e2⟩ := lk_mem h
      exact ⟨z, List.mem_cons_of_mem _ hz, e2⟩
theorem lk_cons_eq {y : Int × Int} {r : Pows} {x : Int} (e : y.1 = x) : lk (y :: r) x = y.2 := if_pos e
theorem lk_cons_ne {y : Int × Int} {r : Pows} {x : Int} (e : y.1 ≠ x) : lk (y :: r) x = lk r x := if_neg e
theorem lk_above {ps : Pows} {x : Int} (h : ∀ y ∈ ps, x < y.1) : lk ps x = 0 :=
  lk_none fun y hy e => by have := h y hy; omega

/-- sorted lists without 0 that have the same powers below d are the same below d -/
theorem canon_lt : ∀ {ps qs : Pows} (d : Int), ps.Pairwise (fun a b => a.1 < b.1) → qs.Pairwise (fun a b => a.1 < b.1) → (∀ x ∈ ps, x.2 ≠ 0) → (∀ x ∈ qs, x.2 ≠ 0) →
    (∀ s, s < d → lk ps s = lk qs s) → ps.filter (fun x => decide (x.1 < d)) = qs.filter (fun x => decide (x.1 < d))
  | [], [], _, _, _, _, _, _ => rfl
  | [], q :: qs, d, _, hq, _, nq, h => by
    have hq' := List.pairwise_cons.mp hq
    have big : ¬ q.1 < d := fun l => by
      have e := h q.1 l
      rw [lk_cons_eq rfl] at e
      exact nq q List.mem_cons_self e.symm
    have e : (q :: qs).filter (fun x => decide (x.1 < d)) = [] := List.filter_eq_nil_iff.mpr fun x hx => by
      rcases List.mem_cons.mp hx with z | z
      · rw [z]; simpa using big
      · have := hq'.1 x z
        simp; omega
    rw [e]; rfl
  | p :: ps, [], d, hp, _, np, _, h => by
    have hp' := List.pairwise_cons.mp hp
    have big : ¬ p.1 < d := fun l => by
      have e := h p.1 l
      rw [lk_cons_eq rfl] at e
      exact np p List.mem_cons_self e
    have e : (p :: ps).filter (fun x => decide (x.1 < d)) = [] := List.filter_eq_nil_iff.mpr fun x hx => by
      rcases List.mem_cons.mp hx with z | z
      · rw [z]; simpa using big
      · have := hp'.1 x z
        simp; omega
    rw [e]; rfl
  | p :: ps, q :: qs, d, hp, hq, np, nq, h => by
    have hp' := List.pairwise_cons.mp hp
    have hq' := List.pairwise_cons.mp hq
    by_cases l : p.1 < d ∨ q.1 < d
    · -- the heads agree
      have e1 : p.1 = q.1 := by
        rcases Int.lt_trichotomy p.1 q.1 with z | z | z
        · exfalso
          have e := h p.1 (by omega)
          rw [lk_cons_eq rfl, lk_above (fun y hy => by
            rcases List.mem_cons.mp hy with w | w
            · rw [w]; exact z
            · have := hq'.1 y w; omega)] at e
          exact np p List.mem_cons_self e
        · exact z
        · exfalso
          have e := h q.1 (by omega)
          rw [lk_cons_eq (y := q) rfl, lk_above (fun y hy => by
            rcases List.mem_cons.mp hy with w | w
            · rw [w]; exact z
            · have := hp'.1 y w; omega)] at e
          exact nq q List.mem_cons_self e.symm
      have e2 : p.2 = q.2 := by
        have e := h p.1 (by omega)
        rw [lk_cons_eq rfl, lk_cons_eq e1.symm] at e
        exact e
      have e3 : p = q := Prod.ext e1 e2
      subst e3
      have ih := canon_lt (ps := ps) (qs := qs) d hp'.2 hq'.2 (fun x hx => np x (List.mem_cons_of_mem _ hx)) (fun x hx => nq x (List.mem_cons_of_mem _ hx)) (fun s hs => by
        by_cases z : p.1 = s
        · rw [lk_above (fun y hy => by have := hp'.1 y hy; omega), lk_above (fun y hy => by have := hq'.1 y hy; omega)]
        · have e := h s hs
          rw [lk_cons_ne z, lk_cons_ne z] at e
          exact e)
      rw [List.filter_cons, List.filter_cons, ih]
    · have f1 : (p :: ps).filter (fun x => decide (x.1 < d)) = [] := List.filter_eq_nil_iff.mpr fun x hx => by
        rcases List.mem_cons.mp hx with z | z
        · rw [z]; simp; omega
        · have := hp'.1 x z
          simp; omega
      have f2 : (q :: qs).filter (fun x => decide (x.1 < d)) = [] := List.filter_eq_nil_iff.mpr fun x hx => by
        rcases List.mem_cons.mp hx with z | z
        · rw [z]; simp; omega
        · have := hq'.1 x z
          simp; omega
      rw [f1, f2]
/-- the same powers everywhere: the same list -/
theorem canon {m : Int} {ps qs : Pows} (vp : Valid m ps) (vq : Valid m qs) (h : ∀ s, lk ps s = lk qs s) : ps = qs := by
  have e := canon_lt (m + 1) vp.srt vq.srt (fun x hx => (vp.bnd x hx).2.2.1) (fun x hx => (vq.bnd x hx).2.2.1) (fun s _ => h s)
  have f : ∀ {l : Pows}, Valid m l → l.filter (fun x => decide (x.1 < m + 1)) = l := fun {l} v => List.filter_eq_self.mpr fun x hx => by
    have := v.bnd x hx
    simp; omega
  rw [f vp, f vq] at e
  exact e
/-- what stands at d alone -/
def midP (ps : Pows) (d : Int) : Pows := if lk ps d = 0 then [] else [(d, lk ps d)]
/-- below d, at d, above d -/
theorem split_at : ∀ {ps : Pows} (d : Int), ps.Pairwise (fun a b => a.1 < b.1) → (∀ x ∈ ps, x.2 ≠ 0) →
    ps = ps.filter (fun x => decide (x.1 < d)) ++ (midP ps d ++ ps.filter (fun x => decide (d < x.1)))
  | [], _, _, _ => rfl
  | p :: ps, d, hp, np => by
    have hp' := List.pairwise_cons.mp hp
    have ih := split_at (ps := ps) d hp'.2 (fun x hx => np x (List.mem_cons_of_mem _ hx))
    rcases Int.lt_trichotomy p.1 d with z | z | z
    · have e1 : midP (p :: ps) d = midP ps d := by
        unfold midP
        rw [lk_cons_ne (by omega)]
      rw [e1, List.filter_cons, if_pos (by simpa using z), List.filter_cons (p := fun x : Int × Int => decide (d < x.1)), if_neg (by simp; omega), List.cons_append, ← ih]
    · have e0 : lk (p :: ps) d = p.2 := lk_cons_eq z
      have e1 : midP (p :: ps) d = [p] := by
        unfold midP
        rw [e0, if_neg (np p List.mem_cons_self)]
        rw [← z]
      have f1 : (p :: ps).filter (fun x => decide (x.1 < d)) = [] := List.filter_eq_nil_iff.mpr fun x hx => by
        rcases List.mem_cons.mp hx with w | w
        · rw [w]; simp; omega
        · have := hp'.1 x w
          simp; omega
      have f2 : ps.filter (fun x => decide (d < x.1)) = ps := List.filter_eq_self.mpr fun x hx => by
        have := hp'.1 x hx
        simp; omega
      rw [e1, f1, List.filter_cons, if_neg (by simp; omega), f2]
      rfl
    · have hb : ∀ x ∈ p :: ps, d < x.1 := fun x hx => by
        rcases List.mem_cons.mp hx with w | w
        · rw [w]; exact z
        · have := hp'.1 x w; omega
      have e1 : midP (p :: ps) d = [] := by
        unfold midP
        rw [if_pos (lk_above hb)]
      have f1 : (p :: ps).filter (fun x => decide (x.1 < d)) = [] := List.filter_eq_nil_iff.mpr fun x hx => by
        have := hb x hx
        simp; omega
      have f2 : (p :: ps).filter (fun x => decide (d < x.1)) = p :: ps := List.filter_eq_self.mpr fun x hx => by
        have := hb x hx
        simpa using this
      rw [e1, f1, f2]
      rfl

/-- the least step of unlike powers -/
def IsDue (f g : Int → Int) : Option Int → Prop
  | none => ∀ s, f s = g s
  | some d => f d ≠ g d ∧ ∀ s, s < d → f s = g s
theorem IsDue.uniq {f g : Int → Int} : ∀ {r t : Option Int}, IsDue f g r → IsDue f g t → r = t
  | none, none, _, _ => rfl
  | none, some d, h, k => absurd (h d) k.1
  | some d, none, h, k => absurd (k d) h.1
  | some d, some e, h, k => by
    have h1 : ¬ d < e := fun l => h.1 (k.2 d l)
    have h2 : ¬ e < d := fun l => k.1 (h.2 e l)
    have : d = e := by omega
    rw [this]
theorem IsDue.symm {f g : Int → Int} : ∀ {r : Option Int}, IsDue f g r → IsDue g f r
  | none, h => fun s => (h s).symm
  | some _, h => ⟨fun e => h.1 e.symm, fun s hs => (h.2 s hs).symm⟩
/-- the first of a sorted list of keys at which they are unlike -/
theorem due_of_filter {ps qs : Pows} {ks : List Int} (hs : ks.Pairwise (· ≤ ·)) (hk : ∀ s, s ∈ ks ↔ (∃ x ∈ ps, x.1 = s) ∨ (∃ x ∈ qs, x.1 = s)) :
    IsDue (lk ps) (lk qs) (ks.filter fun s => decide (lk ps s ≠ lk qs s)).head? := by
  have there : ∀ s, lk ps s ≠ lk qs s → s ∈ ks := fun s h => by
    refine (hk s).mpr ?_
    by_cases e : lk ps s = 0
    · exact .inr (lk_mem fun z => h (by rw [e, z]))
    · exact .inl (lk_mem e)
  cases e : ks.filter fun s => decide (lk ps s ≠ lk qs s) with
  | nil =>
    intro s
    by_cases h : lk ps s = lk qs s
    · exact h
    · have : s ∈ ks.filter fun s => decide (lk ps s ≠ lk qs s) := List.mem_filter.mpr ⟨there s h, by simpa using h⟩
      rw [e] at this
      cases this
  | cons d r =>
    have hd : d ∈ ks.filter fun s => decide (lk ps s ≠ lk qs s) := by rw [e]; exact List.mem_cons_self
    have hd2 := (List.mem_filter.mp hd).2
    refine ⟨by simpa using hd2, fun s hs' => ?_⟩
    by_cases h : lk ps s = lk qs s
    · exact h
    · exfalso
      have hm : s ∈ ks.filter fun s => decide (lk ps s ≠ lk qs s) := List.mem_filter.mpr ⟨there s h, by simpa using h⟩
      have hp := hs.filter fun s => decide (lk ps s ≠ lk qs s)
      rw [e] at hm hp
      rcases List.mem_cons.mp hm with z | z
      · omega
      · have := (List.pairwise_cons.mp hp).1 s z
        omega

/-! ### numbers by the places -/
/-- c(0), c(1), .. put together from the factors F(1) .. F(t) -/
def cP (F : Nat → Int) : Nat → Nat → Int
  | 0, _ => 0
  | t + 1, k => cP F t k - (if k ≠ 0 ∧ k % (t + 1) = 0 then ((t + 1 : Nat) : Int) * F (t + 1) else 0)
/-- the powers in which 1 - q^k stands -/
def facF : Pows → Nat → Int
  | [], _ => 0
  | x :: r, k => facF r k + (if k ≠ 0 ∧ (k : Int) % x.1 = 0 then x.2 else 0)
theorem facF_zero : ∀ ps : Pows, facF ps 0 = 0
  | [] => rfl
  | x :: r => by
    unfold facF
    rw [facF_zero r]
    simp
theorem facF_append : ∀ (ps qs : Pows) (k : Nat), facF (ps ++ qs) k = facF ps k + facF qs k
  | [], qs, k => by
    show facF qs k = 0 + facF qs k
    omega
  | x :: r, qs, k => by
    show facF (r ++ qs) k + _ = (facF r k + _) + facF qs k
    rw [facF_append r qs k]
    omega
/-- steps above the place do not count there -/
theorem facF_above : ∀ {ps : Pows} {k : Nat}, (∀ x ∈ ps, (k : Int) < x.1) → facF ps k = 0
  | [], _, _ => rfl
  | x :: r, k, h => by
    have hx := h x List.mem_cons_self
    unfold facF
    rw [facF_above fun y hy => h y (List.mem_cons_of_mem _ hy)]
    by_cases e : k = 0
    · rw [if_neg (by omega)]; rfl
    · rw [if_neg (by
        intro z
        rw [Int.emod_eq_of_lt (by omega) hx] at z
        omega)]
      rfl
theorem facF_mid {ps : Pows} {d : Nat} (h0 : d ≠ 0) : facF (midP ps d) d = lk ps d := by
  unfold midP
  by_cases e : lk ps d = 0
  · rw [if_pos e, e]; rfl
  · rw [if_neg e]
    show (0 : Int) + (if d ≠ 0 ∧ (d : Int) % (d : Int) = 0 then lk ps d else 0) = lk ps d
    rw [if_pos ⟨h0, Int.emod_self⟩]
    omega
theorem facF_mid_lt {ps : Pows} {d k : Nat} (h : k < d) : facF (midP ps d) k = 0 := facF_above fun x hx => by
  unfold midP at hx
  by_cases e : lk ps d = 0
  · rw [if_pos e] at hx; cases hx
  · rw [if_neg e] at hx
    have : x = ((d : Int), lk ps d) := by simpa using hx
    rw [this]
    show (k : Int) < (d : Int)
    omega
/-- products that agree below d: their factors agree below d, at d they part by the powers -/
theorem facF_two {m : Int} {ps qs : Pows} {d : Nat} (vp : Valid m ps) (vq : Valid m qs) (h : ∀ s, s < (d : Int) → lk ps s = lk qs s) (hd : d ≠ 0) :
    (∀ k, k < d → facF ps k = facF qs k) ∧ facF ps d - facF qs d = lk ps d - lk qs d := by
  have e := canon_lt d vp.srt vq.srt (fun x hx => (vp.bnd x hx).2.2.1) (fun x hx => (vq.bnd x hx).2.2.1) h
  have sp := split_at (d : Int) vp.srt (fun x hx => (vp.bnd x hx).2.2.1)
  have sq := split_at (d : Int) vq.srt (fun x hx => (vq.bnd x hx).2.2.1)
  have hi : ∀ {l : Pows} {k : Nat}, k ≤ d → facF (l.filter fun x => decide ((d : Int) < x.1)) k = 0 := fun {l k} hk => facF_above fun x hx => by
    have : (d : Int) < x.1 := by simpa using (List.mem_filter.mp hx).2
    omega
  have fp : ∀ k, facF ps k = facF (ps.filter fun x => decide (x.1 < (d : Int))) k + (facF (midP ps d) k + facF (ps.filter fun x => decide ((d : Int) < x.1)) k) := fun k => by
    rw [← facF_append, ← facF_append, ← sp]
  have fq : ∀ k, facF qs k = facF (qs.filter fun x => decide (x.1 < (d : Int))) k + (facF (midP qs d) k + facF (qs.filter fun x => decide ((d : Int) < x.1)) k) := fun k => by
    rw [← facF_append, ← facF_append, ← sq]
  refine ⟨fun k hk => ?_, ?_⟩
  · rw [fp, fq, e, facF_mid_lt hk, facF_mid_lt hk, hi (Nat.le_of_lt hk), hi (Nat.le_of_lt hk)]
  · rw [fp, fq, e, facF_mid hd, facF_mid hd, hi (Nat.le_refl d), hi (Nat.le_refl d)]
    omega
theorem cP_agree {F G : Nat → Int} {d : Nat} (h : ∀ k, k < d → F k = G k) {k : Nat} (hk : k < d) : ∀ t, cP F t k = cP G t k
  | 0 => rfl
  | t + 1 => by
    unfold cP
    rw [cP_agree h hk t]
    by_cases c : k ≠ 0 ∧ k % (t + 1) = 0
    · have : t + 1 ≤ k := Nat.le_of_dvd (by omega) (Nat.dvd_of_mod_eq_zero c.2)
      rw [if_pos c, if_pos c, h (t + 1) (by omega)]
    · rw [if_neg c, if_neg c]
theorem cP_agree_at {F G : Nat → Int} {d : Nat} (h : ∀ k, k < d → F k = G k) : ∀ t, t < d → cP F t d = cP G t d
  | 0, _ => rfl
  | t + 1, ht => by
    unfold cP
    rw [cP_agree_at h t (by omega), h (t + 1) ht]
theorem cP_two {F G : Nat → Int} {d : Nat} (h : ∀ k, k < d → F k = G k) (hd : d ≠ 0) : ∀ t, d ≤ t → cP F t d - cP G t d = -((d : Int) * (F d - G d))
  | 0, ht => by omega
  | t + 1, ht => by
    unfold cP
    by_cases e : t + 1 = d
    · rw [cP_agree_at h t (by omega), e, if_pos ⟨hd, Nat.mod_self d⟩, if_pos ⟨hd, Nat.mod_self d⟩, Int.mul_sub]
      omega
    · have ih := cP_two h hd t (by omega)
      have c : ¬ (d ≠ 0 ∧ d % (t + 1) = 0) := fun z => by
        have := Nat.mod_eq_of_lt (show d < t + 1 by omega)
        omega
      rw [if_neg c, if_neg c]
      omega
/-- place times the number -/
def whole (c : Nat → Int) (L : List Int) (n : Nat) : Int := ((List.range n).map fun i => c (i + 1) * L.getD (n - (i + 1)) 0).sum
/-- the numbers a(0) .. a(m) -/
def numL (c : Nat → Int) : Nat → List Int
  | 0 => [1]
  | m + 1 => numL c m ++ [whole c (numL c m) (m + 1) / ((m + 1 : Nat) : Int)]
theorem numL_len (c : Nat → Int) : ∀ m, (numL c m).length = m + 1
  | 0 => rfl
  | m + 1 => by
    unfold numL
    rw [List.length_append, numL_len c m]
    rfl
theorem sum_map_congr {α : Type} {f g : α → Int} : ∀ {l : List α}, (∀ x ∈ l, f x = g x) → (l.map f).sum = (l.map g).sum
  | [], _ => rfl
  | a :: l, h => by
    rw [List.map_cons, List.map_cons, List.sum_cons, List.sum_cons, h a List.mem_cons_self, sum_map_congr fun x hx => h x (List.mem_cons_of_mem _ hx)]
theorem numL_agree {c c' : Nat → Int} {d : Nat} (h : ∀ k, k < d → c k = c' k) : ∀ m, m < d → numL c m = numL c' m
  | 0, _ => rfl
  | m + 1, hm => by
    unfold numL
    rw [numL_agree h m (by omega)]
    have e : whole c (numL c' m) (m + 1) = whole c' (numL c' m) (m + 1) := sum_map_congr fun i hi => by
      have : i < m + 1 := List.mem_range.mp hi
      rw [h (i + 1) (by omega)]
    rw [e]
theorem numL_head (c : Nat → Int) : ∀ m, (numL c m)[0]? = some 1
  | 0 => rfl
  | m + 1 => by
    unfold numL
    rw [List.getElem?_append_left (by rw [numL_len]; omega)]
    exact numL_head c m
theorem numL_take (c : Nat → Int) (m : Nat) : ∀ j, (numL c (m + j)).take (m + 1) = numL c m
  | 0 => List.take_of_length_le (by rw [numL_len]; omega)
  | j + 1 => by
    show (numL c (m + j) ++ _).take (m + 1) = numL c m
    rw [List.take_append_of_le_length (by rw [numL_len]; omega)]
    exact numL_take c m j
theorem numL_get {c : Nat → Int} {m n i : Nat} (h : i ≤ m) (h2 : m ≤ n) : (numL c n)[i]? = (numL c m)[i]? := by
  have e := numL_take c m (n - m)
  rw [show m + (n - m) = n by omega] at e
  rw [← e, List.getElem?_take]
  rw [if_pos (by omega)]
/-- the sums part by the last alone -/
theorem whole_two {c c' : Nat → Int} {d : Nat} {L : List Int} (h : ∀ k, k < d → c k = c' k) (hd : d ≠ 0) (h1 : L[0]? = some 1) : whole c L d - whole c' L d = c d - c' d := by
  obtain ⟨m, rfl⟩ : ∃ m, d = m + 1 := ⟨d - 1, by omega⟩
  unfold whole
  rw [List.range_succ, List.map_append, List.map_append, List.sum_append, List.sum_append]
  have e : ((List.range m).map fun i => c (i + 1) * L.getD (m + 1 - (i + 1)) 0).sum = ((List.range m).map fun i => c' (i + 1) * L.getD (m + 1 - (i + 1)) 0).sum := sum_map_congr fun i hi => by
    have : i < m := List.mem_range.mp hi
    rw [h (i + 1) (by omega)]
  rw [e]
  have g : L.getD 0 0 = 1 := by
    rw [List.getD_eq_getElem?_getD, h1]
    rfl
  simp only [List.map_cons, List.map_nil, List.sum_cons, List.sum_nil, Nat.sub_self]
  rw [g]
  omega
theorem div_shift {a b n p : Int} (hn : 0 < n) (h : a - b = n * p) : a / n - b / n = p := by
  have : a = b + n * p := by omega
  rw [this, Int.add_mul_ediv_left _ _ (by omega)]
  omega
/-- the rows of two products that part at d -/
theorem rows_part {c c' : Nat → Int} {d n : Nat} {p : Int} (h : ∀ k, k < d → c k = c' k) (hd : d ≠ 0) (hn : d ≤ n) (hp : c d - c' d = (d : Int) * p) (h0 : p ≠ 0) :
    (∀ i, i < d → (numL c n)[i]? = (numL c' n)[i]?) ∧ (numL c n)[d]? ≠ (numL c' n)[d]? := by
  obtain ⟨m, rfl⟩ : ∃ m, d = m + 1 := ⟨d - 1, by omega⟩
  have e := numL_agree h m (by omega)
  refine ⟨fun i hi => ?_, ?_⟩
  · rw [numL_get (m := m) (by omega) (by omega), numL_get (c := c') (m := m) (by omega) (by omega), e]
  · rw [numL_get (m := m + 1) (by omega) hn, numL_get (c := c') (m := m + 1) (by omega) hn]
    show (numL c m ++ [_])[m + 1]? ≠ (numL c' m ++ [_])[m + 1]?
    rw [e]
    have l1 : (numL c' m).length = m + 1 := numL_len c' m
    rw [List.getElem?_append_right (by omega), List.getElem?_append_right (by omega), l1, Nat.sub_self]
    intro z
    have z2 : whole c (numL c' m) (m + 1) / ((m + 1 : Nat) : Int) = whole c' (numL c' m) (m + 1) / ((m + 1 : Nat) : Int) := by simpa using z
    have w := whole_two (L := numL c' m) h hd (numL_head c' m)
    have q := div_shift (n := ((m + 1 : Nat) : Int)) (p := p) (by omega) (w.trans hp)
    omega
/-! bounds -/
theorem facF_bound : ∀ {ps : Pows} {k : Nat}, (∀ x ∈ ps, -60 ≤ x.2 ∧ x.2 ≤ 60) → (facF ps k).natAbs ≤ 60 * ps.length
  | [], _, _ => by
    show (0 : Int).natAbs ≤ _
    simp
  | x :: r, k, h => by
    have ih := facF_bound (ps := r) (k := k) fun y hy => h y (List.mem_cons_of_mem _ hy)
    have hx := h x List.mem_cons_self
    unfold facF
    rw [List.length_cons]
    split <;> omega
theorem cP_bound {F : Nat → Int} {B : Nat} (h : ∀ k, (F k).natAbs ≤ B) (k : Nat) : ∀ t, (cP F t k).natAbs ≤ t * (t * B)
  | 0 => by
    show (0 : Int).natAbs ≤ _
    simp
  | t + 1 => by
    have ih := cP_bound h k t
    unfold cP
    have a1 : (if k ≠ 0 ∧ k % (t + 1) = 0 then ((t + 1 : Nat) : Int) * F (t + 1) else 0).natAbs ≤ (t + 1) * B := by
      split
      · rw [Int.natAbs_mul]
        exact Nat.mul_le_mul (by omega) (h (t + 1))
      · simp
    have a2 : t * (t * B) + (t + 1) * B ≤ (t + 1) * ((t + 1) * B) := by
      have b1 : t * (t * B) ≤ t * ((t + 1) * B) := Nat.mul_le_mul_left t (Nat.mul_le_mul_right B (by omega))
      have b2 : (t + 1) * ((t + 1) * B) = t * ((t + 1) * B) + (t + 1) * B := Nat.succ_mul t _
      omega
    omega
theorem sum_bound {α : Type} {f : α → Int} {B : Nat} : ∀ {l : List α}, (∀ x ∈ l, (f x).natAbs ≤ B) → (l.map f).sum.natAbs ≤ l.length * B
  | [], _ => by simp
  | a :: l, h => by
    have ih := sum_bound (l := l) fun x hx => h x (List.mem_cons_of_mem _ hx)
    have h1 := h a List.mem_cons_self
    rw [List.map_cons, List.sum_cons, List.length_cons, Nat.succ_mul]
    omega
theorem getD_bound {L : List Int} {B : Nat} (h : ∀ x ∈ L, x.natAbs ≤ B) (i : Nat) : (L.getD i 0).natAbs ≤ B := by
  rw [List.getD_eq_getElem?_getD]
  cases e : L[i]? with
  | none => simp
  | some x => exact h x (List.mem_of_getElem? e)
theorem div_bound {a : Int} {n : Nat} {B : Nat} (hn : 0 < n) (h : a.natAbs ≤ n * B) : (a / (n : Int)).natAbs ≤ B := by
  have h1 : a ≤ (n : Int) * B := by
    have : ((n * B : Nat) : Int) = (n : Int) * B := by simp
    omega
  have h2 : -((n : Int) * B) ≤ a := by
    have : ((n * B : Nat) : Int) = (n : Int) * B := by simp
    omega
  have n0 : (0 : Int) < n := by omega
  have u : a / (n : Int) ≤ B := by
    refine Int.ediv_le_of_le_mul n0 ?_
    rw [Int.mul_comm]; exact h1
  have l : -(B : Int) ≤ a / (n : Int) := by
    refine Int.le_ediv_of_mul_le n0 ?_
    rw [Int.neg_mul, Int.mul_comm]; exact h2
  omega
theorem numL_bound {c : Nat → Int} {C : Nat} (hC : 1 ≤ C) (h : ∀ k, (c k).natAbs ≤ C) : ∀ m, ∀ x ∈ numL c m, x.natAbs ≤ C ^ m
  | 0, x, hx => by
    have : x = 1 := by simpa [numL] using hx
    rw [this]
    simp
  | m + 1, x, hx => by
    have ih := numL_bound hC h m
    unfold numL at hx
    have up : C ^ m ≤ C ^ (m + 1) := Nat.pow_le_pow_right hC (by omega)
    rcases List.mem_append.mp hx with z | z
    · exact Nat.le_trans (ih x z) up
    · have e : x = whole c (numL c m) (m + 1) / ((m + 1 : Nat) : Int) := by simpa using z
      rw [e]
      refine div_bound (by omega) ?_
      have b : (whole c (numL c m) (m + 1)).natAbs ≤ (List.range (m + 1)).length * (C * C ^ m) := sum_bound fun i _ => by
        rw [Int.natAbs_mul]
        exact Nat.mul_le_mul (h _) (getD_bound ih _)
      rw [List.length_range] at b
      rw [Nat.pow_succ, Nat.mul_comm (C ^ m) C]
      exact b
/-- the sums c of a product to many places -/
def cS (ps : Pows) (many : Nat) : Nat → Int := cP (facF ps) (many - 1)
/-- its row -/
def rowOf (ps : Pows) (many : Nat) : List Int := numL (cS ps many) (many - 1)
theorem rowOf_len (ps : Pows) {many : Nat} (h : 1 ≤ many) : (rowOf ps many).length = many := by
  unfold rowOf
  rw [numL_len]
  omega
theorem rowOf_bound {m : Int} {ps : Pows} {many : Nat} (v : Valid m ps) (hm : many ≤ 40) : ∀ x ∈ rowOf ps many, x.natAbs < 10 ^ 400 := fun x hx => by
  have b1 : ∀ k, (facF ps k).natAbs ≤ 720 := fun k => by
    have := facF_bound (ps := ps) (k := k) fun x hx => ⟨(v.bnd x hx).2.2.2.1, (v.bnd x hx).2.2.2.2⟩
    have := v.len
    omega
  have b2 : ∀ k, (cS ps many k).natAbs ≤ 40 * (40 * 720) := fun k => by
    refine Nat.le_trans (cP_bound b1 k (many - 1)) ?_
    exact Nat.mul_le_mul (by omega) (Nat.mul_le_mul (by omega) (Nat.le_refl _))
  have b3 := numL_bound (C := 40 * (40 * 720)) (by decide) b2 (many - 1) x hx
  refine Nat.lt_of_le_of_lt (Nat.le_trans b3 (Nat.pow_le_pow_right (by decide) (show many - 1 ≤ 39 by omega))) ?_
  decide +kernel
/-- two products' rows part at the least step of unlike powers -/
theorem rowOf_part {m : Int} {ps qs : Pows} {d n : Nat} (vp : Valid m ps) (vq : Valid m qs) (hd : d ≠ 0) (h : IsDue (lk ps) (lk qs) (some (d : Int))) (hn : d < n) :
    (∀ i, i < d → (rowOf ps n)[i]? = (rowOf qs n)[i]?) ∧ (rowOf ps n)[d]? ≠ (rowOf qs n)[d]? := by
  obtain ⟨f1, f2⟩ := facF_two vp vq h.2 hd
  refine rows_part (d := d) (p := lk qs d - lk ps d) (fun k hk => cP_agree f1 hk _) hd (by omega) ?_ (by have := h.1; omega)
  have e := cP_two f1 hd (n - 1) (by omega)
  rw [f2] at e
  show cP (facF ps) (n - 1) d - cP (facF qs) (n - 1) d = _
  rw [e, ← Int.mul_neg]
  congr 1
  omega

/-! ### the law's own rows -/
/-- the numbers of (1 - q)^p -/
def num (p : Int) : Nat → Int
  | 0 => 1
  | j + 1 => num p j * ((j : Int) - p) / ((j + 1 : Nat) : Int)
/-- a row times (1 - q^place)^p -/
def bf (row : List Int) (place : Nat) (p : Int) : List Int :=
  (List.range row.length).map fun t => ((List.range (t / place + 1)).map fun b => num p b * row.getD (t - b * place) 0).sum
theorem bf_len (row : List Int) (place : Nat) (p : Int) : (bf row place p).length = row.length := by
  unfold bf
  rw [List.length_map, List.length_range]
theorem bf_get {row : List Int} {place : Nat} {p : Int} {t : Nat} (h : t < row.length) :
    (bf row place p)[t]? = some ((List.range (t / place + 1)).map fun b => num p b * row.getD (t - b * place) 0).sum := by
  unfold bf
  rw [List.getElem?_map, List.getElem?_range h]
  rfl
theorem getD_of {L : List Int} {i : Nat} {x : Int} (h : L[i]? = some x) : L.getD i 0 = x := by
  rw [List.getD_eq_getElem?_getD, h]
  rfl
/-- below the place nothing changes -/
theorem bf_lt {row : List Int} {place : Nat} {p : Int} {t : Nat} (ht : t < place) : (bf row place p)[t]? = row[t]? := by
  by_cases h : t < row.length
  · rw [bf_get h, Nat.div_eq_of_lt ht]
    rw [List.getElem?_eq_getElem h]
    show some ((([0] : List Nat).map fun b => num p b * row.getD (t - b * place) 0).sum) = _
    simp only [List.map_cons, List.map_nil, List.sum_cons, List.sum_nil, Nat.zero_mul, Nat.sub_zero]
    rw [getD_of (List.getElem?_eq_getElem h)]
    show some ((1 : Int) * row[t] + 0) = _
    congr 1
    omega
  · rw [List.getElem?_eq_none (by rw [bf_len]; omega), List.getElem?_eq_none (by omega)]
/-- at the place -/
theorem bf_at {row : List Int} {place : Nat} {p : Int} (h0 : 0 < place) (h : place < row.length) (h1 : row[0]? = some 1) : (bf row place p)[place]? = some (row.getD place 0 - p) := by
  rw [bf_get h, Nat.div_self h0]
  show some ((([0, 1] : List Nat).map fun b => num p b * row.getD (place - b * place) 0).sum) = _
  simp only [List.map_cons, List.map_nil, List.sum_cons, List.sum_nil, Nat.zero_mul, Nat.sub_zero, Nat.one_mul, Nat.sub_self]
  rw [getD_of h1]
  have e : num p 1 = -p := by
    show (1 : Int) * ((0 : Nat) - p) / ((0 + 1 : Nat) : Int) = -p
    simp
  rw [e]
  show some ((1 : Int) * row.getD place 0 + (-p * 1 + 0)) = _
  congr 1
  omega
/-- how many multiples of a step from it on stay below many -/
def cnt (s : Int) (many : Nat) : Nat := if s < (many : Int) then (((many : Int) - s - 1) / s + 1).toNat else 0
theorem cnt_lt {s : Int} {many j : Nat} (h1 : 1 ≤ s) (hj : j < cnt s many) : s + (j : Int) * s < many := by
  unfold cnt at hj
  by_cases h : s < (many : Int)
  · rw [if_pos h] at hj
    have a : (j : Int) ≤ ((many : Int) - s - 1) / s := by omega
    have b := (Int.le_ediv_iff_mul_le (by omega)).mp a
    omega
  · rw [if_neg h] at hj
    omega
theorem cnt_big {s : Int} {many : Nat} (h : (many : Int) ≤ s) : cnt s many = 0 := by
  unfold cnt
  rw [if_neg (by omega)]
theorem cnt_one {d : Nat} (h : 0 < d) : cnt (d : Int) (d + 1) = 1 := by
  unfold cnt
  rw [if_pos (by omega)]
  have e : (((d + 1 : Nat) : Int) - (d : Int) - 1) / (d : Int) = 0 := by
    rw [show ((d + 1 : Nat) : Int) - (d : Int) - 1 = 0 by omega]
    exact Int.zero_ediv _
  rw [e]
  rfl
theorem cnt_le {s : Int} {many : Nat} (h1 : 1 ≤ s) : cnt s many ≤ many := by
  by_cases h : cnt s many = 0
  · omega
  · have := cnt_lt (many := many) (j := cnt s many - 1) h1 (by omega)
    have b : (((cnt s many - 1 : Nat)) : Int) * 1 ≤ ((cnt s many - 1 : Nat) : Int) * s := Int.mul_le_mul_of_nonneg_left h1 (by omega)
    omega
def rowIt (row : List Int) (s p : Int) : Nat → List Int
  | 0 => row
  | j + 1 => bf (rowIt row s p j) (s + (j : Int) * s).toNat p
def rowInit (many : Nat) : List Int := (1 :: List.replicate many (0 : Int)).take many
def lawRow (many : Nat) (ps : Pows) : List Int := ps.foldl (fun r x => rowIt r x.1 x.2 (cnt x.1 many)) (rowInit many)
theorem rowIt_len (row : List Int) (s p : Int) : ∀ j, (rowIt row s p j).length = row.length
  | 0 => rfl
  | j + 1 => by
    unfold rowIt
    rw [bf_len, rowIt_len row s p j]
theorem rowIt_head {row : List Int} {s p : Int} (h : 1 ≤ s) : ∀ j, (rowIt row s p j)[0]? = row[0]?
  | 0 => rfl
  | j + 1 => by
    unfold rowIt
    have b : 0 ≤ (j : Int) * s := Int.mul_nonneg (by omega) (by omega)
    rw [bf_lt (by omega)]
    exact rowIt_head h j
theorem rowInit_len (many : Nat) : (rowInit many).length = many := by
  unfold rowInit
  rw [List.length_take, List.length_cons, List.length_replicate]
  omega
theorem rowInit_head {many : Nat} (h : 1 ≤ many) : (rowInit many)[0]? = some 1 := by
  unfold rowInit
  rw [List.getElem?_take, if_pos (by omega)]
  rfl
theorem foldRow_len (many : Nat) : ∀ (ps : Pows) (r : List Int), (ps.foldl (fun r x => rowIt r x.1 x.2 (cnt x.1 many)) r).length = r.length
  | [], _ => rfl
  | x :: ps, r => by
    rw [List.foldl_cons, foldRow_len many ps, rowIt_len]
theorem lawRow_len (many : Nat) (ps : Pows) : (lawRow many ps).length = many := (foldRow_len many ps _).trans (rowInit_len many)
theorem foldRow_head (many : Nat) : ∀ (ps : Pows) (r : List Int), (∀ x ∈ ps, 1 ≤ x.1) → (ps.foldl (fun r x => rowIt r x.1 x.2 (cnt x.1 many)) r)[0]? = r[0]?
  | [], _, _ => rfl
  | x :: ps, r, h => by
    rw [List.foldl_cons, foldRow_head many ps _ fun y hy => h y (List.mem_cons_of_mem _ hy), rowIt_head (h x List.mem_cons_self)]
theorem foldRow_big (many : Nat) : ∀ (ps : Pows) (r : List Int), (∀ x ∈ ps, (many : Int) ≤ x.1) → ps.foldl (fun r x => rowIt r x.1 x.2 (cnt x.1 many)) r = r
  | [], _, _ => rfl
  | x :: ps, r, h => by
    rw [List.foldl_cons, cnt_big (h x List.mem_cons_self)]
    exact foldRow_big many ps r fun y hy => h y (List.mem_cons_of_mem _ hy)
/-- the own row to d + 1 places: that of the steps below d, then the power at d -/
theorem lawRow_split {m : Int} {ps : Pows} {d : Nat} (v : Valid m ps) (hd : 0 < d) :
    (∀ i, i < d → (lawRow (d + 1) ps)[i]? = (lawRow (d + 1) (ps.filter fun x => decide (x.1 < (d : Int))))[i]?) ∧
    (lawRow (d + 1) ps).getD d 0 = (lawRow (d + 1) (ps.filter fun x => decide (x.1 < (d : Int)))).getD d 0 - lk ps d := by
  have sp := split_at (d : Int) v.srt (fun x hx => (v.bnd x hx).2.2.1)
  have low1 : ∀ x ∈ ps.filter (fun x => decide (x.1 < (d : Int))), 1 ≤ x.1 := fun x hx => (v.bnd x (List.mem_filter.mp hx).1).1
  generalize hA : ps.filter (fun x => decide (x.1 < (d : Int))) = A at sp low1 ⊢
  have e : lawRow (d + 1) ps = (midP ps d).foldl (fun r x => rowIt r x.1 x.2 (cnt x.1 (d + 1))) (lawRow (d + 1) A) := by
    have e1 : lawRow (d + 1) ps = lawRow (d + 1) (A ++ (midP ps d ++ ps.filter (fun x => decide ((d : Int) < x.1)))) := by
      rw [← sp]
    rw [e1]
    unfold lawRow
    rw [List.foldl_append, List.foldl_append]
    refine foldRow_big (d + 1) _ _ fun x hx => ?_
    have : (d : Int) < x.1 := by simpa using (List.mem_filter.mp hx).2
    omega
  have hl : (lawRow (d + 1) A).length = d + 1 := lawRow_len _ _
  have hh : (lawRow (d + 1) A)[0]? = some 1 := by
    unfold lawRow
    rw [foldRow_head (d + 1) A _ low1]
    exact rowInit_head (by omega)
  rw [e]
  unfold midP
  by_cases z : lk ps d = 0
  · rw [if_pos z, z]
    exact ⟨fun _ _ => rfl, by
      show (lawRow (d + 1) A).getD d 0 = _
      omega⟩
  · rw [if_neg z]
    have e2 : ([((d : Int), lk ps d)] : Pows).foldl (fun r x => rowIt r x.1 x.2 (cnt x.1 (d + 1))) (lawRow (d + 1) A) = bf (lawRow (d + 1) A) d (lk ps d) := by
      show rowIt (lawRow (d + 1) A) d (lk ps d) (cnt (d : Int) (d + 1)) = _
      rw [cnt_one hd]
      show bf (lawRow (d + 1) A) ((d : Int) + ((0 : Nat) : Int) * (d : Int)).toNat (lk ps d) = _
      congr 1
      simp
    rw [e2]
    refine ⟨fun i hi => bf_lt hi, ?_⟩
    exact getD_of (bf_at hd (by omega) hh)
/-- the own rows of two products that part at d -/
theorem lawRow_part {m : Int} {ps qs : Pows} {d : Nat} (vp : Valid m ps) (vq : Valid m qs) (hd : 0 < d) (h : ∀ s, s < (d : Int) → lk ps s = lk qs s) :
    (lawRow (d + 1) ps).take d = (lawRow (d + 1) qs).take d ∧ (lawRow (d + 1) ps).getD d 0 - (lawRow (d + 1) qs).getD d 0 = lk qs d - lk ps d := by
  have e := canon_lt (d : Int) vp.srt vq.srt (fun x hx => (vp.bnd x hx).2.2.1) (fun x hx => (vq.bnd x hx).2.2.1) h
  obtain ⟨a1, a2⟩ := lawRow_split vp hd
  obtain ⟨b1, b2⟩ := lawRow_split vq hd
  rw [e] at a1 a2
  refine ⟨List.ext_getElem? fun i => ?_, by omega⟩
  rw [List.getElem?_take, List.getElem?_take]
  by_cases hi : i < d
  · rw [if_pos hi, if_pos hi, a1 i hi, b1 i hi]
  · rw [if_neg hi, if_neg hi]
/-! bounds of the own rows, by bits -/
def RB (e : Nat) (row : List Int) : Prop := ∀ x ∈ row, x.natAbs < 2 ^ e
theorem RB.mono {e f : Nat} {row : List Int} (h : RB e row) (l : e ≤ f) : RB f row := fun x hx => Nat.lt_of_lt_of_le (h x hx) (Nat.pow_le_pow_right (by decide) l)
theorem RB.getD {e : Nat} {row : List Int} (h : RB e row) (i : Nat) : (row.getD i 0).natAbs < 2 ^ e := by
  rw [List.getD_eq_getElem?_getD]
  cases q : row[i]? with
  | none =>
    show (0 : Int).natAbs < _
    exact Nat.pow_pos (by decide)
  | some x => exact h x (List.mem_of_getElem? q)
theorem num_bits {p : Int} (h1 : -60 ≤ p) (h2 : p ≤ 60) : ∀ {j : Nat}, j ≤ 64 → (num p j).natAbs < 2 ^ (7 * j + 1)
  | 0, _ => by
    show (1 : Int).natAbs < 2 ^ 1
    decide
  | j + 1, hj => by
    have ih := num_bits (p := p) h1 h2 (j := j) (by omega)
    unfold num
    have a : ((num p j) * ((j : Int) - p)).natAbs ≤ (2 ^ (7 * j + 1) - 1) * 128 := by
      rw [Int.natAbs_mul]
      exact Nat.mul_le_mul (by omega) (by omega)
    have b : (num p j * ((j : Int) - p) / ((j + 1 : Nat) : Int)).natAbs ≤ (2 ^ (7 * j + 1) - 1) * 128 := div_bound (by omega) (by
      have : 1 * ((2 ^ (7 * j + 1) - 1) * 128) ≤ (j + 1) * ((2 ^ (7 * j + 1) - 1) * 128) := Nat.mul_le_mul_right _ (by omega)
      omega)
    have c : 2 ^ (7 * (j + 1) + 1) = 2 ^ (7 * j + 1) * 128 := by
      rw [show 7 * (j + 1) + 1 = (7 * j + 1) + 7 by omega, Nat.pow_add]
    have d : 0 < 2 ^ (7 * j + 1) := Nat.pow_pos (by decide)
    omega
theorem bf_bits {e place : Nat} {row : List Int} {p : Int} (h : RB e row) (hl : row.length ≤ 64) (h1 : -60 ≤ p) (h2 : p ≤ 60) : RB (e + 456) (bf row place p) := fun x hx => by
  unfold bf at hx
  obtain ⟨t, ht, rfl⟩ := List.mem_map.mp hx
  have ht2 : t < row.length := List.mem_range.mp ht
  have hq : t / place ≤ t := Nat.div_le_self t place
  have b : (((List.range (t / place + 1)).map fun b => num p b * row.getD (t - b * place) 0).sum).natAbs ≤ (List.range (t / place + 1)).length * (2 ^ 449 * 2 ^ e) := sum_bound fun j hj => by
    have : j < t / place + 1 := List.mem_range.mp hj
    rw [Int.natAbs_mul]
    refine Nat.mul_le_mul (Nat.le_of_lt (Nat.lt_of_lt_of_le (num_bits h1 h2 (j := j) (by omega)) (Nat.pow_le_pow_right (by decide) (by omega)))) (Nat.le_of_lt (h.getD _))
  rw [List.length_range] at b
  have c : (t / place + 1) * (2 ^ 449 * 2 ^ e) ≤ 64 * (2 ^ 449 * 2 ^ e) := Nat.mul_le_mul_right _ (by omega)
  have d : 2 ^ (e + 456) = 128 * (2 ^ 449 * 2 ^ e) := by
    rw [show e + 456 = 7 + (449 + e) by omega, Nat.pow_add, Nat.pow_add]
  have f : 0 < 2 ^ 449 * 2 ^ e := Nat.mul_pos (Nat.pow_pos (by decide)) (Nat.pow_pos (by decide))
  omega
theorem rowIt_bits {e : Nat} {row : List Int} {s p : Int} (h : RB e row) (hl : row.length ≤ 64) (h1 : -60 ≤ p) (h2 : p ≤ 60) : ∀ j, RB (e + 456 * j) (rowIt row s p j)
  | 0 => h
  | j + 1 => by
    unfold rowIt
    have ih := rowIt_bits (s := s) h hl h1 h2 j
    exact (bf_bits ih (by rw [rowIt_len]; exact hl) h1 h2).mono (by omega)
theorem rowInit_bits (many : Nat) : RB 1 (rowInit many) := fun x hx => by
  unfold rowInit at hx
  have := List.mem_of_mem_take hx
  rcases List.mem_cons.mp this with z | z
  · rw [z]; decide
  · rw [(List.mem_replicate.mp z).2]; decide
/-- the first place at which two rows have unlike numbers -/
def IsFirst (xs ys : List Int) : Option Nat → Prop
  | none => ∀ i : Nat, xs[i]? = ys[i]?
  | some n => xs[n]? ≠ ys[n]? ∧ ∀ i : Nat, i < n → xs[i]? = ys[i]?
theorem IsFirst.uniq {xs ys : List Int} : ∀ {r t : Option Nat}, IsFirst xs ys r → IsFirst xs ys t → r = t
  | none, none, _, _ => rfl
  | none, some d, h, k => absurd (h d) k.1
  | some d, none, h, k => absurd (k d) h.1
  | some d, some e, h, k => by
    have h1 : ¬ d < e := fun l => h.1 (k.2 d l)
    have h2 : ¬ e < d := fun l => k.1 (h.2 e l)
    have : d = e := by omega
    rw [this]
end K19
/-! K19B: own rules beside the hand layer: defs run where no repr is under way, repr of a list, a call by keywords alone, enumerate(zip(..)). -/
namespace K19
open PySem PySem.Spec PyProof.Rows L2

/-! ### 1. promises of defs that run where no guard is under way -/
structure FnG (P : Program) (w : World) (K : PySem.W.Frag) (mg : Str → Option Value) (base : Heap) (k : Nat) (f : Addr) (fd : FuncData) (ps : List Str) (sp : Sp) : Prop where
  size : ∀ vs H Q E, sp vs H Q E → vs.length = ps.length
  runs : ∀ (A : Around) (callers : List Env) (s : Shared) (H : Hp) (given : Args) (us : List Value) (vs : List V) (Q : VK) (E : XK), A.guards = some [] → Room k A → Env0 P w K mg base A callers s H →
    BindsTo s fd given (ps.zip us) → Vals vs us → sp vs H Q E → codeAny (model P w) A (.call (.ref f) given) (CR CX0 callers P w H s Q E) s
section
variable {P : Program} {w : World} {K : PySem.W.Frag} {mg : Str → Option Value} {base : Heap} {k : Nat} {f : Addr} {fd : FuncData}
/-- a def by its body -/
theorem okG {x qual : Str} {st : Stmt} {N ps : List Str} {sp : Sp} (F : Fun K x qual st f fd) (S : FnScope N ps (defScope st)) (size : ∀ vs H Q E, sp vs H Q E → vs.length = ps.length)
    (body : ∀ (cdv : Value) (A : Around) (callers : List Env) (s : Shared) (H : Hp) (vs : List V) (Q : VK) (E : XK), A.guards = some [] → Room k (A.deeper (envOfC qual (defScope st) s.heap.objs.size f cdv)) → sp vs H Q E →
      ∃ t, PSs (cxOf CX0 P w K mg base N qual (defScope st) f cdv A callers s H E).nox (defBody st) t ∧ t { nx := fun _ H' => Q .non H', rt := Q } (start N vs) H) :
    FnG P w K mg base (k + 1) f fd ps sp := by
  obtain ⟨oc, od, kV, doc, pm, an, cdv, ct, osl, rfl, lk, hcd⟩ := F.ex
  refine ⟨size, fun A callers s H given us vs Q E hgd room e0 binds rel wish => ?_⟩
  have stays : ∀ b o, base.get? b = some o → s.heap.get? b = some o := fun b o e => (e0.bs b o e).1
  have frag : K.In s.heap := e0.mod.kin.keeps stays
  have kinds : ∀ y ∈ ps.zip us, (defScope st).names.lookup y.1 = some .local ∨ ((defScope st).names.lookup y.1 = some .cell ∧ ((cellsFrom (s.heap.objs.size + 1) (defScope st).names []).lookup y.1).isSome = true) := by
    rintro ⟨n, v⟩ hy
    have hn : n ∈ ps := (List.of_mem_zip hy).1
    exact (S.par n hn).imp (fun q => q) fun q => ⟨q, PySem.W.cellsFrom_some _ _ _ (.inl q)⟩
  refine codeAny_call_function room.depth (frag _ _ lk) rfl S.co S.gen rfl (PySem.W.codeRec_of frag hcd) (binds _ _ _ _ ?_)
  refine wpAny_newFunctionEnv_cells S.kind kinds fun en same s1 made => ?_
  cases same
  obtain ⟨t, ht, start_ok⟩ := body cdv A callers s H vs Q E hgd (room.deeper _) wish
  have inv := inv_start (CX := CX0) (E := E) S room.hd e0 (size _ _ _ _ wish) rel made
  have limit : s.heap.NoLimit := e0.mod.nolimit.keeps stays
  refine ⟨limit.keeps made.toInCall.keep, codeAny_func (wpAny_mono (ht.nox.run [] s1 (start N vs) H _ inv start_ok) (fun fl s' q => ?_) fun e s' q => q)⟩
  cases fl with
  | next =>
    obtain ⟨σ', H', J, r⟩ := q
    exact ⟨.non, H', J.os, J.bare, J.base, J.hok, rfl, r⟩
  | ret u =>
    obtain ⟨v, σ', H', J, rv, r⟩ := q
    exact ⟨v, H', J.os, J.bare, J.base, J.hok, rv, r⟩
  | brk => exact q.elim fun _ z => z.elim fun _ y => y.2.elim
  | cont => exact q.elim fun _ z => z.elim fun _ y => y.2.elim
end
section
variable {X : Cx} {k : Nat} {f : Addr} {fd : FuncData} {ps : List Str} {sp : Sp} {x : Str} {p pos : Pos} {e : Expr} {es : List Expr} {t : TA}
/-- a call of such a def, where no guard is under way -/
theorem pe_callG (F : FnG X.prog X.w X.K X.mg X.base k f fd ps sp) (hgd : X.A.guards = some []) (hr : Room k X.A) (hg : Gl X x) (hm : X.mg x = some (.ref f)) (hk : PySem.W.keepIn X.K (.ref f) = true) (hb : Binds X.K fd ps [])
    (ha : PA X (e :: es) t) (hdb : (x == ("__debug__" : Str)) = false := by decide) (he : starEach (e :: es) X.env = (false, eval e X.env) :: starEach es X.env := by rfl) (hpl : (backTo pos (starEach es X.env)).any (·.1) = false := by rfl) :
    PE X (.Call (.Name x p) (e :: es) [] pos) (tCall sp [] E0 t) := by
  refine ⟨fun pins s σ H Q I h => wpAny_Call_Name_kw (ld_glob I hg hm ?_ hdb)⟩
  refine PySem.W.callWith_K (h₀ := X.base) I.ok.mod.kin hk (thn (ha.run pos pins s σ H _ I h) fun us s1 got => ?_) he hpl
  obtain ⟨vs, H1, I1, r, q⟩ := got
  refine ⟨I1.kIn, wpAny_call ?_⟩
  have q' : sp vs H1 Q E0 := by rw [List.append_nil] at q; exact q
  have b : BindsTo s1 fd ⟨us, []⟩ (ps.zip us) := by
    have z := hb s1 us I1.kIn (by rw [List.append_nil, ← r.length]; exact F.size _ _ _ _ q')
    rw [List.append_nil] at z
    exact z
  refine codeAny_mono (F.runs X.A X.stack s1 H1 ⟨us, []⟩ us vs Q E0 hgd hr I1.env0 b r q') fun res s' hq => ?_
  cases res with
  | error er => exact False.elim hq
  | ok fl => cases fl with
    | ret u => exact I1.after hq
    | next => exact hq.elim
    | brk => exact hq.elim
    | cont => exact hq.elim
end

/-! ### 2. repr of a list of data -/
section
variable {X : Cx}
def rRepr (K : PySem.W.Frag) : List V → Hp → VK → Prop := fun xs H Q => ∃ (a : Addr) (d : PyData), xs = [.ref a] ∧ Dp K H (.ref a) d ∧ d.showable = true ∧ d.hasDict = false ∧ d.depth ≤ 8 ∧ d.shown.length ≤ sizeLine ∧ Q (.str d.shown) H
theorem cr_repr {k : Nat} (hgd : X.A.guards = some []) (hr : Room k X.A) : CallR X (.builtin "repr") (rRepr X.K) := by
  intro pins s σ H xs us Q I r h
  obtain ⟨a, d, rfl, hd, h1, h2, h3, h4, q⟩ := h
  obtain ⟨u, rfl, ru⟩ := vals1 r
  obtain ⟨as, reads⟩ := Dp.reads I d _ _ hd ru
  cases ru
  have room := hr.units
  exact repr_of_reads' reads h1 (fun z => by rw [h2] at z; cases z) hgd (by omega) (fun b o z => z) (fun h' u tk keeps => ⟨.str d.shown, H, I.kept keeps, ⟨_, rfl⟩, q⟩) h4
end

/-! ### 3. a call by keywords alone -/
section
variable {X : Cx} {k : Nat} {f : Addr} {fd : FuncData} {ps ks : List Str} {sp : Sp} {x : Str} {p pos : Pos} {kws : List Keyword} {tk : TA} {g : List Value → List Value → List Value} {gV : List V → List V → List V}
theorem pe_callK0 (F : FnOk X.prog X.w X.K X.mg X.base CX0 k f fd ps sp) (hr : Room k X.A) (hg : Gl X x) (hm : X.mg x = some (.ref f)) (hk : PySem.W.keepIn X.K (.ref f) = true) (hb : KBinds X.K fd ps ks g gV)
    (hkw : PK X kws tk) (hall : (backToKw pos (keywordEach kws X.env)).all (·.1.isSome) = true := by rfl) (hks : (backToKw pos (keywordEach kws X.env)).filterMap (·.1) = ks := by rfl) (hdb : (x == ("__debug__" : Str)) = false := by decide)
    (hpl : ((backTo pos (starEach [] X.env)).any (·.1) || (backToKw pos (keywordEach kws X.env)).any (·.1.isNone)) = false := by rfl) :
    PE X (.Call (.Name x p) [] kws pos) (tCallK sp gV E0 tNil tk) := by
  refine ⟨fun pins s σ H Q I h => wpAny_Call_Name_kw (ld_glob I hg hm ?_ hdb)⟩
  refine PySem.W.callWith_KW0 (h₀ := X.base) I.ok.mod.kin hk hall (thn (hkw.run pos pins s σ H _ I h) fun ws s2 got => ?_) hpl
  obtain ⟨zs, H2, I2, rz, q⟩ := got
  refine ⟨I2.kIn, ?_⟩
  rw [hks]
  exact run_fnk (us := []) (vs := []) F hr hb pass0 I2 .nil rz q
end

/-! ### 4. the law's end, where no guard is under way -/
/-- the run from an abstract heap that tracks the script alone, or nothing -/
theorem runG {P : Program} {w : World} {K : PySem.W.Frag} {mg mb : Str → Option Value} {k : Nat} {fa a : Addr} {fd : FuncData} {x : Str} {sp : Sp} {s : Shared} {vs : List Value} {H : Hp}
    (frag : K.In s.heap) (glob : s.heap.Ns mainGlobals mg) (built : s.heap.Ns builtinsNs mb) (same : ∀ y : Str, y ≠ "__name__" → mb y = bootBuiltins y) (limit : s.heap.NoLimit) (gens : s.gens = #[])
    (script : s.heap.get? a = some { cls := .type "list", data := .seq vs.toArray }) (room : Room k callerA)
    (F : ∀ base : Heap, K.In base → base.Ns mainGlobals mg → FnG P w K mg base k fa fd [x] sp) (binds : ∀ (s : Shared) (u : Value), BindsTo s fd ⟨[u], []⟩ [(x, u)])
    (wish : sp [.ref a] H (fun v _ => v = .bl true) fun _ _ _ => False) (held : HOk P w H s.heap) (only : ∀ b u, H b = some u → b = a ∧ ∃ o xs, u = .frz o (.lst xs)) (own : H a ≠ none → K.lookup a = none) :
    codeAny (model P w) callerA (.call (.ref fa) ⟨[.ref a], []⟩) (fun r s' => r = .ok (.ret (.bool true)) ∧ OldK s.heap s'.heap ∧ s'.os = s.os ∧ AllBare s'.gens) s := by
  have isDict : ∀ {b : Addr} {m : Str → Option Value}, s.heap.Ns b m → (hidT s.heap H).Ns b m := by
    rintro b m ⟨o, es, ep, e, dat, more⟩
    refine ⟨o, es, ep, hidT_get e ?_, dat, more⟩
    cases q : H b with
    | none => rfl
    | some u =>
      obtain ⟨z, _⟩ := only b u q
      rw [z, script] at e
      cases e
      cases dat
  have frag2 : K.In (hidT s.heap H) := fun b o e => hidT_get (frag b o e) (by
    cases q : H b with
    | none => rfl
    | some u =>
      obtain ⟨z, _⟩ := only b u q
      subst z
      rw [own (by rw [q]; exact Option.some_ne_none u)] at e
      cases e)
  have mod : Mod K mg (hidT s.heap H) := by
    obtain ⟨ml, l1, l2⟩ := limit
    exact ⟨frag2, isDict glob, ⟨mb, isDict built, same⟩, ⟨ml, isDict l1, l2⟩⟩
  have env0 : Env0 P w K mg (hidT s.heap H) callerA [] s H := ⟨rfl, mod, fun b o e => of_hidT e, Nat.le_of_eq (hidT_size _ _), trivial, fun b z => absurd z List.not_mem_nil, held, .of_eq gens⟩
  refine codeAny_mono ((F _ frag2 (isDict glob)).runs callerA [] s H ⟨[.ref a], []⟩ [.ref a] [.ref a] _ _ rfl room env0 (binds s (.ref a)) (.cons rfl .nil) wish) fun res s' h => ?_
  cases res with
  | error e => exact False.elim h
  | ok fl => cases fl with
    | next => exact h.elim
    | brk => exact h.elim
    | cont => exact h.elim
    | ret u =>
      obtain ⟨v, H', os, bare, un, held', rel, q⟩ := h
      cases (show v = .bl true from q)
      cases (show u = Value.bool true from rel)
      refine ⟨rfl, OldK.of_keep fun b o e => ?_, os, bare⟩
      cases q2 : H b with
      | none => exact un.keep b o e q2 List.not_mem_nil List.not_mem_nil
      | some u2 =>
        obtain ⟨_, ob, xs, rfl⟩ := only b u2 q2
        have there := (held b _ q2).1
        have still := (held' b _ (un.frzs b ob _ q2)).1
        rw [e] at there
        cases there
        exact still
theorem endG {l : PySem.W.OpenLaw} {n k : Nat} {q : Program} {loose : List Str} {XP : (Str → Option Value) → Heap → Prop} {YP : World → Heap → Prop} {d : DefRec} {K : Params → PySem.W.Frag} {sp : PySem.W.Frag → Sp} {x : Str}
    (most : l.most = some n) (small : n ≤ sizeLine) (plain : d.params.defaults = []) (room : Room k callerA) (frag : ∀ (w : World) (h : Heap), YP w h → (K w.params).In h)
    (F : ∀ (w : World) (mg : Str → Option Value) (fa : Addr) (h : Heap), (K w.params).In h → h.Ns mainGlobals mg → XP mg h → mg d.name = some (.ref fa) →
      ∃ fd : FuncData, (∀ (s : Shared) (u : Value), BindsTo s fd ⟨[u], []⟩ [(x, u)]) ∧ ∀ base : Heap, (K w.params).In base → base.Ns mainGlobals mg → FnG l.prog w (K w.params) mg base k fa fd [x] (sp (K w.params)))
    (wish : ∀ (K : PySem.W.Frag) (H : Hp) (a : Addr) (ns : List Int), ns.length ≤ n → SqL K H a (ns.map V.int) → sp K [.ref a] H (fun v _ => v = .bl true) fun _ _ _ => False) :
    PySem.W.WalkO q loose XP YP l.row.toRowW d [] (fun f vs => PySem.call f vs) := by
  refine Att.attach_call most plain fun w s0 s1 mg mb fa o pm cd doc a vs ns G Y ho hd hcd hmg script whls len gens => ?_
  have KX := frag w _ Y
  obtain ⟨fd, binds, hF⟩ := F w mg fa _ KX G.T.g G.X hmg
  have rel := vals_ints whls
  have size : vs.length = ns.length := whls.length
  cases own : (K w.params).lookup a with
  | some o2 =>
    have e := KX a o2 own
    rw [script] at e
    cases e
    have seq : SqL (K w.params) (fun _ => none) a (ns.map V.int) := .inr ⟨_, vs.toArray, _, own, rfl, rfl, rfl, by rw [List.size_toArray, size]; exact Nat.le_trans len small, by simpa using rel⟩
    exact runG KX G.T.g G.T.b G.T.builtins G.T.nolimit gens script room hF binds (wish _ _ a ns len seq) (fun b u z => by cases (show (none : Option HO) = some u from z)) (fun b u z => by cases (show (none : Option HO) = some u from z)) fun z => absurd rfl z
  | none =>
    have look : ∀ {b : Addr} {u : HO}, (if b = a then some (HO.frz { cls := .type "list", data := .seq vs.toArray } (.lst (ns.map V.int))) else none) = some u → b = a ∧ u = .frz { cls := .type "list", data := .seq vs.toArray } (.lst (ns.map V.int)) := fun {b u} e => by
      by_cases c : b = a
      · rw [if_pos c] at e
        cases e
        exact ⟨c, rfl⟩
      · rw [if_neg c] at e
        cases e
    have seq : SqL (K w.params) (fun b => if b = a then some (HO.frz { cls := .type "list", data := .seq vs.toArray } (.lst (ns.map V.int))) else none) a (ns.map V.int) := .inl (.inr ⟨_, if_pos rfl⟩)
    refine runG KX G.T.g G.T.b G.T.builtins G.T.nolimit gens script room hF binds (wish _ _ a ns len seq) (fun b u z => ?_) (fun b u z => ?_) fun _ => own
    · obtain ⟨rfl, rfl⟩ := look z
      exact ⟨script, by rw [List.length_map]; exact Nat.le_trans len small, vs, _, rel, script⟩
    · obtain ⟨rfl, rfl⟩ := look z
      exact ⟨rfl, _, _, rfl⟩
end K19
/-! K19Z: for i, (a, b) in enumerate(zip(xs, ys)). -/
namespace K19
open PySem PySem.Spec PyProof.Rows L2
/-- a zip between two draws: its own tuple is free, or given out -/
def ZipAt (h : Heap) (z TI TO : Addr) : Prop := ∃ (f0 : Value) (f : Bool), (f0 = .none ∨ ∃ T : Addr, f0 = rawInt T) ∧ h.get? z = some { cls := .type "zip", dict := none, data := .fields #[f0, .bool f, .bool false, .ref TI, .ref TO], slots := #[] }
/-- what stands outside the list still stands -/
def Rest (ex : List Addr) (h h' : Heap) : Prop := ∀ c o, c ∉ ex → h.get? c = some o → h'.get? c = some o
theorem Rest.one {ex : List Addr} {a : Addr} {h h' : Heap} (s : Heap.SameBut a h h') (ha : a ∈ ex) : Rest ex h h' := fun c o hc e => (s.2 c fun z => hc (z ▸ ha)).trans e
theorem Rest.then {ex : List Addr} {h1 h2 h3 : Heap} (a : Rest ex h1 h2) (b : Rest ex h2 h3) : Rest ex h1 h3 := fun c o hc e => b c o hc (a c o hc e)
theorem Rest.push {ex : List Addr} {h1 h2 : Heap} (a : Rest ex h1 h2) (ob : Obj) : Rest ex h1 (h2.push ob) := fun c o hc e => Heap.get?_push_of_some _ (a c o hc e)
section
variable {prog : Program} {w : World} {A : Around} {E : Value → Shared → Prop} {s : Shared}
theorem alive_any {M : Model} {a : Addr} {Q : Option Obj → Shared → Prop} (h : ∀ r, Q r s) : wpAny M A (loadIfAlive a) Q E s := fun _ _ _ => h _
theorem free_any {z TI TO : Addr} {Q : Bool → Shared → Prop} (hz : ZipAt s.heap z TI TO) (h : ∀ b h', ZipAt h' z TI TO → Heap.SameBut z s.heap h' → Q b { s with heap := h' }) :
    wpAny (model prog w) A (Builtin.SmallTypes.ownedTupleIsFree (.ref z)) Q E s := by
  obtain ⟨f0, f, hf, hz⟩ := hz
  unfold Builtin.SmallTypes.ownedTupleIsFree
  refine wpAny_bind (wpAny_field hz rfl (x := f0) rfl ?_)
  rcases hf with rfl | ⟨T, rfl⟩
  · exact wpAny_pure (h true s.heap ⟨_, _, .inl rfl, hz⟩ (.refl _ _))
  · show wpAny _ _ (loadIfAlive ((T : Int).toNat) >>= _) _ _ _
    refine wpAny_bind (alive_any fun r => ?_)
    cases r with
    | none => exact wpAny_pure (h true s.heap ⟨_, _, .inr ⟨T, rfl⟩, hz⟩ (.refl _ _))
    | some o =>
      show wpAny _ _ (field (.ref z) 1 >>= _) _ _ _
      refine wpAny_bind (wpAny_field hz rfl (x := .bool f) rfl ?_)
      cases f with
      | true => exact wpAny_pure (h false s.heap ⟨_, _, .inr ⟨T, rfl⟩, hz⟩ (.refl _ _))
      | false => exact wpAny_bind (wpAny_setField_rec hz (by simp) fun h1 hz1 hs1 => wpAny_pure (h false h1 ⟨_, true, .inr ⟨T, rfl⟩, hz1⟩ hs1))
/-- the next pair of a zip of two lists -/
theorem zip_next_any {z TI TO i1 i2 l1 l2 : Addr} {k1 k2 : Nat} {xs ys : Array Value} {x y : Value} {Q : Value → Shared → Prop} (D : ZipApart z TI TO i1 i2 l1 l2)
    (hz : ZipAt s.heap z TI TO) (hTI : IsPair s.heap TI (.ref i1) (.ref i2)) (hTO : ∃ a b, IsPair s.heap TO a b) (h1 : s.heap.IsListIter i1 l1 k1) (h2 : s.heap.IsListIter i2 l2 k2)
    (hl1 : s.heap.IsList l1 xs) (hl2 : s.heap.IsList l2 ys) (hx : xs[k1]? = some x) (hy : ys[k2]? = some y)
    (hQ : ∀ h', ZipAt h' z TI TO → (∃ a b, IsPair h' TO a b) → h'.IsListIter i1 l1 (k1 + 1) → h'.IsListIter i2 l2 (k2 + 1) → IsPair h' s.heap.objs.size x y → h'.objs.size = s.heap.objs.size + 1 →
      Rest [z, TO, i1, i2] s.heap h' → Q (.ref s.heap.objs.size) { s with heap := h' }) :
    wpAny (model prog w) A (Builtin.«zip.__next__» ⟨[.ref z], []⟩) (fun fin s' => ∃ v, fin = .done (.ret v) ∧ Q v s') E s := by
  have at2 : ∀ {h : Heap} {c : Addr} {k : Nat} {v : Value} {R : Value → Shared → Prop} {s' : Shared}, s'.heap = h → ZipAt h c TI TO → (k = 2 ∧ v = .bool false ∨ k = 3 ∧ v = .ref TI ∨ k = 4 ∧ v = .ref TO) → R v s' →
      wpAny (model prog w) A (field (.ref c) k) R E s' := by
    rintro h c k v R s' rfl ⟨f0, f, _, hc⟩ (⟨rfl, rfl⟩ | ⟨rfl, rfl⟩ | ⟨rfl, rfl⟩) r
    · exact wpAny_field hc rfl (x := .bool false) rfl r
    · exact wpAny_field hc rfl (x := .ref TI) rfl r
    · exact wpAny_field hc rfl (x := .ref TO) rfl r
  show wpAny _ _ (field (.ref z) 2 >>= _) _ _ _
  refine wpAny_bind (at2 rfl hz (.inl ⟨rfl, rfl⟩) ?_)
  show wpAny _ _ (field (.ref z) 3 >>= _) _ _ _
  refine wpAny_bind (at2 rfl hz (.inr (.inl ⟨rfl, rfl⟩)) (wpAny_bind (wpAny_seqItems hTI rfl ?_)))
  show wpAny _ _ (Builtin.SmallTypes.ownedTupleIsFree (.ref z) >>= _) _ _ _
  refine wpAny_bind (free_any hz fun b ha za ca => ?_)
  obtain ⟨a0, b0, hTO⟩ := hTO
  have h1a := h1.extBut ca.extBut D.i1z
  have h2a := h2.extBut ca.extBut D.i2z
  have l1a := hl1.extBut ca.extBut D.l1z
  have l2a := hl2.extBut ca.extBut D.l2z
  have TOa : IsPair ha TO a0 b0 := ca.extBut _ _ D.TOz hTO
  have ra : Rest [z, TO, i1, i2] s.heap ha := .one ca (by simp)
  cases b with
  | false =>
    simp only [Bool.false_eq_true, if_false]
    refine wpAny_bind ?_
    rw [← Array.forIn_toList]
    simp only [List.forIn_cons, List.forIn_nil]
    refine wpAny_bind (wpAny_bind (wpAny_holding ?_))
    show wpAny _ _ (Builtin.SmallTypes.nextOf (.ref i1) >>= _) _ _ _
    refine wpAny_bind (wpAny_nextOf_list_item (s := { s with heap := ha }) h1a l1a hx fun hb h1b cb => wpAny_pure (wpAny_pure ?_))
    refine wpAny_bind (wpAny_bind (wpAny_holding ?_))
    show wpAny _ _ (Builtin.SmallTypes.nextOf (.ref i2) >>= _) _ _ _
    refine wpAny_bind (wpAny_nextOf_list_item (s := { s with heap := hb }) (h2a.extBut cb.extBut D.i12.symm) (l2a.extBut cb.extBut D.l2i1) hy fun hc h2c cc => wpAny_pure (wpAny_pure (wpAny_pure ?_)))
    show wpAny _ _ (newTuple [x, y] >>= _) _ _ _
    refine wpAny_bind (wpAny_newTuple (wpAny_pure ⟨_, rfl, ?_⟩))
    have sz : hc.objs.size = s.heap.objs.size := by rw [cc.1, cb.1, ca.1]
    have pc : IsPair (hc.push { cls := .type "tuple", data := .seq #[x, y] }) hc.objs.size x y := Heap.get?_push_size _ rfl
    have sp : (hc.push { cls := .type "tuple", data := .seq #[x, y] }).objs.size = hc.objs.size + 1 := Heap.size_push ..
    have h1c := h1b.extBut cc.extBut D.i12
    have TOc : IsPair hc TO a0 b0 := cc.extBut _ _ D.TOi2 (cb.extBut _ _ D.TOi1 TOa)
    obtain ⟨g0, g, hg, zg⟩ := za
    have zc := cc.extBut _ _ D.i2z.symm (cb.extBut _ _ D.i1z.symm zg)
    show Q (.ref hc.objs.size) _
    rw [sz] at pc sp ⊢
    exact hQ _ ⟨g0, g, hg, Heap.get?_push_of_some _ zc⟩ ⟨a0, b0, Heap.get?_push_of_some _ TOc⟩ (h1c.at fun o e => Heap.get?_push_of_some _ e) (h2c.at fun o e => Heap.get?_push_of_some _ e) pc sp
      (((ra.then (.one cb (by simp))).then (.one cc (by simp))).push _)
  | true =>
    simp only [if_true]
    refine wpAny_bind (wpAny_rule (wpAny_bind (at2 (s' := { s with heap := ha }) rfl za (.inr (.inr ⟨rfl, rfl⟩)) ?_)))
    obtain ⟨g0, g, hg, zg⟩ := za
    refine wpAny_bind (wpAny_setField_rec zg (by simp) fun hb zb cb => wpAny_bind ?_)
    simp only [List.zipIdx_cons, List.zipIdx_nil, List.forIn_cons, List.forIn_nil]
    refine wpAny_bind (wpAny_bind (wpAny_onRaise ?_))
    show wpAny _ _ (Builtin.SmallTypes.nextOf (.ref i1) >>= _) _ _ _
    refine wpAny_bind (wpAny_nextOf_list_item (s := { s with heap := hb }) (h1a.extBut cb.extBut D.i1z) (l1a.extBut cb.extBut D.l1z) hx fun hc h1c cc => wpAny_pure ?_)
    have TOc : IsPair hc TO a0 b0 := cc.extBut _ _ D.TOi1 (cb.extBut _ _ D.TOz TOa)
    refine wpAny_bind (wpAny_seqItems TOc rfl (wpAny_bind (wpAny_updateSeq_pair TOc fun hd TOd cd => wpAny_bind (wpAny_letGo (wpAny_pure ?_)))))
    refine wpAny_bind (wpAny_bind (wpAny_onRaise ?_))
    show wpAny _ _ (Builtin.SmallTypes.nextOf (.ref i2) >>= _) _ _ _
    have h2d := ((h2a.extBut cb.extBut D.i2z).extBut cc.extBut D.i12.symm).extBut cd.extBut D.TOi2.symm
    have l2d := ((l2a.extBut cb.extBut D.l2z).extBut cc.extBut D.l2i1).extBut cd.extBut D.l2TO
    refine wpAny_bind (wpAny_nextOf_list_item (s := { s with heap := hd }) h2d l2d hy fun he h2e ce => wpAny_pure ?_)
    have TOe : IsPair he TO x b0 := ce.extBut _ _ D.TOi2 TOd
    refine wpAny_bind (wpAny_seqItems TOe rfl (wpAny_bind (wpAny_updateSeq_pair TOe fun hf TOf cf => wpAny_bind (wpAny_letGo (wpAny_pure (wpAny_pure ?_))))))
    have TOf' : IsPair hf TO x y := TOf
    refine wpAny_bind (wpAny_seqItems TOf' rfl (wpAny_bind (wpAny_newTuple ?_)))
    have sz : hf.objs.size = s.heap.objs.size := by rw [cf.1, ce.1, cd.1, cc.1, cb.1, ca.1]
    have zf := cf.extBut _ _ D.TOz.symm (ce.extBut _ _ D.i2z.symm (cd.extBut _ _ D.TOz.symm (cc.extBut _ _ D.i1z.symm zb)))
    have h1f := ((h1c.extBut cd.extBut D.TOi1.symm).extBut ce.extBut D.i12).extBut cf.extBut D.TOi1.symm
    have h2f := h2e.extBut cf.extBut D.TOi2.symm
    have rf : Rest [z, TO, i1, i2] s.heap hf := ((((ra.then (.one cb (by simp))).then (.one cc (by simp))).then (.one cd (by simp))).then (.one ce (by simp))).then (.one cf (by simp))
    have lz : z < hf.objs.size := Heap.lt_size zf
    show wpAny _ _ (Builtin.SmallTypes.ownedTupleHandOut (.ref z) (.ref hf.objs.size) >>= _) _ _ _
    refine wpAny_bind ?_
    unfold Builtin.SmallTypes.ownedTupleHandOut
    refine wpAny_bind (wpAny_setField_rec (Heap.get?_push_of_some _ zf) (by simp) fun hg' zg' cg => wpAny_setField_rec zg' (by simp) fun hh zh ch => wpAny_pure ⟨_, rfl, ?_⟩)
    have sp : hh.objs.size = hf.objs.size + 1 := by rw [ch.1, cg.1, Heap.size_push]
    have up : ∀ c o, c ≠ z → hf.get? c = some o → hh.get? c = some o := fun c o hc e => ch.extBut _ _ hc (cg.extBut _ _ hc (Heap.get?_push_of_some _ e))
    have pc : IsPair hh hf.objs.size x y := ch.extBut _ _ (Nat.ne_of_gt lz) (cg.extBut _ _ (Nat.ne_of_gt lz) (Heap.get?_push_size _ rfl))
    have zo : ZipAt hh z TI TO := ⟨rawInt hf.objs.size, false, .inr ⟨_, rfl⟩, zh⟩
    show Q (.ref hf.objs.size) _
    rw [sz] at pc sp ⊢
    exact hQ hh zo ⟨x, y, up _ _ D.TOz TOf'⟩ (h1f.at fun o e => up _ o D.i1z e) (h2f.at fun o e => up _ o D.i2z e) pc sp fun c o hc e => up c o (fun q => hc (by simp [q])) (rf c o hc e)
theorem zip_end_any {z TI TO i1 i2 l1 l2 : Addr} {k1 k2 : Nat} {xs ys : Array Value} {Q : Fin → Shared → Prop} (calm : A.handled = none) (D : ZipApart z TI TO i1 i2 l1 l2)
    (hz : ZipAt s.heap z TI TO) (hTI : IsPair s.heap TI (.ref i1) (.ref i2)) (hTO : ∃ a b, IsPair s.heap TO a b) (h1 : s.heap.IsListIter i1 l1 k1) (h2 : s.heap.IsListIter i2 l2 k2)
    (hl1 : s.heap.IsList l1 xs) (hl2 : s.heap.IsList l2 ys) (over : xs[k1]? = none ∨ ys[k2]? = none)
    (hE : ∀ h' e, Rest [z, TO, i1, i2] s.heap h' → (∃ o, h'.get? e = some o ∧ o.cls = .type "StopIteration") → E (.ref e) { s with heap := h' }) :
    wpAny (model prog w) A (Builtin.«zip.__next__» ⟨[.ref z], []⟩) Q E s := by
  have at2 : ∀ {h : Heap} {c : Addr} {k : Nat} {v : Value} {R : Value → Shared → Prop} {s' : Shared}, s'.heap = h → ZipAt h c TI TO → (k = 2 ∧ v = .bool false ∨ k = 3 ∧ v = .ref TI ∨ k = 4 ∧ v = .ref TO) → R v s' →
      wpAny (model prog w) A (field (.ref c) k) R E s' := by
    rintro h c k v R s' rfl ⟨f0, f, _, hc⟩ (⟨rfl, rfl⟩ | ⟨rfl, rfl⟩ | ⟨rfl, rfl⟩) r
    · exact wpAny_field hc rfl (x := .bool false) rfl r
    · exact wpAny_field hc rfl (x := .ref TI) rfl r
    · exact wpAny_field hc rfl (x := .ref TO) rfl r
  show wpAny _ _ (field (.ref z) 2 >>= _) _ _ _
  refine wpAny_bind (at2 rfl hz (.inl ⟨rfl, rfl⟩) ?_)
  show wpAny _ _ (field (.ref z) 3 >>= _) _ _ _
  refine wpAny_bind (at2 rfl hz (.inr (.inl ⟨rfl, rfl⟩)) (wpAny_bind (wpAny_seqItems hTI rfl ?_)))
  show wpAny _ _ (Builtin.SmallTypes.ownedTupleIsFree (.ref z) >>= _) _ _ _
  refine wpAny_bind (free_any hz fun b ha za ca => ?_)
  obtain ⟨a0, b0, hTO⟩ := hTO
  have h1a := h1.extBut ca.extBut D.i1z
  have h2a := h2.extBut ca.extBut D.i2z
  have l1a := hl1.extBut ca.extBut D.l1z
  have l2a := hl2.extBut ca.extBut D.l2z
  have TOa : IsPair ha TO a0 b0 := ca.extBut _ _ D.TOz hTO
  have ra : Rest [z, TO, i1, i2] s.heap ha := .one ca (by simp)
  have byExt : ∀ {a : Addr} {g g' : Heap}, Heap.ExtBut a g g' → a ∈ [z, TO, i1, i2] → Rest [z, TO, i1, i2] g g' := fun e m c o hc q => e c o (fun y => hc (y ▸ m)) q
  cases b with
  | false =>
    simp only [Bool.false_eq_true, if_false]
    refine wpAny_bind ?_
    rw [← Array.forIn_toList]
    simp only [List.forIn_cons, List.forIn_nil]
    refine wpAny_bind (wpAny_bind (wpAny_holding ?_))
    show wpAny _ _ (Builtin.SmallTypes.nextOf (.ref i1) >>= _) _ _ _
    cases q1 : xs[k1]? with
    | none => exact wpAny_bind (wpAny_nextOf_list_end (s := { s with heap := ha }) calm h1a l1a q1 fun hb e cb ho => hE hb e (ra.then (byExt cb (by simp))) ho)
    | some x =>
      have q2 : ys[k2]? = none := over.resolve_left fun n => by rw [q1] at n; cases n
      refine wpAny_bind (wpAny_nextOf_list_item (s := { s with heap := ha }) h1a l1a q1 fun hb h1b cb => wpAny_pure (wpAny_pure ?_))
      refine wpAny_bind (wpAny_bind (wpAny_holding ?_))
      show wpAny _ _ (Builtin.SmallTypes.nextOf (.ref i2) >>= _) _ _ _
      exact wpAny_bind (wpAny_nextOf_list_end (s := { s with heap := hb }) calm (h2a.extBut cb.extBut D.i12.symm) (l2a.extBut cb.extBut D.l2i1) q2 fun hc e cc ho =>
        hE hc e ((ra.then (.one cb (by simp))).then (byExt cc (by simp))) ho)
  | true =>
    simp only [if_true]
    refine wpAny_bind (wpAny_rule (wpAny_bind (at2 (s' := { s with heap := ha }) rfl za (.inr (.inr ⟨rfl, rfl⟩)) ?_)))
    obtain ⟨g0, g, hg, zg⟩ := za
    refine wpAny_bind (wpAny_setField_rec zg (by simp) fun hb zb cb => wpAny_bind ?_)
    simp only [List.zipIdx_cons, List.zipIdx_nil, List.forIn_cons, List.forIn_nil]
    refine wpAny_bind (wpAny_bind (wpAny_onRaise ?_))
    show wpAny _ _ (Builtin.SmallTypes.nextOf (.ref i1) >>= _) _ _ _
    have other : ∀ {hh : Heap} {e : Addr} {vs : Array Value}, hh.get? z = some { cls := .type "zip", dict := none, data := .fields vs, slots := #[] } → (∃ o, hh.get? e = some o ∧ o.cls = .type "StopIteration") → e ≠ z := by
      rintro hh e vs hzz ⟨o, ho, hc⟩ rfl
      rw [hzz] at ho
      cases ho
      simp at hc
    cases q1 : xs[k1]? with
    | none =>
      refine wpAny_bind (wpAny_nextOf_list_end calm (h1a.extBut cb.extBut D.i1z) (l1a.extBut cb.extBut D.l1z) q1 fun hc e cc ho => ?_)
      have zc := cc _ _ D.i1z.symm zb
      refine wpAny_setField_rec zc (by simp) fun hd _ cd => hE hd e (((ra.then (.one cb (by simp))).then (byExt cc (by simp))).then (.one cd (by simp))) ?_
      obtain ⟨o, o1, o2⟩ := id ho
      exact ⟨o, cd.extBut _ _ (other zc ho) o1, o2⟩
    | some x =>
      have q2 : ys[k2]? = none := over.resolve_left fun n => by rw [q1] at n; cases n
      refine wpAny_bind (wpAny_nextOf_list_item (s := { s with heap := hb }) (h1a.extBut cb.extBut D.i1z) (l1a.extBut cb.extBut D.l1z) q1 fun hc h1c cc => wpAny_pure ?_)
      have TOc : IsPair hc TO a0 b0 := cc.extBut _ _ D.TOi1 (cb.extBut _ _ D.TOz TOa)
      refine wpAny_bind (wpAny_seqItems TOc rfl (wpAny_bind (wpAny_updateSeq_pair TOc fun hd TOd cd => wpAny_bind (wpAny_letGo (wpAny_pure ?_)))))
      refine wpAny_bind (wpAny_bind (wpAny_onRaise ?_))
      show wpAny _ _ (Builtin.SmallTypes.nextOf (.ref i2) >>= _) _ _ _
      have h2d := ((h2a.extBut cb.extBut D.i2z).extBut cc.extBut D.i12.symm).extBut cd.extBut D.TOi2.symm
      have l2d := ((l2a.extBut cb.extBut D.l2z).extBut cc.extBut D.l2i1).extBut cd.extBut D.l2TO
      refine wpAny_bind (wpAny_nextOf_list_end (s := { s with heap := hd }) calm h2d l2d q2 fun he e ce ho => ?_)
      have ze := ce _ _ D.i2z.symm (cd.extBut _ _ D.TOz.symm (cc.extBut _ _ D.i1z.symm zb))
      refine wpAny_setField_rec ze (by simp) fun hf _ cf => hE hf e (((((ra.then (.one cb (by simp))).then (.one cc (by simp))).then (.one cd (by simp))).then (byExt ce (by simp))).then (.one cf (by simp))) ?_
      obtain ⟨o, o1, o2⟩ := id ho
      exact ⟨o, cf.extBut _ _ (other ze ho) o1, o2⟩
/-! the zip drawn from within another iterator -/
theorem ZipAt.ty {z TI TO : Addr} (hz : ZipAt s.heap z TI TO) : s.TypeIs (.ref z) "zip" := let ⟨_, _, _, e⟩ := hz; ⟨_, e, rfl⟩
theorem nextOf_zip {z TI TO i1 i2 l1 l2 : Addr} {k1 k2 : Nat} {xs ys : Array Value} {x y : Value} {Q : Value → Shared → Prop} (D : ZipApart z TI TO i1 i2 l1 l2)
    (hz : ZipAt s.heap z TI TO) (hTI : IsPair s.heap TI (.ref i1) (.ref i2)) (hTO : ∃ a b, IsPair s.heap TO a b) (h1 : s.heap.IsListIter i1 l1 k1) (h2 : s.heap.IsListIter i2 l2 k2)
    (hl1 : s.heap.IsList l1 xs) (hl2 : s.heap.IsList l2 ys) (hx : xs[k1]? = some x) (hy : ys[k2]? = some y)
    (hQ : ∀ h', ZipAt h' z TI TO → (∃ a b, IsPair h' TO a b) → h'.IsListIter i1 l1 (k1 + 1) → h'.IsListIter i2 l2 (k2 + 1) → IsPair h' s.heap.objs.size x y → h'.objs.size = s.heap.objs.size + 1 →
      Rest [z, TO, i1, i2] s.heap h' → Q (.ref s.heap.objs.size) { s with heap := h' }) :
    wpAny (model prog w) A (Builtin.SmallTypes.nextOf (.ref z)) Q E s := by
  unfold Builtin.SmallTypes.nextOf
  exact wpAny_bind (wpAny_callSpecial?_slot (name := Str.ofString "__next__") hz.ty F.slot_zip_next
    (wpAny_call_entry F.slot_zip_next hz.ty F.entry_zip_next (zip_next_any D hz hTI hTO h1 h2 hl1 hl2 hx hy fun h' a b c d e f g => wpAny_pure (hQ h' a b c d e f g)) (F.args_zip_next_1 _)))
theorem nextOf_zip_end {z TI TO i1 i2 l1 l2 : Addr} {k1 k2 : Nat} {xs ys : Array Value} {Q : Value → Shared → Prop} (calm : A.handled = none) (D : ZipApart z TI TO i1 i2 l1 l2)
    (hz : ZipAt s.heap z TI TO) (hTI : IsPair s.heap TI (.ref i1) (.ref i2)) (hTO : ∃ a b, IsPair s.heap TO a b) (h1 : s.heap.IsListIter i1 l1 k1) (h2 : s.heap.IsListIter i2 l2 k2)
    (hl1 : s.heap.IsList l1 xs) (hl2 : s.heap.IsList l2 ys) (over : xs[k1]? = none ∨ ys[k2]? = none)
    (hE : ∀ h' e, Rest [z, TO, i1, i2] s.heap h' → (∃ o, h'.get? e = some o ∧ o.cls = .type "StopIteration") → E (.ref e) { s with heap := h' }) :
    wpAny (model prog w) A (Builtin.SmallTypes.nextOf (.ref z)) Q E s := by
  unfold Builtin.SmallTypes.nextOf
  exact wpAny_bind (wpAny_callSpecial?_slot (name := Str.ofString "__next__") hz.ty F.slot_zip_next
    (wpAny_call_entry F.slot_zip_next hz.ty F.entry_zip_next (zip_end_any calm D hz hTI hTO h1 h2 hl1 hl2 over hE) (F.args_zip_next_1 _)))
/-- enumerate over the zip: the next pair (number, pair) -/
theorem pyNext_enumz {e z TI TO i1 i2 l1 l2 : Addr} {i k1 k2 : Nat} {xs ys : Array Value} {x y old : Value} {Q : Option Value → Shared → Prop} (D : ZipApart z TI TO i1 i2 l1 l2) (out : e ∉ [z, TI, TO, i1, i2])
    (he : IsEnum s.heap e z i old) (hz : ZipAt s.heap z TI TO) (hTI : IsPair s.heap TI (.ref i1) (.ref i2)) (hTO : ∃ a b, IsPair s.heap TO a b) (h1 : s.heap.IsListIter i1 l1 k1) (h2 : s.heap.IsListIter i2 l2 k2)
    (hl1 : s.heap.IsList l1 xs) (hl2 : s.heap.IsList l2 ys) (hx : xs[k1]? = some x) (hy : ys[k2]? = some y)
    (hQ : ∀ h', IsEnumOut h' e z ((i : Int) + 1) (.ref s.heap.objs.size) (s.heap.objs.size + 1) → ZipAt h' z TI TO → IsPair h' TI (.ref i1) (.ref i2) → (∃ a b, IsPair h' TO a b) → h'.IsListIter i1 l1 (k1 + 1) → h'.IsListIter i2 l2 (k2 + 1) →
      IsPair h' s.heap.objs.size x y → IsPair h' (s.heap.objs.size + 1) (.int i s.toks) (.ref s.heap.objs.size) → Rest [e, z, TO, i1, i2] s.heap h' →
      Q (some (.ref (s.heap.objs.size + 1))) { s with heap := h', toks := s.toks + 1 }) :
    wpAny (model prog w) A (pyNext (.ref e)) Q E s := by
  have ty : s.TypeIs (.ref e) "enumerate" := ⟨_, he, rfl⟩
  have nez : e ≠ z := fun q => out (by simp [q])
  have neTI : e ≠ TI := fun q => out (by simp [q])
  have neTO : e ≠ TO := fun q => out (by simp [q])
  have ne1 : e ≠ i1 := fun q => out (by simp [q])
  have ne2 : e ≠ i2 := fun q => out (by simp [q])
  unfold pyNext
  refine wpAny_bind (wpAny_attempt (wpAny_callSpecial?_slot (name := Str.ofString "__next__") ty F.slot_enumerate_next
    (wpAny_call_entry F.slot_enumerate_next ty F.entry_enumerate_next ?_ (F.args_enumerate_next_1 _))))
  show wpAny _ _ (field (.ref e) 2 >>= _) _ _ _
  refine wpAny_bind (wpAny_field he rfl (x := .ref z) rfl ?_)
  refine wpAny_bind (nextOf_zip D hz hTI hTO h1 h2 hl1 hl2 hx hy fun ha za TOa h1a h2a pa sa ra => ?_)
  have ea : IsEnum ha e z i old := ra _ _ (by simp [nez, neTO, ne1, ne2]) he
  have TIa : IsPair ha TI (.ref i1) (.ref i2) := ra _ _ (by simp [D.TIz, D.TITO, D.TIi1, D.TIi2]) hTI
  show wpAny _ _ (field (.ref e) 3 >>= _) _ _ { s with heap := ha }
  refine wpAny_bind (wpAny_field ea rfl (x := rawInt i) rfl ?_)
  show wpAny _ _ (field (.ref e) 4 >>= _) _ _ { s with heap := ha }
  refine wpAny_bind (wpAny_field ea rfl (x := .none) rfl ?_)
  show wpAny _ _ (mkInt i >>= _) _ _ { s with heap := ha }
  refine wpAny_bind (wpAny_mkInt ?_)
  show wpAny _ _ (setField (.ref e) 3 (rawInt ((i : Int) + 1)) >>= _) _ _ _
  refine wpAny_bind (wpAny_setField_rec ea (by simp) fun hb eb cb => ?_)
  show wpAny _ _ (setField (.ref e) 4 .none >>= _) _ _ _
  refine wpAny_bind (wpAny_setField_rec eb (by simp) fun hc ec cc => ?_)
  have ec' : IsEnum hc e z ((i : Int) + 1) old := ec
  show wpAny _ _ (newTuple [.int i s.toks, .ref s.heap.objs.size] >>= _) _ _ _
  refine wpAny_bind (wpAny_newTuple ?_)
  have sc : hc.objs.size = s.heap.objs.size + 1 := by rw [cc.1, cb.1, sa]
  have ed : IsEnum (hc.push { cls := .type "tuple", data := .seq #[.int i s.toks, .ref s.heap.objs.size] }) e z ((i : Int) + 1) old := Heap.get?_push_of_some _ ec'
  have pd : IsPair (hc.push { cls := .type "tuple", data := .seq #[.int i s.toks, .ref s.heap.objs.size] }) hc.objs.size (.int i s.toks) (.ref s.heap.objs.size) := Heap.get?_push_size _ rfl
  have up1 : ∀ c o, c ≠ e → ha.get? c = some o → (hc.push { cls := .type "tuple", data := .seq #[.int i s.toks, .ref s.heap.objs.size] }).get? c = some o := fun c o n q => Heap.get?_push_of_some _ (cc.extBut _ _ n (cb.extBut _ _ n q))
  show wpAny _ _ (Builtin.SmallTypes.ownedTupleIsFree (.ref e) >>= _) _ _ { s with heap := hc.push { cls := .type "tuple", data := .seq #[.int i s.toks, .ref s.heap.objs.size] }, toks := s.toks + 1 }
  generalize hc.push { cls := .type "tuple", data := .seq #[.int i s.toks, .ref s.heap.objs.size] } = hd at ed pd up1 ⊢
  rw [sc] at pd ⊢
  refine wpAny_bind ?_
  unfold Builtin.SmallTypes.ownedTupleIsFree
  refine wpAny_bind (wpAny_field ed rfl (x := .none) rfl (wpAny_pure ?_))
  simp only [if_true]
  refine wpAny_bind (wpAny_rule (wpAny_bind (wpAny_field ed rfl (x := old) rfl (wpAny_bind (wpAny_setField_rec ed (by simp) fun he' ee ce => ?_)))))
  show wpAny _ _ (Builtin.SmallTypes.ownedTupleHandOut (.ref e) (.ref (s.heap.objs.size + 1)) >>= _) _ _ _
  refine wpAny_bind ?_
  unfold Builtin.SmallTypes.ownedTupleHandOut
  refine wpAny_bind (wpAny_setField_rec ee (by simp) fun hf ef cf => wpAny_setField_rec ef (by simp) fun hg eg cg => wpAny_bind (wpAny_letGo (wpAny_pure ⟨_, rfl, wpAny_pure ?_⟩)))
  have up2 : ∀ c o, c ≠ e → hd.get? c = some o → hg.get? c = some o := fun c o n q => cg.extBut _ _ n (cf.extBut _ _ n (ce.extBut _ _ n q))
  have up : ∀ c o, c ≠ e → ha.get? c = some o → hg.get? c = some o := fun c o n q => up2 c o n (up1 c o n q)
  have lte : e < s.heap.objs.size := Heap.lt_size he
  obtain ⟨g0, g, hgf, zg⟩ := za
  obtain ⟨a0, b0, TOa⟩ := TOa
  exact hQ hg eg ⟨g0, g, hgf, up _ _ nez.symm zg⟩ (up _ _ neTI.symm TIa) ⟨a0, b0, up _ _ neTO.symm TOa⟩ (h1a.at fun o q => up _ o ne1.symm q) (h2a.at fun o q => up _ o ne2.symm q)
    (up _ _ (Nat.ne_of_gt lte) pa) (up2 _ _ (Nat.ne_of_gt (Nat.lt_succ_of_lt lte)) pd) fun c o hc q => up c o (fun n => hc (by simp [n])) (ra c o (fun n => hc (by simp at n ⊢; exact .inr n)) q)
theorem pyNext_enumz_end {e z TI TO i1 i2 l1 l2 : Addr} {i : Int} {k1 k2 : Nat} {xs ys : Array Value} {old : Value} {Q : Option Value → Shared → Prop} (calm : A.handled = none) (D : ZipApart z TI TO i1 i2 l1 l2)
    (he : IsEnum s.heap e z i old) (hz : ZipAt s.heap z TI TO) (hTI : IsPair s.heap TI (.ref i1) (.ref i2)) (hTO : ∃ a b, IsPair s.heap TO a b) (h1 : s.heap.IsListIter i1 l1 k1) (h2 : s.heap.IsListIter i2 l2 k2)
    (hl1 : s.heap.IsList l1 xs) (hl2 : s.heap.IsList l2 ys) (over : xs[k1]? = none ∨ ys[k2]? = none)
    (hQ : ∀ h', Rest [z, TO, i1, i2] s.heap h' → Q none { s with heap := h' }) : wpAny (model prog w) A (pyNext (.ref e)) Q E s := by
  have ty : s.TypeIs (.ref e) "enumerate" := ⟨_, he, rfl⟩
  unfold pyNext
  refine wpAny_bind (wpAny_attempt (wpAny_callSpecial?_slot (name := Str.ofString "__next__") ty F.slot_enumerate_next
    (wpAny_call_entry F.slot_enumerate_next ty F.entry_enumerate_next ?_ (F.args_enumerate_next_1 _))))
  show wpAny _ _ (field (.ref e) 2 >>= _) _ _ _
  refine wpAny_bind (wpAny_field he rfl (x := .ref z) rfl (wpAny_bind (nextOf_zip_end calm D hz hTI hTO h1 h2 hl1 hl2 over fun h' er r ho => ?_)))
  obtain ⟨o, o1, o2⟩ := ho
  exact wpAny_bind (wpAny_isInstance (T := "StopIteration") (b := true) ⟨o, o1, o2⟩ isSubtype_stop (wpAny_pure (hQ _ r)))
end
theorem meets_enumz (z TI TO : Addr) :
    Meets (Builtin.«enumerate.__new__» ⟨[.type "enumerate", .ref z], []⟩) (fun _ R s => IsZip s.heap z TI TO .none ∧
      R (.ok (.ret (.ref s.heap.objs.size))) { s with heap := s.heap.push { cls := .type "enumerate", data := .fields #[.none, .bool false, .ref z, rawInt 0, .none, .none] } }) :=
  .of_wp fun prog w A R s h => by
    obtain ⟨hp, g, d, tk, os⟩ := s
    obtain ⟨hz, fin⟩ := h
    have sub := sub_enumerate
    have zz : IsZip (Shared.heap ⟨hp, g, d, tk, os⟩) z TI TO .none := hz
    wp_walk
    refine wpAny_stack_any fun st => wpAny_pure ?_
    split
    · rename_i c _ _ _ _ _
      cases (c == Value.type "enumerate") <;> (wp_walk using wpAny_pyIter_zip zz; exact ⟨_, rfl, fin⟩)
    · wp_walk using wpAny_pyIter_zip zz
      exact ⟨_, rfl, fin⟩
section
variable {prog : Program} {w : World} {A : Around} {E : Value → Shared → Prop} {s : Shared}
theorem call_enumz {z TI TO : Addr} {Q : Value → Shared → Prop} (hz : IsZip s.heap z TI TO .none)
    (h : ∀ h', IsEnum h' s.heap.objs.size z 0 .none → (∀ c o, s.heap.get? c = some o → h'.get? c = some o) → Q (.ref s.heap.objs.size) { s with heap := h' }) :
    wpAny (model prog w) A (call (.type "enumerate") [.ref z]) Q E s := by
  refine callType_new F.called_enumerate (by decide) (F.typeCall_enumerate_1 _) (F.newCall_enumerate_1 _) (fun ob => F.args_object_init_2 ob _) F.entry_enumerate_new (meets_enumz z TI TO) ⟨hz, ?_⟩
  have there : IsEnum (s.heap.push { cls := .type "enumerate", data := .fields #[.none, .bool false, .ref z, rawInt 0, .none, .none] }) s.heap.objs.size z 0 .none := Heap.get?_push_size _ rfl
  exact ⟨⟨_, there, rfl⟩, h _ there fun c o q => Heap.get?_push_of_some _ q⟩
end
/-! ### the loop's turns -/
/-- records of ours have turned, new objects are laid: H' knows what H knew, and more at new places -/
theorem turnedMore {X : Cx} {pins : List (Addr × Obj)} {σ : L2.St} {H H' : Hp} {s : Shared} {h' : Heap} {t' : Nat} {ch : List Addr} (I : L2.Inv X pins σ H s) (keeps : ∀ b o, b ∉ ch → s.heap.get? b = some o → h'.get? b = some o)
    (mine : ∀ b ∈ ch, FpOk X pins H b) (same : Same H H') (low : ∀ b, b < s.heap.objs.size → H' b = H b) (news : ∀ b u, H' b = some u → H b = none → ObjOk X.prog X.w H' h' b u) :
    L2.Inv X pins σ H' { s with heap := h', toks := t' } := by
  have far : ∀ b u, H b = some u → b ∉ ch := fun b u e z => by
    have free := (mine b z).1
    rw [free] at e
    cases e
  refine I.step (g' := s.gens) (d' := s.drawn) (ch := ch) (fun b hb => ?_) (fun b o _ _ n e _ => keeps b o n e) (fun b o _ _ n e _ => ⟨o.slots, keeps b o n e⟩) (fun b o _ e n => ?_) (fun b o n e => ⟨o, keeps b o n e⟩)
    (fun b xs e => same b _ e) (fun b o u e => same b _ e) (fun b ps e => ⟨#[], ?_⟩) (fun m hm => ?_) (fun b u e => ?_) I.bare
  · obtain ⟨_, m1, _, m3, m4, m5⟩ := mine b hb
    exact ⟨m3, m1, m4, m5⟩
  · rw [low b (Heap.lt_size e)]
    exact n
  · rw [same b _ e]
    simp
  · obtain ⟨o, es, ep, ho, r⟩ := hm
    exact ⟨o, es, ep, keeps _ o (fun z => (mine _ z).2.1 rfl) ho, r⟩
  · cases q : H b with
    | none => exact news b u e q
    | some v =>
      have e2 := same b v q
      rw [e] at e2
      cases e2
      refine (I.hok b u q).stay (fun c o hc r => keeps c o ?_ r) (fun c r => same c _ r) fun c xs r => same c _ r
      rcases hc with z | z
      · rw [z]; exact far b u q
      · exact far c _ z
/-- the lists at a and b; each turn a new pair of the number and of a new pair of both items -/
def Itez (K : PySem.W.Frag) (a b : Addr) : It where
  go := (Itz K a b).go
  yld := fun i H v H' => ∃ (T P : Addr) (x y : V), v = .ref T ∧ H P = none ∧ H T = none ∧ T ≠ P ∧ H' = upd (upd H P (.tup [x, y])) T (.tup [.int (i : Nat), .ref P]) ∧ (∀ xs, SqL K H a xs → xs[i]? = some x) ∧ ∀ ys, SqL K H b ys → ys[i]? = some y
  stop := (Itz K a b).stop
theorem turn_enumz {P : Program} {w : World} {K : PySem.W.Frag} {elts : List Expr} {kk : Nat} {tpos : Pos} {a b e z TI TO i1 i2 : Addr} (D : ZipApart z TI TO i1 i2 a b) (out : e ∉ [z, TI, TO, i1, i2]) :
    Turn P w K (.Tuple elts kk tpos) (Itez K a b) [e, z, TI, TO, i1, i2] e (fun i h => (∃ old, IsEnum h e z ((i : Nat) : Int) old) ∧ ZipAt h z TI TO ∧ IsPair h TI (.ref i1) (.ref i2) ∧ (∃ x y, IsPair h TO x y) ∧ h.IsListIter i1 a i ∧ h.IsListIter i2 b i) where
  mem := by simp
  obj := fun i h st c hc => by
    obtain ⟨⟨old, he⟩, ⟨f0, f, _, hz⟩, hTI, ⟨x, y, hTO⟩, ⟨o1, e1, _, d1⟩, ⟨o2, e2, _, d2⟩⟩ := st
    have cases6 : c = e ∨ c = z ∨ c = TI ∨ c = TO ∨ c = i1 ∨ c = i2 := by simpa using hc
    rcases cases6 with rfl | rfl | rfl | rfl | rfl | rfl
    · exact ⟨_, he, fun _ q => nomatch q⟩
    · exact ⟨_, hz, fun _ q => nomatch q⟩
    · exact ⟨_, hTI, fun _ q => nomatch q⟩
    · exact ⟨_, hTO, fun _ q => nomatch q⟩
    · exact ⟨o1, e1, fun _ q => by rw [d1] at q; cases q⟩
    · exact ⟨o2, e2, fun _ q => by rw [d2] at q; cases q⟩
  keep := fun i h h' st k => by
    obtain ⟨⟨old, he⟩, ⟨f0, f, hf, hz⟩, hTI, ⟨x, y, hTO⟩, h1, h2⟩ := st
    exact ⟨⟨old, k e (by simp) _ he⟩, ⟨f0, f, hf, k z (by simp) _ hz⟩, k TI (by simp) _ hTI, ⟨x, y, k TO (by simp) _ hTO⟩, h1.at fun o q => k i1 (by simp) o q, h2.at fun o q => k i2 (by simp) o q⟩
  item := by
    intro X hP hw hK hc i pins s σ H E I hf st hg
    subst hP hw hK
    obtain ⟨⟨old, he⟩, hz, hTI, hTO, h1, h2⟩ := st
    obtain ⟨xs, ys, x, y, qx, qy, gx, gy⟩ := hg
    obtain ⟨is, rx, px, _⟩ := I.list qx
    obtain ⟨js, ry, py, _⟩ := I.list qy
    obtain ⟨u, hu, ru⟩ := rx.get gx
    obtain ⟨v, hv, rv⟩ := ry.get gy
    have below : ∀ c ∈ [e, z, TI, TO, i1, i2], c < s.heap.objs.size := fun c hcm => by
      obtain ⟨_, _, _, zz⟩ := id hz
      obtain ⟨_, _, TT⟩ := hTO
      obtain ⟨_, q1, _⟩ := id h1
      obtain ⟨_, q2, _⟩ := id h2
      have cases6 : c = e ∨ c = z ∨ c = TI ∨ c = TO ∨ c = i1 ∨ c = i2 := by simpa using hcm
      rcases cases6 with q | q | q | q | q | q <;> rw [q] <;> exact Heap.lt_size (by assumption)
    refine pyNext_enumz D out he hz hTI hTO h1 h2 px.isList py.isList (x := u) (y := v) (by simpa using hu) (by simpa using hv) fun h' e' z' TI' TO' g1 g2 pP pT rest => ?_
    refine ⟨_, rfl, wpAny_letOwnedTupleGo_enum (s := { s with heap := h', toks := s.toks + 1 }) e' fun h2' e2 sb => ?_⟩
    have nee : ∀ c ∈ [z, TI, TO, i1, i2], c ≠ e := fun c hc q => out (q ▸ hc)
    have up : ∀ c o, c ≠ e → h'.get? c = some o → h2'.get? c = some o := fun c o n q => sb.extBut _ _ n q
    have lte := below e (by simp)
    have tupP : h2'.get? s.heap.objs.size = some { cls := .type "tuple", data := .seq #[u, v] } := up _ _ (Nat.ne_of_gt lte) pP
    have tupT : h2'.get? (s.heap.objs.size + 1) = some { cls := .type "tuple", data := .seq #[.int i s.toks, .ref s.heap.objs.size] } := up _ _ (Nat.ne_of_gt (Nat.lt_succ_of_lt lte)) pT
    have keeps : ∀ c o, c ∉ [e, z, TI, TO, i1, i2] → s.heap.get? c = some o → h2'.get? c = some o := fun c o n q => up c o (fun m => n (by simp [m])) (rest c o (fun m => n (by simp at m ⊢; rcases m with m | m | m | m | m <;> simp [m])) q)
    have freeP : H s.heap.objs.size = none := I.hok.fresh (Nat.le_refl _)
    have freeT : H (s.heap.objs.size + 1) = none := I.hok.fresh (Nat.le_succ _)
    have neTP : s.heap.objs.size + 1 ≠ s.heap.objs.size := Nat.succ_ne_self _
    have I2 : L2.Inv X pins σ (upd (upd H s.heap.objs.size (.tup [x, y])) (s.heap.objs.size + 1) (.tup [.int (i : Nat), .ref s.heap.objs.size])) { s with heap := h2', toks := s.toks + 1 } := by
      refine turnedMore (ch := [e, z, TI, TO, i1, i2]) I keeps hf (fun c o q => ?_) (fun c hlt => ?_) fun c o q n => ?_
      · rw [upd_ne (ne_of_none q freeT), upd_ne (ne_of_none q freeP)]
        exact q
      · rw [upd_ne (Nat.ne_of_lt (Nat.lt_succ_of_lt hlt)), upd_ne (Nat.ne_of_lt hlt)]
      · by_cases c1 : c = s.heap.objs.size + 1
        · subst c1
          rw [upd_same] at q
          cases q
          exact ⟨by show 2 ≤ sizeLine; decide, [.int i s.toks, .ref s.heap.objs.size], .cons ⟨_, rfl⟩ (.cons rfl .nil), ⟨_, tupT, rfl, _, rfl⟩⟩
        · rw [upd_ne c1] at q
          by_cases c2 : c = s.heap.objs.size
          · subst c2
            rw [upd_same] at q
            cases q
            exact ⟨by show 2 ≤ sizeLine; decide, [u, v], .cons ru (.cons rv .nil), ⟨_, tupP, rfl, _, rfl⟩⟩
          · rw [upd_ne c2, n] at q
            cases q
    refine ⟨.ref (s.heap.objs.size + 1), _, I2, rfl, ⟨_, _, x, y, rfl, freeP, freeT, neTP, rfl, fun l hl => by rw [I.list_inj hl qx]; exact gx, fun l hl => by rw [I.list_inj hl qy]; exact gy⟩, ⟨⟨.ref s.heap.objs.size, ?_⟩, ?_, ?_, ?_, ?_, ?_⟩, fun c hcm => ?_⟩
    · have e1 : ((i + 1 : Nat) : Int) = (i : Int) + 1 := by omega
      rw [e1]; exact e2
    · obtain ⟨f0, f, hf0, zz⟩ := z'
      exact ⟨f0, f, hf0, up _ _ (nee _ (by simp)) zz⟩
    · exact up _ _ (nee _ (by simp)) TI'
    · obtain ⟨x0, y0, TT⟩ := TO'
      exact ⟨x0, y0, up _ _ (nee _ (by simp)) TT⟩
    · exact g1.at fun o q => up _ _ (nee _ (by simp)) q
    · exact g2.at fun o q => up _ _ (nee _ (by simp)) q
    · have lt := below c hcm
      rw [upd_ne (Nat.ne_of_lt (Nat.lt_succ_of_lt lt)), upd_ne (Nat.ne_of_lt lt)]
      exact (hf c hcm).1
  done := by
    intro X hP hw hK hc i pins s σ H E I hf st hg
    subst hP hw hK
    obtain ⟨⟨old, he⟩, hz, hTI, hTO, h1, h2⟩ := st
    obtain ⟨xs, ys, qx, qy, over⟩ := hg
    obtain ⟨is, rx, px, _⟩ := I.list qx
    obtain ⟨js, ry, py, _⟩ := I.list qy
    have l1 := rx.length
    have l2 := ry.length
    have over2 : is.toArray[i]? = none ∨ js.toArray[i]? = none := over.imp (fun q => by simp; omega) fun q => by simp; omega
    exact pyNext_enumz_end (I.ok.hd hc) D he hz hTI hTO h1 h2 px.isList py.isList over2 fun h' rest => ⟨rfl, I.turnedL (t' := s.toks) (ch := [e, z, TI, TO, i1, i2]) (fun c o n q => rest c o (fun m => n (by simp at m ⊢; rcases m with m | m | m | m <;> simp [m])) q) hf⟩
  self := fun A i s Q E st h => let ⟨⟨_, he⟩, _⟩ := st; wpAny_pyIter_enum he h
def iEnumz (K : PySem.W.Frag) (ta : TA) : TI := fun σ H R => ta σ H fun vs H1 => ∃ (a b : Addr) (xs ys : List V), vs = [.ref a, .ref b] ∧ SqL K H1 a xs ∧ SqL K H1 b ys ∧ R (Itez K a b) H1
/-- enumerate(zip(e, e2)), walked by a target of several names -/
theorem pi_enumz {X : Cx} {e e2 : Expr} {ta : TA} {p p2 pos pos2 tpos : Pos} {elts : List Expr} {kk : Nat} (hg : Gl X "enumerate") (hm : X.mg "enumerate" = none) (hg2 : Gl X "zip") (hm2 : X.mg "zip" = none) (ha : PA X [e, e2] ta)
    (hs : starEach [.Call (.Name "zip" p2) [e, e2] [] pos2] X.env = [(false, eval (.Call (.Name "zip" p2) [e, e2] [] pos2) X.env)] := by rfl)
    (hs2 : starEach [e, e2] X.env = (false, eval e X.env) :: starEach [e2] X.env := by rfl) (hpl : (backTo pos2 (starEach [e2] X.env)).any (·.1) = false := by rfl) :
    PI X (.Tuple elts kk tpos) (.Call (.Name "enumerate" p) [.Call (.Name "zip" p2) [e, e2] [] pos2] [] pos) (iEnumz X.K ta) := by
  refine ⟨fun pins s σ H R I h => ?_⟩
  refine Call_ (ld_blt I hg hm boot_enumerate (PyProof.Rows.callWith_type1 (PyProof.Rows.args_cons ?_ hs) hs rfl))
  refine Call_ (ld_blt I hg2 hm2 PyProof.Rows.boot_zip (PyProof.Rows.callWith_type1 (thn (ha.run pos2 pins s σ H _ I h) fun us s1 got => ?_) hs2 hpl))
  obtain ⟨vs, H1, I1, r1, a, b, xs, ys, rfl, qx, qy, q⟩ := got
  obtain ⟨u1, u2, rfl, ra, rb⟩ := vals2 r1
  cases ra
  cases rb
  obtain ⟨is, rx, px, _⟩ := I1.list qx
  obtain ⟨js, ry, py, _⟩ := I1.list qy
  refine call_zip_2 px.isList py.isList fun h' hz hTI hTO h1 h2 sz keeps => PyProof.Rows.args_nil ?_
  have I2 : L2.Inv X pins σ H1 { s1 with heap := h' } := I1.kept (t' := s1.toks) keeps
  refine call_enumz hz fun h2' he keeps2 => wpAny_pyIter_enum he ?_
  have I3 : L2.Inv X pins σ H1 { s1 with heap := h2' } := I2.kept (t' := s1.toks) keeps2
  replace sz : h'.objs.size = s1.heap.objs.size + 5 := sz
  replace he : IsEnum h2' h'.objs.size (s1.heap.objs.size + 4) 0 .none := he
  rw [sz] at he
  have out : s1.heap.objs.size + 5 ∉ [s1.heap.objs.size + 4, s1.heap.objs.size + 2, s1.heap.objs.size + 3, s1.heap.objs.size, s1.heap.objs.size + 1] := by
    intro z
    have z2 : ∀ n : Nat, n + 5 ∉ [n + 4, n + 2, n + 3, n, n + 1] := fun n => by simp
    exact z2 _ z
  show PIE X pins σ _ R (.ref h'.objs.size) _
  rw [sz]
  refine ⟨s1.heap.objs.size + 5, [s1.heap.objs.size + 5, s1.heap.objs.size + 4, s1.heap.objs.size + 2, s1.heap.objs.size + 3, s1.heap.objs.size, s1.heap.objs.size + 1], _, _, H1, rfl, I3,
    turn_enumz (PySem.W.ktu_apart s1.heap.objs.size a b px.lt py.lt) out, ⟨⟨.none, he⟩, ⟨.none, false, .inl rfl, keeps2 _ _ hz⟩, keeps2 _ _ hTI, ⟨_, _, keeps2 _ _ hTO⟩, h1.at fun o z => keeps2 _ _ z, h2.at fun o z => keeps2 _ _ z⟩, fun c hcm => ?_, q⟩
  have le : s1.heap.objs.size ≤ c := by
    have z2 : ∀ n m : Nat, m ∈ [n + 5, n + 4, n + 2, n + 3, n, n + 1] → n ≤ m := fun n m hm => by
      simp at hm
      omega
    exact z2 _ _ hcm
  exact I1.fpOk le (I1.hok.fresh le)
/-- its turns -/
theorem walk_enumz {K : PySem.W.Frag} {a b : Addr} {xs ys : List V} {n : Nat} (hn : n = min xs.length ys.length) : Walk (Itez K a b) n (fun H => SqL K H a xs ∧ SqL K H b ys)
    (fun i H v H' => ∃ (T P : Addr) (x y : V), v = .ref T ∧ H P = none ∧ H T = none ∧ T ≠ P ∧ H' = upd (upd H P (.tup [x, y])) T (.tup [.int (i : Nat), .ref P]) ∧ xs[i]? = some x ∧ ys[i]? = some y) := by
  subst hn
  refine ⟨fun i H hi q => ?_, fun H q => ⟨xs, ys, q.1, q.2, by omega⟩, fun i H v H' _ q y => ?_⟩
  · have l1 : i < xs.length := by omega
    have l2 : i < ys.length := by omega
    exact ⟨xs, ys, xs[i], ys[i], q.1, q.2, List.getElem?_eq_getElem l1, List.getElem?_eq_getElem l2⟩
  · obtain ⟨T, P, x, z, h1, h2, h3, h4, h5, h6, h7⟩ := y
    exact ⟨T, P, x, z, h1, h2, h3, h4, h5, h6 xs q.1, h7 ys q.2⟩
end K19
/-! K19C: the text by places, heaps, the defs of basics and products. -/
namespace K19
open PySem PySem.Spec PyProof.Rows L2 RZ
/-! ### the text -/
def topS (i : Nat) : Stmt := PySem.Challenge.pw_etaparts_k19_whole_same_numbers_for_ever.main.body.getD i (.Pass ⟨0, 0, 0, 0⟩)
abbrev sInteger : Stmt := topS 8
abbrev sCount : Stmt := topS 9
abbrev sIsList : Stmt := topS 10
abbrev sPair : Stmt := topS 16
abbrev sIsProd : Stmt := topS 17
abbrev sWant : Stmt := topS 18
abbrev sPowersOf : Stmt := topS 19
abbrev sUnlike : Stmt := topS 20
abbrev sParting : Stmt := topS 21
theorem scInteger : FnScope ["value"] ["value"] (defScope sInteger) := ⟨rfl, rfl, rfl, by decide +kernel, rfl, by decide +kernel, by decide +kernel⟩
theorem scCount : FnScope ["value"] ["value"] (defScope sCount) := ⟨rfl, rfl, rfl, by decide +kernel, rfl, by decide +kernel, by decide +kernel⟩
theorem scIsList : FnScope ["value"] ["value"] (defScope sIsList) := ⟨rfl, rfl, rfl, by decide +kernel, rfl, by decide +kernel, by decide +kernel⟩
theorem scPair : FnScope ["value", "one"] ["value"] (defScope sPair) := ⟨rfl, rfl, rfl, by decide +kernel, rfl, by decide +kernel, by decide +kernel⟩
theorem scIsProd : FnScope ["value", "powers", "one", "late"] ["value"] (defScope sIsProd) := ⟨rfl, rfl, rfl, by decide +kernel, rfl, by decide +kernel, by decide +kernel⟩
theorem scWant : FnScope ["value"] ["value"] (defScope sWant) := ⟨rfl, rfl, rfl, by decide +kernel, rfl, by decide +kernel, by decide +kernel⟩
theorem scPowersOf : FnScope ["product", "step", "power"] ["product"] (defScope sPowersOf) := ⟨rfl, rfl, rfl, by decide +kernel, rfl, by decide +kernel, by decide +kernel⟩
theorem scUnlike : FnScope ["product", "other", "one", "late", "some", "step"] ["product", "other"] (defScope sUnlike) := ⟨rfl, rfl, rfl, by decide +kernel, rfl, by decide +kernel, by decide +kernel⟩
theorem scParting : FnScope ["product", "other"] ["product", "other"] (defScope sParting) := ⟨rfl, rfl, rfl, by decide +kernel, rfl, by decide +kernel, by decide +kernel⟩
/-! ### the built-in names that the text uses -/
structure Bt (mg : Str → Option Value) : Prop where
  isi : mg "isinstance" = none
  int : mg "int" = none
  bool : mg "bool" = none
  list : mg "list" = none
  tuple : mg "tuple" = none
  len : mg "len" = none
  all : mg "all" = none
  abs : mg "abs" = none
  str : mg "str" = none
  zip : mg "zip" = none
  dict : mg "dict" = none
  sorted : mg "sorted" = none
  range : mg "range" = none
  sum : mg "sum" = none
  enumerate : mg "enumerate" = none
  max : mg "max" = none
  divmod : mg "divmod" = none
  repr : mg "repr" = none
  word : ∃ t, mg "WORD" = some (.str "product" t)
  steps : ∃ t, mg "MOST_STEPS" = some (.int 12 t)
  step : ∃ t, mg "MOST_STEP" = some (.int 60 t)
  power : ∃ t, mg "MOST_POWER" = some (.int 60 t)
  places : ∃ t, mg "MOST_PLACES" = some (.int 3000 t)
  bound : ∃ t, mg "BOUND_OF_DIGITS" = some (.int (10 ^ 400) t)
/-! ### heaps -/
theorem same_new {H : Hp} {p : Addr} {o : HO} (h : H p = none) : Same H (upd H p o) := fun b x e => by
  rw [upd_ne (ne_of_none e h)]
  exact e
/-- all but the object at p -/
def But (p : Addr) (H H' : Hp) : Prop := ∀ b o, H b = some o → b ≠ p → H' b = some o
theorem But.refl (p : Addr) (H : Hp) : But p H H := fun _ _ h _ => h
theorem But.trans {p : Addr} {H H1 H2 : Hp} (a : But p H H1) (b : But p H1 H2) : But p H H2 := fun c o h n => b c o (a c o h n) n
theorem But.of {p : Addr} {H H' : Hp} (a : Same H H') : But p H H' := fun c o h _ => a c o h
theorem But.upd {p : Addr} {H H' : Hp} {o : HO} (a : But p H H') : But p H (upd H' p o) := fun c u h n => by
  rw [upd_ne n]
  exact a c u h n
theorem But.same {p : Addr} {H H' : Hp} (a : But p H H') (n : H p = none) : Same H H' := fun c o h => a c o h (ne_of_none h n)
/-- a tuple of pairs (step, power) -/
def PwAt (H : Hp) (t : Addr) (ps : Pows) : Prop := ∃ qs : List Addr, H t = some (.tup (qs.map V.ref)) ∧ Paired (fun (q : Addr) (kv : Int × Int) => H q = some (.tup [.int kv.1, .int kv.2])) qs ps
/-- a tuple ("product", powers) -/
def PrAt (H : Hp) (a : Addr) (ps : Pows) : Prop := ∃ t, H a = some (.tup [.str "product", .ref t]) ∧ PwAt H t ps
theorem paired_imp {α β : Type} {F G : α → β → Prop} (h : ∀ a b, F a b → G a b) : ∀ {l : List α} {m : List β}, Paired F l m → Paired G l m
  | _, _, .nil => .nil
  | _, _, .cons a r => .cons (h _ _ a) (paired_imp h r)
theorem paired_len {α β : Type} {F : α → β → Prop} : ∀ {l : List α} {m : List β}, Paired F l m → l.length = m.length
  | _, _, .nil => rfl
  | _, _, .cons _ r => congrArg Nat.succ (paired_len r)
theorem paired_at {α β : Type} {F : α → β → Prop} : ∀ {l : List α} {m : List β} {i : Nat} {a : α}, Paired F l m → l[i]? = some a → ∃ b, m[i]? = some b ∧ F a b
  | _, _, _, _, .nil, h => by simp at h
  | _, _, 0, _, .cons f _, h => by
    simp at h
    subst h
    exact ⟨_, rfl, f⟩
  | _, _, i + 1, _, .cons _ r, h => by
    obtain ⟨b, h1, h2⟩ := paired_at (i := i) r (by simpa using h)
    exact ⟨b, by simpa using h1, h2⟩
theorem paired_app {α β : Type} {F : α → β → Prop} {a : α} {b : β} (h : F a b) : ∀ {l : List α} {m : List β}, Paired F l m → Paired F (l ++ [a]) (m ++ [b])
  | _, _, .nil => .cons h .nil
  | _, _, .cons x r => .cons x (paired_app h r)
theorem PwAt.but {p : Addr} {H H' : Hp} {t : Addr} {ps : Pows} (x : PwAt H t ps) (s : But p H H') (n : ∀ xs, H p ≠ some (.tup xs)) : PwAt H' t ps := by
  obtain ⟨qs, h1, h2⟩ := x
  have ne : ∀ b xs, H b = some (.tup xs) → b ≠ p := fun b xs h z => n xs (z ▸ h)
  exact ⟨qs, s _ _ h1 (ne _ _ h1), paired_imp (fun a b h => s _ _ h (ne _ _ h)) h2⟩
theorem PwAt.same {H H' : Hp} {t : Addr} {ps : Pows} (x : PwAt H t ps) (s : Same H H') : PwAt H' t ps := by
  obtain ⟨qs, h1, h2⟩ := x
  exact ⟨qs, s _ _ h1, paired_imp (fun a b h => s _ _ h) h2⟩
theorem PrAt.same {H H' : Hp} {a : Addr} {ps : Pows} (x : PrAt H a ps) (s : Same H H') : PrAt H' a ps := by
  obtain ⟨t, h1, h2⟩ := x
  exact ⟨t, s _ _ h1, h2.same s⟩
theorem sqT {K : PySem.W.Frag} {H : Hp} {a : Addr} {xs : List V} (h : H a = some (.tup xs)) : SqT K H a xs := .inl (.inl h)
theorem sqL {K : PySem.W.Frag} {H : Hp} {a : Addr} {xs : List V} (h : H a = some (.lst xs)) : SqL K H a xs := .inl (.inl h)
theorem okSize {n : Nat} (h : n ≤ 5000) : n < sizeLine := Nat.lt_of_le_of_lt h (by decide)
/-! ### isinstance of a built-in class -/
section
variable {X : Cx}
theorem cr_isB : CallR X (.builtin "isinstance") (fun xs H Q => ∃ (x : V) (T t : String) (b : Bool), xs = [x, .ty T] ∧ TyX X.K H x (.type t) ∧ kitB t T = some b ∧ Q (.bl b) H) := by
  intro pins s σ H xs us Q I r h
  obtain ⟨x, T, t, b, rfl, ty, e, q⟩ := h
  exact call_isi pins s σ H _ us Q I r ⟨x, .ty T, .type t, .type T, b, rfl, .ty T, ty, kit_ty e, q⟩
/-- a built-in class as a value -/
theorem pe_cls (T : String) {x : Str} {pos : Pos} (hg : Gl X x) (hm : X.mg x = none) (hv : bootBuiltins x = some (.type T)) (h0 : x ≠ "__name__" := by decide +kernel) (h1 : (x == ("__debug__" : Str)) = false := by decide +kernel) : PE X (.Name x pos) (tC (.ty T)) :=
  pe_bltn (v := .ty T) hg hm hv rfl h0 h1
end
theorem ifD {c A B : Prop} [Decidable c] (hc : c) (h : A) : if decide c = true then A else B := by
  rw [decide_eq_true hc]
  exact iteT h
theorem ifDN {c A B : Prop} [Decidable c] (hc : ¬ c) (h : B) : if decide c = true then A else B := by
  rw [decide_eq_false hc]
  exact iteF h
theorem ifND {c A B : Prop} [Decidable c] (hc : ¬ c) (h : A) : if (!decide c) = true then A else B := by
  rw [decide_eq_false hc]
  exact iteT h
/-- a comprehension without a test keeps each item -/
theorem lcYes {σ : L2.St} {H : Hp} {A B : Hp → Prop} (h : A H) : tYes σ H fun b H3 => if b = true then A H3 else B H3 := by
  show if true = true then A H else B H
  exact iteT h
theorem walk_zipT {K : PySem.W.Frag} {a b : Addr} {xs ys : List V} {n : Nat} (hn : n = min xs.length ys.length) : Walk (ItzT K a b) n (fun H => SqT K H a xs ∧ SqT K H b ys) (YPair (fun i => xs[i]?) (fun i => ys[i]?)) := by
  subst hn
  refine ⟨fun i H hi q => ?_, fun H q => ⟨xs, ys, q.1, q.2, by omega⟩, fun i H v H' _ q y => ?_⟩
  · have l1 : i < xs.length := by omega
    have l2 : i < ys.length := by omega
    exact ⟨xs, ys, xs[i], ys[i], q.1, q.2, List.getElem?_eq_getElem l1, List.getElem?_eq_getElem l2⟩
  · obtain ⟨T, x, z, h1, h2, h3, h4, h5⟩ := y
    exact ⟨T, x, z, h1, h2, h3, h4 xs q.1, h5 ys q.2⟩
/-- t[1:], a new tuple or (of an empty one) itself -/
theorem tail_of {K : PySem.W.Frag} {σ : L2.St} {H : Hp} {t : Addr} {xs : List V} {R : VK} (ht : H t = some (.tup xs)) (h : ∀ c H1, Same H H1 → H1 c = some (.tup (xs.drop 1)) → R (.ref c) H1) : tNoPart σ H fun u H3 => rSlA K (.ref t) (some 1) u H3 R := by
  refine ⟨t, xs, rfl, sqT ht, fun hw => ?_, fun hn c nc => ?_⟩
  · have e : xs = [] := by
      have z : min 1 xs.length = 0 := (HT.sIx_nat xs.length 0 1).symm.trans hw.1
      exact List.length_eq_zero_iff.mp (by omega)
    exact h t H (Same.refl H) (by rw [ht, e]; rfl)
  · refine h c _ (same_new nc) ?_
    rw [upd_same]
    unfold cutV
    rw [show HT.sIx xs.length 0 (some 1) = min 1 xs.length from HT.sIx_nat xs.length 0 1, HT.sIx_none]
    cases xs with
    | nil => rfl
    | cons x r =>
      rw [show min 1 (x :: r).length = 1 by rw [List.length_cons]; omega]
      show some (HO.tup (List.take ((x :: r).length - 1) r)) = some (HO.tup r)
      rw [List.length_cons, Nat.add_sub_cancel, List.take_length]
/-! ### defs of the text by their names -/
/-- a def as the top has left it -/
structure Df (K : PySem.W.Frag) (mg : Str → Option Value) (x : Str) (st : Stmt) (ps : List Str) : Prop where
  ex : ∃ (f : Addr) (fd : FuncData), Fun K x x st f fd ∧ Binds K fd ps [] ∧ mg x = some (.ref f)
/-- a def that keeps its promise, under its name -/
structure Cl (P : Program) (w : World) (K : PySem.W.Frag) (mg : Str → Option Value) (base : Heap) (k : Nat) (x : Str) (sp : Sp) : Prop where
  ex : ∃ (f : Addr) (fd : FuncData) (ps : List Str), FnOk P w K mg base CX0 k f fd ps sp ∧ mg x = some (.ref f) ∧ PySem.W.keepIn K (.ref f) = true ∧ Binds K fd ps []
theorem pe_cl {X : Cx} {k j : Nat} {x : Str} {sp : Sp} {p pos : Pos} {e : Expr} {es : List Expr} {t : TA} (c : Cl X.prog X.w X.K X.mg X.base k x sp) (hr : Room j X.A) (hk : k ≤ j) (hg : Gl X x) (ha : PA X (e :: es) t)
    (hdb : (x == ("__debug__" : Str)) = false := by decide) (he : starEach (e :: es) X.env = (false, eval e X.env) :: starEach es X.env := by rfl) (hpl : (backTo pos (starEach es X.env)).any (·.1) = false := by rfl) :
    PE X (.Call (.Name x p) (e :: es) [] pos) (tCall sp [] E0 t) := by
  obtain ⟨f, fd, ps, F, hm, kp, b⟩ := c.ex
  exact pe_call F (hr.mono hk) hg hm kp b .nil pass0 ha hdb he hpl
section
variable {P : Program} {w : World} {K : PySem.W.Frag} {mg : Str → Option Value} {base : Heap}
theorem Df.cl {x : Str} {st : Stmt} {N ps : List Str} {k : Nat} {sp : Sp} (D : Df K mg x st ps) (S : FnScope N ps (defScope st)) (size : ∀ vs H Q E, sp vs H Q E → vs.length = ps.length)
    (body : ∀ (f : Addr) (cdv : Value) (A : Around) (outer : List Env) (s : Shared) (H : Hp) (vs : List V) (Q : VK) (E : XK), Room k (A.deeper (envOfC x (defScope st) s.heap.objs.size f cdv)) → sp vs H Q E →
      ∃ t, PSs (cxOf CX0 P w K mg base N x (defScope st) f cdv A outer s H E).nox (defBody st) t ∧ t { nx := fun _ H' => Q .non H', rt := Q } (start N vs) H) : Cl P w K mg base (k + 1) x sp := by
  obtain ⟨f, fd, F, b, g⟩ := D.ex
  exact ⟨f, fd, ps, F.ok S size fun cdv A outer s H vs Q E hr h => body f cdv A outer s H vs Q E hr h, g, F.kp, b⟩
/-! ### the defs of basics -/
def spInteger : Sp := fun vs H Q _ => ∃ i : Int, vs = [.int i] ∧ Q (.bl true) H
theorem cl_integer (D : Df K mg "is_integer" sInteger ["value"]) (B : Bt mg) : Cl P w K mg base 1 "is_integer" spInteger := by
  refine D.cl scInteger (fun vs H Q E h => ?_) (fun f cdv A outer s H vs Q E hr h => ?_)
  · obtain ⟨i, rfl, _⟩ := h
    rfl
  · obtain ⟨i, rfl, q⟩ := h
    refine ⟨_, pss_one (ps_ret (pe_and (pe_callB cr_isB (by rfl) B.isi boot_isinstance (pa_cons (pv 0) (pa_cons (pe_cls "int" (by rfl) B.int (by decide +kernel)) pa_nil)))
      (pe_one (pe_not (pe_callB cr_isB (by rfl) B.isi boot_isinstance (pa_cons (pv 0) (pa_cons (pe_cls "bool" (by rfl) B.bool (by decide +kernel)) pa_nil))))))), ?_⟩
    refine ⟨_, rfl, _, _, "int", true, rfl, .base (.int i), by decide +kernel, _, rfl, iteT ?_⟩
    exact ⟨_, rfl, _, _, "int", false, rfl, .base (.int i), by decide +kernel, _, rfl, q⟩
def spCount : Sp := fun vs H Q _ => ∃ i : Int, vs = [.int i] ∧ 0 ≤ i ∧ Q (.bl true) H
theorem cl_count (D : Df K mg "is_count" sCount ["value"]) (I : Cl P w K mg base 1 "is_integer" spInteger) (B : Bt mg) : Cl P w K mg base 2 "is_count" spCount := by
  refine D.cl scCount (fun vs H Q E h => ?_) (fun f cdv A outer s H vs Q E hr h => ?_)
  · obtain ⟨i, rfl, _⟩ := h
    rfl
  · obtain ⟨i, rfl, h0, q⟩ := h
    refine ⟨_, pss_one (ps_ret (pe_and (pe_cl I hr (by decide) (by rfl) (pa_cons (pv 0) pa_nil)) (pe_one (pe_cmpR op_ge (pv 0) pe_int (nomark _))))), ?_⟩
    refine ⟨_, rfl, i, rfl, _, rfl, iteT ?_⟩
    refine ⟨_, rfl, _, _, rfl, rfl, ?_⟩
    show Q (.bl (decide ((0 : Int) ≤ i))) H
    rw [decide_eq_true h0]
    exact q
def spIsList : Sp := fun vs H Q _ => ∃ (l : Addr) (xs : List V), vs = [.ref l] ∧ H l = some (.lst xs) ∧ ∀ H', Same H H' → Q (.bl true) H'
theorem cl_isList (D : Df K mg "is_list" sIsList ["value"]) (B : Bt mg) : Cl P w K mg base 1 "is_list" spIsList := by
  refine D.cl scIsList (fun vs H Q E h => ?_) (fun f cdv A outer s H vs Q E hr h => ?_)
  · obtain ⟨l, xs, rfl, _⟩ := h
    rfl
  · obtain ⟨l, xs, rfl, hl, q⟩ := h
    refine ⟨_, pss_one (ps_ret (pe_callB call_isiT (by rfl) B.isi boot_isinstance (pa_cons (pv 0) (pa_cons (pe_tup (pa_cons (pe_cls "list" (by rfl) B.list (by decide +kernel)) (pa_cons (pe_cls "tuple" (by rfl) B.tuple (by decide +kernel)) pa_nil))) pa_nil)))), ?_⟩
    refine ⟨_, rfl, by show 2 ≤ sizeLine; decide, fun t nt => ?_⟩
    have s1 : Same H (upd H t (.tup [.ty "list", .ty "tuple"])) := same_new nt
    refine ⟨.ref l, t, _, .type "list", [.type "list", .type "tuple"], true, rfl, upd_same, .cons (.ty _) (.cons (.ty _) .nil), .base (.lst (s1 _ _ hl)), kitAny_cons (b := true) (kit_ty (by decide +kernel)) (fun z => nomatch z) (fun _ => rfl), q _ s1⟩
/-! ### a test that all of a list of ints are INTEGERS -/
/-- what [is_integer(one) for one in value] leaves -/
theorem trues (n : Nat) : (List.replicate n true).all id = true := by
  induction n with
  | zero => rfl
  | succ n ih => rw [List.replicate_succ, List.all_cons, ih]; rfl
theorem trues_succ (n : Nat) : (List.replicate (n + 1) true).map V.bl = (List.replicate n true).map V.bl ++ [V.bl true] := by
  rw [List.replicate_succ', List.map_append]
  rfl
/-! ### is_power_pair -/
def spPair : Sp := fun vs H Q _ => ∃ (q : Addr) (st pw : Int), vs = [.ref q] ∧ H q = some (.tup [.int st, .int pw]) ∧ (1 ≤ st ∧ st ≤ 60 ∧ pw ≠ 0 ∧ -60 ≤ pw ∧ pw ≤ 60) ∧ ∀ H', Same H H' → Q (.bl true) H'
theorem cl_pair (D : Df K mg "is_power_pair" sPair ["value"]) (I : Cl P w K mg base 1 "is_integer" spInteger) (B : Bt mg) : Cl P w K mg base 2 "is_power_pair" spPair := by
  refine D.cl scPair (fun vs H Q E h => ?_) (fun f cdv A outer s H vs Q E hr h => ?_)
  · obtain ⟨q, st, pw, rfl, _⟩ := h
    rfl
  · obtain ⟨q, st, pw, rfl, hq, ⟨b1, b2, b3, b4, b5⟩, k⟩ := h
    obtain ⟨tS, gS⟩ := B.step
    obtain ⟨tP, gP⟩ := B.power
    refine ⟨_, pss_cons (ps_if (PW.pt (pw_or (pt_not (pt_val (pe_callB cr_isB (by rfl) B.isi boot_isinstance (pa_cons (pv 0) (pa_cons (pe_cls "tuple" (by rfl) B.tuple (by decide +kernel)) pa_nil)))))
        (pw_or (pt_cmpR op_ne (pe_callB call_len_seq (by rfl) B.len PySem.boot_len (pa_cons (pv 0) pa_nil)) pe_int (nomark _))
        (pw_or1 (pt_not (pt_val (pe_callB (cr_all rfl) (by rfl) B.all boot_all (pa_cons
          (pe_lc (own := [("one", 1)]) (g := gName 1) (tt := tYes) (by rfl) scPair.nd (pi_tup (pv 0)) (blkOk_by (own := [("one", 1)]) (N := ["value", "one"]) (sc := defScope sPair) (by decide +kernel))
            (fun _ _ _ _ _ => pg_name (i := 1) scPair.nd rfl (.inl rfl)) (fun _ _ _ _ _ => pts_nil) (fun _ _ _ _ _ => pe_cl I (hr.mono (j := 1) (by decide)) (by decide) (by rfl) (pa_cons (pv 1) pa_nil))) pa_nil)))))))) (pss_one (ps_ret pe_bl)) pss_nil)
      (pss_one (ps_ret (pe_and (pe_chain op_le op_le pe_int (pe_ix ix_tup (pv 0) pe_int (fun _ _ => rfl)) (pe_glob (v := .int 60) (by rfl) gS ⟨_, rfl⟩))
        (pe_and (pe_cmpR op_ne (pe_ix ix_tup (pv 0) pe_int (fun _ _ => rfl)) pe_int (nomark _))
        (pe_one (pe_cmpR op_le (pe_callB call_abs (by rfl) B.abs boot_abs (pa_cons (pe_ix ix_tup (pv 0) pe_int (fun _ _ => rfl)) pa_nil)) (pe_glob (v := .int 60) (by rfl) gP ⟨_, rfl⟩) (nomark _))))))), ?_⟩
    refine ⟨_, rfl, _, _, "tuple", true, rfl, .base (.tup hq), by decide +kernel, _, rfl, iteF ?_⟩
    refine ⟨_, rfl, q, _, rfl, .inr (sqT hq), rfl, _, rfl, iteF ?_⟩
    refine ⟨_, rfl, q, rfl, ⟨_, sqT hq⟩, fun D nD => lc_it (walk_tup (xs := [.int st, .int pw])) (fun i H1 => Same H H1 ∧ H1 D = some (.lst ((List.replicate i true).map V.bl))) ⟨same_new nD, upd_same⟩ (fun i H1 _ z => sqT (z.1 _ _ hq)) ?_ ?_⟩
    · rintro i x H1 H2 hi ⟨s1, eD⟩ ⟨rfl, hx⟩
      obtain ⟨n, rfl⟩ : ∃ n, x = V.int n := by
        match i, hx with
        | 0, hx => exact ⟨st, (Option.some.inj hx).symm⟩
        | 1, hx => exact ⟨pw, (Option.some.inj hx).symm⟩
      refine ⟨rfl, lcYes ⟨_, rfl, n, rfl, _, eD, okSize (by rw [List.length_map, List.length_replicate]; have : i < 2 := hi; omega), fun b o e => ?_, ?_⟩⟩
      · rw [upd_ne (ne_of_none e nD)]
        exact s1 b o e
      · rw [upd_same, trues_succ]
    · rintro H1 ⟨s1, eD⟩
      refine ⟨D, List.replicate 2 true, rfl, sqL eD, ?_⟩
      have hq1 : H1 q = some (.tup [.int st, .int pw]) := s1 _ _ hq
      refine ⟨_, rfl, iteF ?_⟩
      refine ⟨_, rfl, q, _, 0, .int st, rfl, rfl, sqT hq1, rfl, 1, st, rfl, rfl, _, rfl, ifD b1 ?_⟩
      refine ⟨st, 60, rfl, rfl, _, rfl, ifD b2 ?_⟩
      refine ⟨_, rfl, q, _, 1, .int pw, rfl, rfl, sqT hq1, rfl, rfl, _, rfl, ifND (fun z => b3 (V.int.inj z)) ?_⟩
      refine ⟨_, rfl, q, _, 1, .int pw, rfl, rfl, sqT hq1, rfl, pw, rfl, _, 60, rfl, rfl, ?_⟩
      show Q (.bl (decide ((if pw < 0 then -pw else pw) ≤ 60))) H1
      rw [decide_eq_true (by split <;> omega)]
      exact k H1 s1
/-! ### is_product_value, want_product -/
def spIsProd : Sp := fun vs H Q _ => ∃ (a : Addr) (ps : Pows), vs = [.ref a] ∧ PrAt H a ps ∧ Valid 60 ps ∧ ∀ H', Same H H' → Q (.bl true) H'
theorem cl_isProd (D : Df K mg "is_product_value" sIsProd ["value"]) (I : Cl P w K mg base 2 "is_power_pair" spPair) (B : Bt mg) : Cl P w K mg base 3 "is_product_value" spIsProd := by
  refine D.cl scIsProd (fun vs H Q E h => ?_) (fun f cdv A outer s H vs Q E hr h => ?_)
  · obtain ⟨a, ps, rfl, _⟩ := h
    rfl
  · obtain ⟨a, ps, rfl, ⟨t, ha, qs, ht, hp⟩, vp, k⟩ := h
    obtain ⟨tW, gW⟩ := B.word
    obtain ⟨tM, gM⟩ := B.steps
    refine ⟨_, pss_cons (ps_if (PW.pt (pw_or (pt_not (pt_val (pe_callB cr_isB (by rfl) B.isi boot_isinstance (pa_cons (pv 0) (pa_cons (pe_cls "tuple" (by rfl) B.tuple (by decide +kernel)) pa_nil)))))
        (pw_or (pt_cmpR op_ne (pe_callB call_len_seq (by rfl) B.len PySem.boot_len (pa_cons (pv 0) pa_nil)) pe_int (nomark _))
        (pw_or (pt_not (pt_val (pe_callB cr_isB (by rfl) B.isi boot_isinstance (pa_cons (pe_ix ix_tup (pv 0) pe_int (fun _ _ => rfl)) (pa_cons (pe_cls "str" (by rfl) B.str (by decide +kernel)) pa_nil)))))
        (pw_or1 (pt_cmpR op_ne (pe_ix ix_tup (pv 0) pe_int (fun _ _ => rfl)) (pe_glob (v := .str "product") (by rfl) gW ⟨_, rfl⟩) (nomark _))))))) (pss_one (ps_ret pe_bl)) pss_nil)
      (pss_cons (ps_set (i := 1) scIsProd.nd rfl (.inl rfl) (pe_ix ix_tup (pv 0) pe_int (fun _ _ => rfl)))
      (pss_cons (ps_if (PW.pt (pw_or (pt_not (pt_val (pe_callB cr_isB (by rfl) B.isi boot_isinstance (pa_cons (pv 1) (pa_cons (pe_cls "tuple" (by rfl) B.tuple (by decide +kernel)) pa_nil)))))
        (pw_or (pt_cmpR op_gt (pe_callB call_len_seq (by rfl) B.len PySem.boot_len (pa_cons (pv 1) pa_nil)) (pe_glob (v := .int 12) (by rfl) gM ⟨_, rfl⟩) (nomark _))
        (pw_or1 (pt_not (pt_val (pe_callB (cr_all rfl) (by rfl) B.all boot_all (pa_cons
          (pe_lc (own := [("one", 2)]) (g := gName 2) (tt := tYes) (by rfl) scIsProd.nd (pi_tup (pv 1)) (blkOk_by (own := [("one", 2)]) (N := ["value", "powers", "one", "late"]) (sc := defScope sIsProd) (by decide +kernel))
            (fun _ _ _ _ _ => pg_name (i := 2) scIsProd.nd rfl (.inl rfl)) (fun _ _ _ _ _ => pts_nil) (fun _ _ _ _ _ => pe_cl I (hr.mono (j := 2) (by decide)) (by decide) (by rfl) (pa_cons (pv 2) pa_nil))) pa_nil)))))))) (pss_one (ps_ret pe_bl)) pss_nil)
      (pss_one (ps_ret (pe_callB (cr_all rfl) (by rfl) B.all boot_all (pa_cons
          (pe_lc (own := [("one", 2), ("late", 3)]) (g := gTup K 2 (gCons (gName 2) (gCons (gName 3) gNil))) (tt := tYes) (te := tOp (rI0 fun i j => V.bl (decide (i < j))) (tOp (rIxT K) (tVar 2) (tC (.int 0))) (tOp (rIxT K) (tVar 3) (tC (.int 0)))) (by rfl) scIsProd.nd (pi_zipA (by rfl) B.zip (pa_cons (pv 1) (pa_cons (pe_slice sl_tupA (pv 1) (po_some pe_int) po_none) pa_nil)))
            (blkOk_by (own := [("one", 2), ("late", 3)]) (N := ["value", "powers", "one", "late"]) (sc := defScope sIsProd) (by decide +kernel))
            (fun _ _ _ _ _ => pg_tup rfl (pgs_cons (pg_name (i := 2) scIsProd.nd rfl (.inl rfl)) (pgs_cons (pg_name (i := 3) scIsProd.nd rfl (.inl rfl)) pgs_nil))) (fun _ _ _ _ _ => pts_nil)
            (fun _ _ _ _ _ => pe_cmpR op_lt (pe_ix ix_tup (pv 2) pe_int (fun _ _ => rfl)) (pe_ix ix_tup (pv 3) pe_int (fun _ _ => rfl)) (nomark _))) pa_nil)))))), ?_⟩
    refine ⟨_, rfl, _, _, "tuple", true, rfl, .base (.tup ha), by decide +kernel, _, rfl, iteF ?_⟩
    refine ⟨_, rfl, a, _, rfl, .inr (sqT ha), rfl, _, rfl, iteF ?_⟩
    refine ⟨_, rfl, a, _, 0, .str "product", rfl, rfl, sqT ha, rfl, _, _, "str", true, rfl, .base (.str _), by decide +kernel, _, rfl, iteF ?_⟩
    refine ⟨_, rfl, a, _, 0, .str "product", rfl, rfl, sqT ha, rfl, rfl, _, rfl, iteNS rfl ?_⟩
    refine ⟨_, rfl, a, _, 1, .ref t, rfl, rfl, sqT ha, rfl, ?_⟩
    have lq : qs.length = ps.length := paired_len hp
    refine ⟨_, rfl, _, _, "tuple", true, rfl, .base (.tup ht), by decide +kernel, _, rfl, iteF ?_⟩
    refine ⟨_, rfl, t, _, rfl, .inr (sqT ht), _, 12, rfl, rfl, _, rfl, ifDN (by rw [List.length_map]; have := vp.len; omega) ?_⟩
    refine ⟨_, rfl, t, rfl, ⟨_, sqT ht⟩, fun L nL => lc_it (walk_tup (xs := qs.map V.ref)) (fun i H1 => Same H H1 ∧ H1 L = some (.lst ((List.replicate i true).map V.bl))) ⟨same_new nL, upd_same⟩ (fun i H1 _ z => sqT (z.1 _ _ ht)) ?_ ?_⟩
    · rintro i x H1 H2 hi ⟨s1, eL⟩ ⟨rfl, hx⟩
      rw [List.getElem?_map] at hx
      obtain ⟨q, hq, rfl⟩ := Option.map_eq_some_iff.mp hx
      obtain ⟨⟨st, pw⟩, hkv, hqq⟩ := paired_at hp hq
      have bd := vp.bnd _ (List.mem_of_getElem? hkv)
      have li : i < 12 := by have := vp.len; rw [List.length_map] at hi; omega
      refine ⟨rfl, lcYes ⟨_, rfl, q, st, pw, rfl, s1 _ _ hqq, bd, fun H3 s3 => ⟨_, s3 _ _ eL, okSize (by rw [List.length_map, List.length_replicate]; omega), fun b o e => ?_, ?_⟩⟩⟩
      · rw [upd_ne (ne_of_none e nL)]
        exact s3 _ _ (s1 b o e)
      · rw [upd_same, trues_succ]
    · rintro H1 ⟨s1, eL⟩
      refine ⟨L, List.replicate (qs.map V.ref).length true, rfl, sqL eL, ?_⟩
      rw [trues]
      refine ⟨_, rfl, iteF ?_⟩
      have ht1 := s1 _ _ ht
      have hp1 := paired_imp (fun a b h => s1 _ _ h) hp
      refine ⟨_, rfl, _, rfl, 1, rfl, ?_⟩
      refine tail_of ht1 fun c H2 s2 hc => ⟨t, c, _, _, rfl, .inr ⟨sqT (s2 _ _ ht1), sqT hc, ?_⟩⟩
      have ht2 := s2 _ _ ht1
      have hp2 := paired_imp (fun a b h => s2 _ _ h) hp1
      refine fun L2 nL2 => lc_it (walk_zipT (n := ps.length - 1) (xs := qs.map V.ref) (ys := (qs.map V.ref).drop 1) (by rw [List.length_drop, List.length_map, lq]; omega)) (fun i H3 => Same H2 H3 ∧ H3 L2 = some (.lst ((List.replicate i true).map V.bl))) ⟨same_new nL2, upd_same⟩
        (fun i H3 _ z => ⟨sqT (z.1 _ _ ht2), sqT (z.1 _ _ hc)⟩) ?_ ?_
      · rintro i v H3 H4 hi ⟨s3, eL2⟩ ⟨T, x, y, rfl, nT, rfl, hx, hy⟩
        simp only at hx hy
        rw [List.getElem?_map] at hx
        rw [List.getElem?_drop, List.getElem?_map] at hy
        obtain ⟨q1, g1, rfl⟩ := Option.map_eq_some_iff.mp hx
        obtain ⟨q2, g2, rfl⟩ := Option.map_eq_some_iff.mp hy
        obtain ⟨⟨st1, pw1⟩, kv1, h1⟩ := paired_at hp2 g1
        obtain ⟨⟨st2, pw2⟩, kv2, h2⟩ := paired_at hp2 g2
        obtain ⟨li1, e1⟩ := List.getElem?_eq_some_iff.mp kv1
        obtain ⟨li2, e2⟩ := List.getElem?_eq_some_iff.mp kv2
        have lt : st1 < st2 := by
          have := List.pairwise_iff_getElem.mp vp.srt i (1 + i) li1 li2 (by omega)
          rw [e1, e2] at this
          exact this
        have up : ∀ b o, H3 b = some o → (upd H3 T (.tup [.ref q1, .ref q2])) b = some o := same_new nT
        refine ⟨T, [.ref q1, .ref q2], rfl, sqT upd_same, rfl, _, [.ref q2], rfl, _, [], rfl, rfl, rfl, lcYes ?_⟩
        refine ⟨_, rfl, q1, _, 0, .int st1, rfl, rfl, sqT (up _ _ (s3 _ _ h1)), rfl, _, rfl, q2, _, 0, .int st2, rfl, rfl, sqT (up _ _ (s3 _ _ h2)), rfl, st1, st2, rfl, rfl, _, up _ _ eL2, okSize (by rw [List.length_map, List.length_replicate]; have := vp.len; omega), fun b o e => ?_, ?_⟩
        · rw [upd_ne (ne_of_none e nL2)]
          exact up _ _ (s3 b o e)
        · rw [upd_same, trues_succ]
          show some (HO.lst (_ ++ [V.bl (decide (st1 < st2))])) = _
          rw [decide_eq_true lt]
      · rintro H3 ⟨s3, eL2⟩
        refine ⟨L2, List.replicate (ps.length - 1) true, rfl, sqL eL2, ?_⟩
        rw [trues]
        exact k H3 (s1.trans (s2.trans s3))
def spWant : Sp := fun vs H Q _ => ∃ (a : Addr) (ps : Pows), vs = [.ref a] ∧ PrAt H a ps ∧ Valid 60 ps ∧ ∀ H', Same H H' → Q (.ref a) H'
theorem cl_want (D : Df K mg "want_product" sWant ["value"]) (I : Cl P w K mg base 3 "is_product_value" spIsProd) : Cl P w K mg base 4 "want_product" spWant := by
  refine D.cl scWant (fun vs H Q E h => ?_) (fun f cdv A outer s H vs Q E hr h => ?_)
  · obtain ⟨a, ps, rfl, _⟩ := h
    rfl
  · obtain ⟨a, ps, rfl, ha, vp, k⟩ := h
    refine ⟨_, pss_cons (ps_if (pt_not (pt_val (pe_cl I hr (by decide) (by rfl) (pa_cons (pv 0) pa_nil)))) (pss_one ps_never) pss_nil) (pss_one (ps_ret (pv 0))), ?_⟩
    exact ⟨_, rfl, a, ps, rfl, ha, vp, fun H1 s1 => ⟨_, rfl, iteF ⟨_, rfl, k H1 s1⟩⟩⟩
end
end K19
/-! K19D: powers_of, unlike_step, parting_place. -/
namespace K19
open PySem PySem.Spec PyProof.Rows L2 RZ
/-! ### a list of ints as data -/
theorem dpInts {K : PySem.W.Frag} {H : Hp} : ∀ ns : List Int, DpAll K H (ns.map V.int) (ns.map PyData.int)
  | [] => .nil
  | n :: ns => .cons (.int n) (dpInts ns)
theorem lay_ints : ∀ ns : List Int, PyData.canLayAll0 (ns.map PyData.int) = true
  | [] => by simp [PyData.canLayAll0]
  | n :: ns => by
    rw [List.map_cons, PyData.canLayAll0, lay_ints ns]
    simp [PyData.canLay0]
theorem depth_ints : ∀ ns : List Int, PyData.depthAll (ns.map PyData.int) = 0
  | [] => by simp [PyData.depthAll]
  | n :: ns => by
    rw [List.map_cons, PyData.depthAll, depth_ints ns]
    simp [PyData.depth]
theorem shaped_ints (ns : List Int) : SeqAt.shaped (.list (ns.map PyData.int)) = true := by
  unfold SeqAt.shaped
  rw [PyData.canLay0, PyData.depth, lay_ints, depth_ints]
  rfl
theorem eqvAll_ints : ∀ ns ms : List Int, PyData.eqvAll (ns.map PyData.int) (ms.map PyData.int) = decide (ns = ms)
  | [], [] => by simp [PyData.eqvAll]
  | [], m :: ms => by simp [PyData.eqvAll]
  | n :: ns, [] => by simp [PyData.eqvAll]
  | n :: ns, m :: ms => by
    rw [List.map_cons, List.map_cons, PyData.eqvAll, eqvAll_ints ns ms, PyData.eqv]
    by_cases e : n = m
    · subst e
      simp
    · have : (n == m) = false := by simpa using e
      rw [this]
      simp [e]
theorem eqv_ints (ns ms : List Int) : PyData.eqv (.list (ns.map PyData.int)) (.list (ms.map PyData.int)) = decide (ns = ms) := by
  rw [PyData.eqv]
  exact eqvAll_ints ns ms
/-! ### the dict of a product's powers -/
def kvO (ps : Pows) : List (Key × V) := ps.map fun x => (Sum.inl x.1, V.int x.2)
theorem kvO_len (ps : Pows) : (kvO ps).length = ps.length := List.length_map _
theorem kvO_val : ∀ (ps : Pows) (s : Int), (valV (kvO ps) (Sum.inl s : Key)).getD (.int 0) = .int (lk ps s)
  | [], _ => rfl
  | x :: r, s => by
    show (valV ((Sum.inl x.1, V.int x.2) :: kvO r) (Sum.inl s : Key)).getD (.int 0) = _
    by_cases e : x.1 = s
    · rw [valV_pos (by rw [e]), lk_cons_eq e]
      rfl
    · rw [valV_neg (fun z => e (Sum.inl.inj z)), lk_cons_ne e]
      exact kvO_val r s
theorem valV_none : ∀ {kvs : List (Key × V)} {k : Key}, (∀ p ∈ kvs, p.1 ≠ k) → valV kvs k = none
  | [], _, _ => rfl
  | p :: r, k, h => by
    rw [valV_neg (h p List.mem_cons_self)]
    exact valV_none fun q hq => h q (List.mem_cons_of_mem _ hq)
theorem merge_new : ∀ {more kvs : List (Key × V)}, ((kvs ++ more).map (·.1)).Nodup → mergeK kvs more = kvs ++ more
  | [], kvs, _ => by
    rw [List.append_nil]
    rfl
  | p :: r, kvs, h => by
    show mergeK (putK kvs p.1 p.2) r = _
    have h2 : (kvs.map (·.1) ++ p.1 :: r.map (·.1)).Nodup := by
      rw [List.map_append, List.map_cons] at h
      exact h
    have fresh : valV kvs p.1 = none := valV_none fun q hq e => by
      have := (List.nodup_append.mp h2).2.2 q.1 (List.mem_map_of_mem hq) p.1 List.mem_cons_self
      exact this e
    rw [putK_new p.2 fresh]
    have e : kvs ++ [(p.1, p.2)] ++ r = kvs ++ p :: r := by
      rw [List.append_assoc]
      rfl
    rw [merge_new (by rw [e]; exact h), e]
theorem kvO_merge {m : Int} {ps : Pows} (v : Valid m ps) : mergeK [] (kvO ps) = kvO ps := by
  refine merge_new (kvs := []) ?_
  show ((ps.map _).map _).Nodup
  rw [List.map_map]
  refine List.pairwise_map.mpr (v.srt.imp fun {a b} l => ?_)
  show (Sum.inl a.1 : Key) ≠ Sum.inl b.1
  intro z
  have := Sum.inl.inj z
  omega
theorem kvO_keys (ps : Pows) : (kvO ps).map (fun kv => kV kv.1) = (ps.map (·.1)).map V.int := by
  unfold kvO
  rw [List.map_map, List.map_map]
  rfl
section
variable {P : Program} {w : World} {K : PySem.W.Frag} {mg : Str → Option Value} {base : Heap}
def spPowersOf : Sp := fun vs H Q _ => ∃ (a : Addr) (ps : Pows), vs = [.ref a] ∧ PrAt H a ps ∧ Valid 60 ps ∧ ∀ H' d, Same H H' → H d = none → H' d = some (.dK (kvO ps)) → Q (.ref d) H'
theorem cl_powersOf (D : Df K mg "powers_of" sPowersOf ["product"]) (B : Bt mg) : Cl P w K mg base 1 "powers_of" spPowersOf := by
  refine D.cl scPowersOf (fun vs H Q E h => ?_) (fun f cdv A outer s H vs Q E hr h => ?_)
  · obtain ⟨a, ps, rfl, _⟩ := h
    rfl
  · obtain ⟨a, ps, rfl, ⟨t, ha, qs, ht, hp⟩, vp, k⟩ := h
    refine ⟨_, pss_one (ps_ret (pe_callTy (call_dictP rfl) (by rfl) B.dict boot_dict (pa_cons
      (pe_lc (own := [("step", 1), ("power", 2)]) (g := gTup K 2 (gCons (gName 1) (gCons (gName 2) gNil))) (tt := tYes) (te := tTup (tCons (tVar 1) (tCons (tVar 2) tNil))) (by rfl) scPowersOf.nd (pi_tup (pe_ix ix_tup (pv 0) pe_int (fun _ _ => rfl)))
        (blkOk_by (own := [("step", 1), ("power", 2)]) (N := ["product", "step", "power"]) (sc := defScope sPowersOf) (by decide +kernel))
        (fun _ _ _ _ _ => pg_tup rfl (pgs_cons (pg_name (i := 1) scPowersOf.nd rfl (.inl rfl)) (pgs_cons (pg_name (i := 2) scPowersOf.nd rfl (.inl rfl)) pgs_nil))) (fun _ _ _ _ _ => pts_nil)
        (fun _ _ _ _ _ => pe_tup (pa_cons (pv 1) (pa_cons (pv 2) pa_nil)))) pa_nil))), ?_⟩
    have lq : qs.length = ps.length := paired_len hp
    refine ⟨_, rfl, a, _, 1, .ref t, rfl, rfl, sqT ha, rfl, t, rfl, ⟨_, sqT ht⟩, fun L nL => lc_it (walk_tup (xs := qs.map V.ref)) (fun i H1 => Same H H1 ∧ ∃ rs : List Addr, H1 L = some (.lst (rs.map V.ref)) ∧ Paired (fun (r : Addr) (kv : Int × Int) => H1 r = some (.tup [.int kv.1, .int kv.2])) rs (ps.take i))
      ⟨same_new nL, [], upd_same, .nil⟩ (fun i H1 _ z => sqT (z.1 _ _ ht)) ?_ ?_⟩
    · rintro i x H1 H2 hi ⟨s1, rs, eL, hrs⟩ ⟨rfl, hx⟩
      rw [List.getElem?_map] at hx
      obtain ⟨q, hq, rfl⟩ := Option.map_eq_some_iff.mp hx
      obtain ⟨⟨st, pw⟩, hkv, hqq⟩ := paired_at hp hq
      refine ⟨q, _, rfl, sqT (s1 _ _ hqq), rfl, _, _, rfl, _, _, rfl, rfl, rfl, lcYes ?_⟩
      refine ⟨_, rfl, _, rfl, by show 2 ≤ sizeLine; decide, fun p np => ?_⟩
      have up : Same H2 (upd H2 p (.tup [.int st, .int pw])) := same_new np
      have nLp : L ≠ p := ne_of_none eL np
      refine ⟨_, up _ _ eL, okSize ?_, fun b o e => ?_, rs ++ [p], ?_, ?_⟩
      · rw [List.length_map, paired_len hrs, List.length_take]
        have := vp.len
        omega
      · rw [upd_ne (ne_of_none e nL)]
        exact up _ _ (s1 b o e)
      · rw [upd_same, List.map_append]
        rfl
      · rw [List.take_add_one, hkv]
        refine paired_app ?_ (paired_imp (fun r kv h => ?_) hrs)
        · rw [upd_ne nLp.symm, upd_same]
        · rw [upd_ne (ne_of (up _ _ h) (up _ _ eL) (by intro z; cases z))]
          exact up _ _ h
    · rintro H1 ⟨s1, rs, eL, hrs⟩
      rw [List.length_map, lq, List.take_length] at hrs
      refine ⟨L, rs, kvO ps, rfl, sqL eL, ?_, fun d nd => ?_⟩
      · unfold kvO
        have go : ∀ {l : List Addr} {m : Pows}, Paired (fun (r : Addr) (kv : Int × Int) => H1 r = some (.tup [.int kv.1, .int kv.2])) l m → Paired (fun p (kv : Key × V) => SqT K H1 p [kV kv.1, kv.2]) l (m.map fun x => (Sum.inl x.1, V.int x.2)) := by
          intro l m h
          induction h with
          | nil => exact .nil
          | cons a _ ih => exact .cons (sqT a) ih
        exact go hrs
      · rw [kvO_merge vp]
        exact k _ d (s1.trans (same_new nd)) (s1.free nd) upd_same
/-- what a least step is as a value -/
def oV : Option Int → V
  | none => .non
  | some d => .int d
def spUnlike : Sp := fun vs H Q _ => ∃ (a b : Addr) (ps qs : Pows), vs = [.ref a, .ref b] ∧ PrAt H a ps ∧ PrAt H b qs ∧ Valid 60 ps ∧ Valid 60 qs ∧ ∀ H' r, Same H H' → IsDue (lk ps) (lk qs) r → Q (oV r) H'
theorem cl_unlike (D : Df K mg "unlike_step" sUnlike ["product", "other"]) (O : Cl P w K mg base 1 "powers_of" spPowersOf) (B : Bt mg) : Cl P w K mg base 2 "unlike_step" spUnlike := by
  refine D.cl scUnlike (fun vs H Q E h => ?_) (fun f cdv A outer s H vs Q E hr h => ?_)
  · obtain ⟨a, b, ps, qs, rfl, _⟩ := h
    rfl
  · obtain ⟨a, b, ps, qs, rfl, ha, hb, vp, vq, k⟩ := h
    have hu := hu_of hr
    refine ⟨_, pss_cons (ps_asg (pe_tup (pa_cons (pe_cl O hr (by decide) (by rfl) (pa_cons (pv 0) pa_nil)) (pa_cons (pe_cl O hr (by decide) (by rfl) (pa_cons (pv 1) pa_nil)) pa_nil)))
        (pg_tup rfl (pgs_cons (pg_name (i := 2) scUnlike.nd rfl (.inr rfl)) (pgs_cons (pg_name (i := 3) scUnlike.nd rfl (.inr rfl)) pgs_nil))))
      (pss_cons (ps_setLc (i := 4) (own := [("step", 5)]) (g := gName 5) (tt := tTest (tOp rNe (tDGet2 (tVar 2) (tVar 5) (tC (.int 0))) (tDGet2 (tVar 3) (tVar 5) (tC (.int 0))))) (te := tVar 5) rfl scUnlike.nd rfl rfl (sw_true rfl rfl rfl (by decide +kernel))
        (pi_list (pe_callB cr_sorted (by rfl) B.sorted boot_sorted (pa_cons (pe_op op_cat (pe_callTy (call_listD rfl) (by rfl) B.list boot_list (pa_cons (pv 2) pa_nil)) (pe_callTy (call_listD rfl) (by rfl) B.list boot_list (pa_cons (pv 3) pa_nil))) pa_nil)))
        (blkOk_by (own := [("step", 5)]) (N := ["product", "other", "one", "late", "some", "step"]) (sc := defScope sUnlike) (by decide +kernel)) (fun _ _ _ _ _ => pg_name (i := 5) scUnlike.nd rfl (.inl rfl))
        (fun _ _ _ _ _ => pts_one (pt_cmpR op_ne (pe_dget2 hu (pv 2) (pv 5) pe_int ⟨rfl, rfl, rfl, rfl⟩) (pe_dget2 hu (pv 3) (pv 5) pe_int ⟨rfl, rfl, rfl, rfl⟩) (nomark _))) (fun _ _ _ _ _ => pv 5))
      (pss_one (ps_ret (pe_ifExp (pt_cmpR (op_neD hr.units) (pv 4) (pe_lst pa_nil) (nomark _)) (pe_ix ix_list (pv 4) pe_int (fun _ _ => rfl)) pe_non)))), ?_⟩
    refine ⟨_, rfl, a, ps, rfl, ha, vp, fun H1 d1 s1 n1 f1 => ⟨_, rfl, b, qs, rfl, hb.same s1, vq, fun H2 d2 s2 n2 f2 => ⟨by show 2 ≤ sizeLine; decide, fun t nt => ?_⟩⟩⟩
    have s3 : Same H2 (upd H2 t (.tup [.ref d1, .ref d2])) := same_new nt
    refine ⟨t, [.ref d1, .ref d2], rfl, sqT upd_same, rfl, _, _, rfl, _, _, rfl, rfl, ?_⟩
    have s03 := s1.trans (s2.trans s3)
    have e1 := s3 _ _ (s2 _ _ f1)
    have e2 := s3 _ _ f2
    generalize upd H2 t (.tup [.ref d1, .ref d2]) = H3 at s03 e1 e2
    refine ⟨_, rfl, d1, _, rfl, .inl e1, fun l1 n1 => ?_⟩
    have u1 : Same H3 (upd H3 l1 (.lst ((kvO ps).map fun kv => kV kv.1))) := same_new n1
    refine ⟨_, rfl, d2, _, rfl, .inl (u1 _ _ e2), fun l2 n2 => ?_⟩
    have u2 : Same (upd H3 l1 (.lst ((kvO ps).map fun kv => kV kv.1))) (upd (upd H3 l1 (.lst ((kvO ps).map fun kv => kV kv.1))) l2 (.lst ((kvO qs).map fun kv => kV kv.1))) := same_new n2
    refine ⟨l1, l2, _, _, rfl, rfl, u2 _ _ upd_same, upd_same, Nat.le_of_lt (okSize ?_), fun l3 n3 => ?_⟩
    · rw [List.length_map, List.length_map, kvO_len, kvO_len]
      have := vp.len
      have := vq.len
      omega
    have u3 : Same (upd (upd H3 l1 (.lst ((kvO ps).map fun kv => kV kv.1))) l2 (.lst ((kvO qs).map fun kv => kV kv.1))) (upd (upd (upd H3 l1 (.lst ((kvO ps).map fun kv => kV kv.1))) l2 (.lst ((kvO qs).map fun kv => kV kv.1))) l3 (.lst (((kvO ps).map fun kv => kV kv.1) ++ ((kvO qs).map fun kv => kV kv.1)))) := same_new n3
    refine ⟨l3, ps.map (·.1) ++ qs.map (·.1), rfl, sqL ?_, ?_, fun ks l4 perm sorted n4 => ?_⟩
    · rw [upd_same, kvO_keys, kvO_keys, ← List.map_append]
    · rw [List.length_append, List.length_map, List.length_map]
      have := vp.len
      have := vq.len
      omega
    have u4 : Same (upd (upd (upd H3 l1 (.lst ((kvO ps).map fun kv => kV kv.1))) l2 (.lst ((kvO qs).map fun kv => kV kv.1))) l3 (.lst (((kvO ps).map fun kv => kV kv.1) ++ ((kvO qs).map fun kv => kV kv.1)))) (upd (upd (upd (upd H3 l1 (.lst ((kvO ps).map fun kv => kV kv.1))) l2 (.lst ((kvO qs).map fun kv => kV kv.1))) l3 (.lst (((kvO ps).map fun kv => kV kv.1) ++ ((kvO qs).map fun kv => kV kv.1)))) l4 (.lst (ks.map V.int))) := same_new n4
    have s34 := u1.trans (u2.trans (u3.trans u4))
    generalize hH4 : upd (upd (upd (upd H3 l1 (.lst ((kvO ps).map fun kv => kV kv.1))) l2 (.lst ((kvO qs).map fun kv => kV kv.1))) l3 (.lst (((kvO ps).map fun kv => kV kv.1) ++ ((kvO qs).map fun kv => kV kv.1)))) l4 (.lst (ks.map V.int)) = H4 at s34 ⊢
    have e4 : H4 l4 = some (.lst (ks.map V.int)) := by rw [← hH4, upd_same]
    have few : ks.length ≤ 24 := by
      rw [perm.length_eq, List.length_append, List.length_map, List.length_map]
      have := vp.len
      have := vq.len
      omega
    refine ⟨l4, rfl, ⟨_, sqL e4⟩, fun L nL => lc_it (walk_list (xs := ks.map V.int)) (fun i H5 => Same H4 H5 ∧ H5 L = some (.lst (((ks.take i).filter fun s => decide (lk ps s ≠ lk qs s)).map V.int))) ⟨same_new nL, upd_same⟩ (fun i H5 _ z => sqL (z.1 _ _ e4)) ?_ ?_⟩
    · rintro i x H5 H6 hi ⟨s5, eL⟩ ⟨rfl, hx⟩
      rw [List.getElem?_map] at hx
      obtain ⟨n, hn, rfl⟩ := Option.map_eq_some_iff.mp hx
      have f1 := s5 _ _ (s34 _ _ e1)
      have f2 := s5 _ _ (s34 _ _ e2)
      refine ⟨rfl, _, rfl, d1, rfl, .inl ⟨_, .inl f1⟩, _, rfl, _, DGet.k (k := Sum.inl n) f1, _, rfl, d2, rfl, .inl ⟨_, .inl f2⟩, _, rfl, _, DGet.k (k := Sum.inl n) f2, ?_⟩
      rw [kvO_val, kvO_val]
      refine ⟨rfl, _, rfl, ?_⟩
      have tk : ks.take (i + 1) = ks.take i ++ [n] := by
        rw [List.take_add_one, hn]
        rfl
      by_cases e : lk ps n = lk qs n
      · rw [e]
        refine iteNS rfl ⟨s5, ?_⟩
        rw [eL, tk, List.filter_append]
        simp [e]
      · refine ifND (fun z => e (V.int.inj z)) ⟨_, rfl, _, eL, okSize ?_, fun b o q => ?_, ?_⟩
        · rw [List.length_map]
          have := List.length_filter_le (fun s => decide (lk ps s ≠ lk qs s)) (ks.take i)
          rw [List.length_take] at this
          omega
        · rw [upd_ne (ne_of_none q nL)]
          exact s5 b o q
        · rw [upd_same, tk, List.filter_append]
          simp [e]
    · rintro H5 ⟨s5, eL⟩
      rw [List.length_map, List.take_length] at eL
      have due := due_of_filter sorted (ps := ps) (qs := qs) fun s => by
        rw [perm.mem_iff, List.mem_append, List.mem_map, List.mem_map]
      generalize hF : ks.filter (fun s => decide (lk ps s ≠ lk qs s)) = F at eL due
      refine ⟨_, rfl, by show 0 ≤ sizeLine; exact Nat.zero_le _, fun z nz => ?_⟩
      have s6 : Same H5 (upd H5 z (.lst [])) := same_new nz
      refine ⟨.list (F.map PyData.int), .list (([] : List Int).map PyData.int), .lst (sqL (s6 _ _ eL)) (dpInts F), .lst (sqL upd_same) (dpInts []), shaped_ints F, shaped_ints [], _, rfl, ?_⟩
      rw [eqv_ints]
      have s7 := s03.trans (s34.trans (s5.trans s6))
      cases F with
      | nil => exact iteNS rfl (k _ none s7 due)
      | cons d r => exact ifND (by simp) ⟨_, rfl, L, _, 0, .int d, rfl, rfl, sqL (s6 _ _ eL), atI_nat (j := 0) rfl, k _ (some d) s7 due⟩
theorem fn_parting {f : Addr} {fd : FuncData} (F : Fun K "parting_place" "parting_place" sParting f fd) (U : Cl P w K mg base 2 "unlike_step" spUnlike) (W : Cl P w K mg base 4 "want_product" spWant) :
    FnOk P w K mg base CX0 5 f fd ["product", "other"] spUnlike := by
  refine F.ok scParting (fun vs H Q E h => ?_) (fun cdv A outer s H vs Q E hr h => ?_)
  · obtain ⟨a, b, ps, qs, rfl, _⟩ := h
    rfl
  · obtain ⟨a, b, ps, qs, rfl, ha, hb, vp, vq, k⟩ := h
    refine ⟨_, pss_one (ps_ret (pe_cl U hr (by decide) (by rfl) (pa_cons (pe_cl W hr (by decide) (by rfl) (pa_cons (pv 0) pa_nil)) (pa_cons (pe_cl W hr (by decide) (by rfl) (pa_cons (pv 1) pa_nil)) pa_nil)))), ?_⟩
    exact ⟨_, rfl, a, ps, rfl, ha, vp, fun H1 s1 => ⟨_, rfl, b, qs, rfl, hb.same s1, vq, fun H2 s2 => ⟨a, b, ps, qs, rfl, ha.same (s1.trans s2), hb.same (s1.trans s2), vp, vq, fun H3 r s3 due => k H3 r (s1.trans (s2.trans s3)) due⟩⟩⟩
theorem cl_parting (D : Df K mg "parting_place" sParting ["product", "other"]) (U : Cl P w K mg base 2 "unlike_step" spUnlike) (W : Cl P w K mg base 4 "want_product" spWant) : Cl P w K mg base 5 "parting_place" spUnlike := by
  obtain ⟨f, fd, F, b, g⟩ := D.ex
  exact ⟨f, fd, _, fn_parting F U W, g, F.kp, b⟩
/-! ### .. called by its names, the other one first -/
def swapK {α : Type} : List α → List α → List α
  | [], [o, p] => [p, o]
  | _, _ => []
theorem swapK_two {α : Type} {n : Nat} : ∀ {us ws : List α}, (swapK us ws).length = n + 2 → ∃ o p, us = [] ∧ ws = [o, p]
  | [], [o, p], _ => ⟨o, p, rfl, rfl⟩
  | [], [], h => by simp [swapK] at h
  | [], [_], h => by simp [swapK] at h
  | [], _ :: _ :: _ :: _, h => by simp [swapK] at h
  | _ :: _, _, h => by simp [swapK] at h
structure ClK (P : Program) (w : World) (K : PySem.W.Frag) (mg : Str → Option Value) (base : Heap) (k : Nat) (x : Str) (ks : List Str) (sp : Sp) : Prop where
  ex : ∃ (f : Addr) (fd : FuncData) (ps : List Str), FnOk P w K mg base CX0 k f fd ps sp ∧ mg x = some (.ref f) ∧ PySem.W.keepIn K (.ref f) = true ∧ KBinds K fd ps ks swapK swapK
theorem clk_parting (D : Df K mg "parting_place" sParting ["product", "other"]) (U : Cl P w K mg base 2 "unlike_step" spUnlike) (W : Cl P w K mg base 4 "want_product" spWant) : ClK P w K mg base 5 "parting_place" ["other", "product"] spUnlike := by
  obtain ⟨f, fd, F, b, g⟩ := D.ex
  have kb : KBinds K fd ["product", "other"] ["other", "product"] swapK swapK := by
    refine ⟨fun s us ws _ hl => ?_, fun {vs us zs ws} r1 r2 => ?_⟩
    · obtain ⟨o, p, rfl, rfl⟩ := swapK_two (n := 0) hl
      obtain ⟨oc, od, kV, doc, pm, an, cdv, ct, osl, rfl, lk, hcd⟩ := F.ex
      exact .of_eq rfl
    · cases r1 with
      | cons _ _ => exact .nil
      | nil => cases r2 with
        | nil => exact .nil
        | cons a r2 => cases r2 with
          | nil => exact .nil
          | cons b r2 => cases r2 with
            | nil => exact .cons b (.cons a .nil)
            | cons _ _ => exact .nil
  exact ⟨f, fd, _, fn_parting F U W, g, F.kp, kb⟩
theorem pe_clK {X : Cx} {k j : Nat} {x : Str} {ks : List Str} {sp : Sp} {p pos : Pos} {kws : List Keyword} {tk : TA} (c : ClK X.prog X.w X.K X.mg X.base k x ks sp) (hr : Room j X.A) (hk : k ≤ j) (hg : Gl X x) (hkw : PK X kws tk)
    (hall : (backToKw pos (keywordEach kws X.env)).all (·.1.isSome) = true := by rfl) (hks : (backToKw pos (keywordEach kws X.env)).filterMap (·.1) = ks := by rfl) (hdb : (x == ("__debug__" : Str)) = false := by decide)
    (hpl : ((backTo pos (starEach [] X.env)).any (·.1) || (backToKw pos (keywordEach kws X.env)).any (·.1.isNone)) = false := by rfl) : PE X (.Call (.Name x p) [] kws pos) (tCallK sp swapK E0 tNil tk) := by
  obtain ⟨f, fd, ps, F, hm, kp, b⟩ := c.ex
  exact pe_callK0 F (hr.mono hk) hg hm kp b hkw hall hks hdb hpl
end
end K19
/-! K19E: the defs of series. -/
namespace K19
open PySem PySem.Spec PyProof.Rows L2 RZ
abbrev sWantRow : Stmt := topS 26
abbrev sWantPlaces : Stmt := topS 27
abbrev sWantDigits : Stmt := topS 28
abbrev sStepSums : Stmt := topS 29
abbrev sNumbers : Stmt := topS 30
abbrev sProductRow : Stmt := topS 31
abbrev sFirst : Stmt := topS 32
theorem scWantRow : FnScope ["value", "one"] ["value"] (defScope sWantRow) := ⟨rfl, rfl, rfl, by decide +kernel, rfl, by decide +kernel, by decide +kernel⟩
theorem scWantPlaces : FnScope ["value", "most"] ["value", "most"] (defScope sWantPlaces) := ⟨rfl, rfl, rfl, by decide +kernel, rfl, by decide +kernel, by decide +kernel⟩
theorem scWantDigits : FnScope ["row", "number"] ["row"] (defScope sWantDigits) := ⟨rfl, rfl, rfl, by decide +kernel, rfl, by decide +kernel, by decide +kernel⟩
theorem scStepSums : FnScope ["product", "many", "found", "factors", "powers", "step", "place", "factor"] ["product", "many"] (defScope sStepSums) := ⟨rfl, rfl, rfl, by decide +kernel, rfl, by decide +kernel, by decide +kernel⟩
theorem scNumbers : FnScope ["product", "many", "sums", "found", "place", "whole", "near"] ["product", "many"] (defScope sNumbers) := ⟨rfl, rfl, rfl, by decide +kernel, rfl, by decide +kernel, by decide +kernel⟩
theorem scProductRow : FnScope ["product", "many"] ["product", "many"] (defScope sProductRow) := ⟨rfl, rfl, rfl, by decide +kernel, rfl, by decide +kernel, by decide +kernel⟩
theorem scFirst : FnScope ["row", "other", "place", "one", "late"] ["row", "other"] (defScope sFirst) := ⟨rfl, rfl, rfl, by decide +kernel, rfl, by decide +kernel, by decide +kernel⟩
/-! ### lists of numbers by their places -/
def rg (n : Nat) (f : Nat → Int) : List V := (List.range n).map fun k => V.int (f k)
theorem rg_len (n : Nat) (f : Nat → Int) : (rg n f).length = n := by
  unfold rg
  rw [List.length_map, List.length_range]
theorem rg_at {n k : Nat} {f : Nat → Int} (h : k < n) : (rg n f)[k]? = some (.int (f k)) := by
  unfold rg
  rw [List.getElem?_map, List.getElem?_range h]
  rfl
theorem rg_congr {n : Nat} {f g : Nat → Int} (h : ∀ k, k < n → f k = g k) : rg n f = rg n g := by
  unfold rg
  exact List.map_congr_left fun k hk => congrArg V.int (h k (List.mem_range.mp hk))
theorem rg_set {n j : Nat} {f : Nat → Int} {v : Int} (h : j < n) : (rg n f).set j (.int v) = rg n fun k => if k = j then v else f k := by
  refine List.ext_getElem? fun i => ?_
  by_cases hi : i < n
  · rw [rg_at hi]
    by_cases e : i = j
    · subst e
      rw [List.getElem?_set_self (by rw [rg_len]; exact h), if_pos rfl]
    · rw [List.getElem?_set_ne (fun z => e z.symm), rg_at hi, if_neg e]
  · rw [List.getElem?_eq_none (by rw [List.length_set, rg_len]; omega), List.getElem?_eq_none (by rw [rg_len]; omega)]
theorem rep_zero (n : Nat) : (List.replicate n [V.int 0]).flatten = rg n fun _ => 0 := by
  induction n with
  | zero => rfl
  | succ n ih =>
    rw [List.replicate_succ', List.flatten_append, ih]
    unfold rg
    rw [List.range_succ, List.map_append]
    rfl
theorem ixN_nat {n j : Nat} (h : j < n) : ixN n (j : Int) = some j := by
  unfold ixN
  rw [if_pos (by omega), if_pos (by omega)]
  simp
theorem ints_at {xs : List Int} {j : Nat} {x : Int} (h : xs[j]? = some x) : (xs.map V.int)[j]? = some (.int x) := by
  rw [List.getElem?_map, h]
  rfl
theorem small_fin : ∀ (a : Fin 61) (b : Fin 64), a = 0 ∨ Builtin.Range.small (a.val : Int) (b.val : Int) (a.val : Int) = true := by decide +kernel
/-- range(s, many, s) -/
theorem rgC {s : Int} {many : Nat} (h1 : 1 ≤ s) (h2 : s ≤ 60) (hm : many ≤ 63) : RgC s (many : Int) s (cnt s many) := by
  refine ⟨by omega, by omega, ?_, ?_⟩
  · have e : s = ((s.toNat : Nat) : Int) := by omega
    rcases small_fin ⟨s.toNat, by omega⟩ ⟨many, by omega⟩ with z | z
    · have := congrArg Fin.val z
      have z2 : s.toNat = 0 := this
      omega
    · rw [e]
      exact z
  · unfold Builtin.Range.rangeSize cnt
    rw [if_pos (show s > 0 by omega)]
    by_cases h : s < (many : Int)
    · rw [if_pos h, if_pos h]
      have : 0 ≤ ((many : Int) - s - 1) / s := Int.ediv_nonneg (by omega) (by omega)
      omega
    · rw [if_neg h, if_neg h]
      rfl
/-- every multiple below many is met -/
theorem cnt_all {s : Int} {many k : Nat} (h1 : 1 ≤ s) (hk : k < many) (h0 : k ≠ 0) (hd : (k : Int) % s = 0) : (k : Int) < s + (cnt s many : Int) * s := by
  have e := Int.mul_ediv_add_emod (k : Int) s
  rw [hd] at e
  generalize (k : Int) / s = q at e
  have q1 : 1 ≤ q := by
    by_cases z : q ≤ 0
    · have : s * q ≤ 0 := Int.mul_nonpos_of_nonneg_of_nonpos (by omega) z
      omega
    · omega
  have le : s ≤ (k : Int) := by
    have : s * 1 ≤ s * q := Int.mul_le_mul_of_nonneg_left q1 (by omega)
    omega
  have lt : s < (many : Int) ∨ s = (k : Int) := by omega
  have lt2 : s < (many : Int) := by omega
  unfold cnt
  rw [if_pos lt2]
  have a : q - 1 ≤ ((many : Int) - s - 1) / s := by
    refine Int.le_ediv_of_mul_le (by omega) ?_
    rw [Int.sub_mul, Int.mul_comm q s]
    omega
  have b : ((((many : Int) - s - 1) / s + 1).toNat : Int) = ((many : Int) - s - 1) / s + 1 := by
    omega
  rw [b]
  have c : q * s ≤ (((many : Int) - s - 1) / s + 1) * s := Int.mul_le_mul_of_nonneg_right (by omega) (by omega)
  rw [Int.mul_comm q s] at c
  omega
theorem bound_of {x : Int} (h : x.natAbs < 10 ^ 400) : -(10 ^ 400 : Int) < x ∧ x < 10 ^ 400 := by
  have e : ((10 ^ 400 : Nat) : Int) = (10 ^ 400 : Int) := by
    rw [Int.natCast_pow]
    rfl
  generalize (10 ^ 400 : Int) = b at e ⊢
  generalize (10 ^ 400 : Nat) = n at e h
  omega
section
variable {P : Program} {w : World} {K : PySem.W.Frag} {mg : Str → Option Value} {base : Heap}
def spWantRow : Sp := fun vs H Q _ => ∃ (l : Addr) (ns : List Int), vs = [.ref l] ∧ H l = some (.lst (ns.map V.int)) ∧ ns.length ≤ 3000 ∧ ∀ H', Same H H' → Q (.ref l) H'
theorem cl_wantRow (D : Df K mg "want_row" sWantRow ["value"]) (L : Cl P w K mg base 1 "is_list" spIsList) (I : Cl P w K mg base 1 "is_integer" spInteger) (B : Bt mg) : Cl P w K mg base 2 "want_row" spWantRow := by
  refine D.cl scWantRow (fun vs H Q E h => ?_) (fun f cdv A outer s H vs Q E hr h => ?_)
  · obtain ⟨l, ns, rfl, _⟩ := h
    rfl
  · obtain ⟨l, ns, rfl, hl, len, k⟩ := h
    obtain ⟨tM, gM⟩ := B.places
    refine ⟨_, pss_cons (ps_if (PW.pt (pw_or (pt_not (pt_val (pe_cl L hr (by decide) (by rfl) (pa_cons (pv 0) pa_nil))))
        (pw_or (pt_cmpR op_gt (pe_callB call_len_seq (by rfl) B.len PySem.boot_len (pa_cons (pv 0) pa_nil)) (pe_glob (v := .int 3000) (by rfl) gM ⟨_, rfl⟩) (nomark _))
        (pw_or1 (pt_not (pt_val (pe_callB (cr_all rfl) (by rfl) B.all boot_all (pa_cons
          (pe_lc (own := [("one", 1)]) (g := gName 1) (tt := tYes) (by rfl) scWantRow.nd (pi_list (pv 0)) (blkOk_by (own := [("one", 1)]) (N := ["value", "one"]) (sc := defScope sWantRow) (by decide +kernel))
            (fun _ _ _ _ _ => pg_name (i := 1) scWantRow.nd rfl (.inl rfl)) (fun _ _ _ _ _ => pts_nil) (fun _ _ _ _ _ => pe_cl I (hr.mono (j := 1) (by decide)) (by decide) (by rfl) (pa_cons (pv 1) pa_nil))) pa_nil)))))))) (pss_one ps_never) pss_nil)
      (pss_one (ps_ret (pv 0))), ?_⟩
    refine ⟨_, rfl, l, _, rfl, hl, fun H1 s1 => ⟨_, rfl, iteF ?_⟩⟩
    have hl1 := s1 _ _ hl
    refine ⟨_, rfl, l, _, rfl, .inl (sqL hl1), _, 3000, rfl, rfl, _, rfl, ifDN (by rw [List.length_map]; omega) ?_⟩
    refine ⟨_, rfl, l, rfl, ⟨_, sqL hl1⟩, fun T nT => lc_it (walk_list (xs := ns.map V.int)) (fun i H2 => Same H1 H2 ∧ H2 T = some (.lst ((List.replicate i true).map V.bl))) ⟨same_new nT, upd_same⟩ (fun i H2 _ z => sqL (z.1 _ _ hl1)) ?_ ?_⟩
    · rintro i x H2 H3 hi ⟨s2, eT⟩ ⟨rfl, hx⟩
      rw [List.getElem?_map] at hx
      obtain ⟨n, hn, rfl⟩ := Option.map_eq_some_iff.mp hx
      rw [List.length_map] at hi
      refine ⟨rfl, lcYes ⟨_, rfl, n, rfl, _, eT, okSize (by rw [List.length_map, List.length_replicate]; omega), fun b o e => ?_, ?_⟩⟩
      · rw [upd_ne (ne_of_none e nT)]
        exact s2 b o e
      · rw [upd_same, trues_succ]
    · rintro H2 ⟨s2, eT⟩
      refine ⟨T, List.replicate (ns.map V.int).length true, rfl, sqL eT, ?_⟩
      rw [trues]
      exact ⟨_, rfl, iteF ⟨_, rfl, k H2 (s1.trans s2)⟩⟩
def spWantPlaces : Sp := fun vs H Q _ => ∃ i m : Int, vs = [.int i, .int m] ∧ 0 ≤ i ∧ i ≤ m ∧ Q (.int i) H
theorem cl_wantPlaces (D : Df K mg "want_places" sWantPlaces ["value", "most"]) (C : Cl P w K mg base 2 "is_count" spCount) : Cl P w K mg base 3 "want_places" spWantPlaces := by
  refine D.cl scWantPlaces (fun vs H Q E h => ?_) (fun f cdv A outer s H vs Q E hr h => ?_)
  · obtain ⟨i, m, rfl, _⟩ := h
    rfl
  · obtain ⟨i, m, rfl, h0, h1, k⟩ := h
    refine ⟨_, pss_cons (ps_if (PW.pt (pw_or (pt_not (pt_val (pe_cl C hr (by decide) (by rfl) (pa_cons (pv 0) pa_nil)))) (pw_or1 (pt_cmpR op_gt (pv 0) (pv 1) (nomark _))))) (pss_one ps_never) pss_nil) (pss_one (ps_ret (pv 0))), ?_⟩
    exact ⟨_, rfl, i, rfl, h0, _, rfl, iteF ⟨_, rfl, _, rfl, _, _, rfl, rfl, _, rfl, ifDN (by omega) ⟨_, rfl, k⟩⟩⟩
def spWantDigits : Sp := fun vs H Q _ => ∃ (l : Addr) (ns : List Int), vs = [.ref l] ∧ H l = some (.lst (ns.map V.int)) ∧ (∀ x ∈ ns, x.natAbs < 10 ^ 400) ∧ Q (.ref l) H
theorem cl_wantDigits (D : Df K mg "want_digits" sWantDigits ["row"]) (B : Bt mg) : Cl P w K mg base 1 "want_digits" spWantDigits := by
  refine D.cl scWantDigits (fun vs H Q E h => ?_) (fun f cdv A outer s H vs Q E hr h => ?_)
  · obtain ⟨l, ns, rfl, _⟩ := h
    rfl
  · obtain ⟨l, ns, rfl, hl, small, k⟩ := h
    obtain ⟨tB, gB⟩ := B.bound
    refine ⟨_, pss_cons (ps_for PassesOwn.never rfl (pi_list (pv 0)) (pg_name (i := 1) scWantDigits.nd rfl (.inl rfl))
        (pss_one (ps_if (pt_not (pt_chain op_lt op_lt (pe_un un_neg (pe_glob (v := .int (10 ^ 400)) (by rfl) gB ⟨_, rfl⟩)) (pv 1) (pe_glob (v := .int (10 ^ 400)) (by rfl) gB ⟨_, rfl⟩))) (pss_one ps_never) pss_nil)))
      (pss_one (ps_ret (pv 0))), ?_⟩
    refine ⟨_, rfl, l, rfl, ⟨_, sqL hl⟩, for_it (walk_list (xs := ns.map V.int)) (fun i σ H1 => ∃ y, σ = [some (.ref l), y] ∧ H1 = H) ⟨none, rfl, rfl⟩ (fun i σ H1 _ z => ?_) ?_ ?_⟩
    · obtain ⟨_, _, rfl⟩ := z
      exact sqL hl
    · rintro i x σ H1 H2 hi ⟨y, rfl, rfl⟩ ⟨rfl, hx⟩
      rw [List.getElem?_map] at hx
      obtain ⟨n, hn, rfl⟩ := Option.map_eq_some_iff.mp hx
      obtain ⟨b1, b2⟩ := bound_of (small n (List.mem_of_getElem? hn))
      exact ⟨_, rfl, _, rfl, _, n, rfl, rfl, _, rfl, ifD b1 ⟨n, _, rfl, rfl, _, rfl, iteNS b2 ⟨some (.int n), rfl, rfl⟩⟩⟩
    · rintro σ H1 ⟨y, rfl, rfl⟩
      exact ⟨_, rfl, k⟩
end
end K19
/-! K19F: step_sums, numbers_of, product_row, first_unlike. -/
namespace K19
open PySem PySem.Spec PyProof.Rows L2 RZ
theorem valV_at {m : Int} {ps : Pows} (v : Valid m ps) : ∀ {i : Nat} {s p : Int}, ps[i]? = some (s, p) → valV (kvO ps) (Sum.inl s : Key) = some (.int p) := by
  intro i s p h
  have nn : (valV (kvO ps) (Sum.inl s : Key)).getD (.int 0) = .int (lk ps s) := kvO_val ps s
  induction ps generalizing i with
  | nil => simp at h
  | cons x r ih =>
    show valV ((Sum.inl x.1, V.int x.2) :: kvO r) (Sum.inl s : Key) = _
    cases i with
    | zero =>
      have e : x = (s, p) := by simpa using h
      rw [valV_pos (by rw [e]), e]
    | succ i =>
      have hr : r[i]? = some (s, p) := by simpa using h
      have lt := (List.pairwise_cons.mp v.srt).1 _ (List.mem_of_getElem? hr)
      rw [valV_neg (fun z => by have := Sum.inl.inj z; simp at lt; omega)]
      exact ih v.tail hr (kvO_val r s)
/-- the places s, 2 s, .. told by how many of them are done -/
def doneF (f : Nat → Int) (s : Int) (c : Int) (j : Nat) : Nat → Int := fun k => f k + (if k ≠ 0 ∧ (k : Int) % s = 0 ∧ (k : Int) < s + (j : Int) * s then c else 0)
theorem doneF_zero {f : Nat → Int} {s c : Int} (h1 : 1 ≤ s) : doneF f s c 0 = f := by
  funext k
  unfold doneF
  rw [if_neg]
  · omega
  · rintro ⟨h0, hd, hl⟩
    have := Int.emod_eq_of_lt (show 0 ≤ (k : Int) by omega) (show (k : Int) < s by simpa using hl)
    omega
theorem doneF_step {f : Nat → Int} {s c : Int} {j : Nat} (h1 : 1 ≤ s) (k : Nat) : (if (k : Int) = s + (j : Int) * s then doneF f s c j k + c else doneF f s c j k) = doneF f s c (j + 1) k := by
  have j0 : 0 ≤ (j : Int) * s := Int.mul_nonneg (by omega) (by omega)
  have jj : ((j + 1 : Nat) : Int) * s = (j : Int) * s + s := by
    rw [show ((j + 1 : Nat) : Int) = (j : Int) + 1 by omega, Int.add_mul, Int.one_mul]
  unfold doneF
  rw [jj]
  by_cases e : (k : Int) = s + (j : Int) * s
  · have d : (k : Int) % s = 0 := by
      rw [e, Int.add_mul_emod_self_right, Int.emod_self]
    rw [if_pos e, if_neg (by omega), if_pos ⟨by omega, d, by omega⟩]
    omega
  · rw [if_neg e]
    by_cases l : k ≠ 0 ∧ (k : Int) % s = 0 ∧ (k : Int) < s + (j : Int) * s
    · rw [if_pos l, if_pos ⟨l.1, l.2.1, by omega⟩]
    · rw [if_neg l, if_neg]
      rintro ⟨a, b, c'⟩
      refine l ⟨a, b, ?_⟩
      -- the multiple below s + (j + 1) s that is not s + j s lies below
      have q := Int.mul_ediv_add_emod (k : Int) s
      rw [b] at q
      generalize (k : Int) / s = t at q
      have t1 : t ≤ (j : Int) + 1 := by
        by_cases z : (j : Int) + 2 ≤ t
        · have : s * ((j : Int) + 2) ≤ s * t := Int.mul_le_mul_of_nonneg_left z (by omega)
          rw [Int.mul_add, Int.mul_comm s (j : Int)] at this
          omega
        · omega
      have t2 : t ≠ (j : Int) + 1 := by
        intro z
        rw [z, Int.mul_add, Int.mul_comm s (j : Int)] at q
        omega
      have t3 : s * t ≤ s * (j : Int) := Int.mul_le_mul_of_nonneg_left (by omega) (by omega)
      rw [Int.mul_comm s (j : Int)] at t3
      omega
theorem doneF_all {f : Nat → Int} {s c : Int} {many k : Nat} (h1 : 1 ≤ s) (hk : k < many) : doneF f s c (cnt s many) k = f k + (if k ≠ 0 ∧ (k : Int) % s = 0 then c else 0) := by
  unfold doneF
  by_cases e : k ≠ 0 ∧ (k : Int) % s = 0
  · rw [if_pos e, if_pos ⟨e.1, e.2, cnt_all h1 hk e.1 e.2⟩]
  · rw [if_neg e, if_neg fun z => e ⟨z.1, z.2.1⟩]
section
variable {P : Program} {w : World} {K : PySem.W.Frag} {mg : Str → Option Value} {base : Heap}
def spStepSums : Sp := fun vs H Q _ => ∃ (a : Addr) (ps : Pows) (n : Nat), vs = [.ref a, .int n] ∧ PrAt H a ps ∧ Valid 60 ps ∧ 1 ≤ n ∧ n ≤ 60 ∧ ∀ H' l, Same H H' → H l = none → H' l = some (.lst (rg n (cS ps n))) → Q (.ref l) H'
theorem cl_stepSums (D : Df K mg "step_sums" sStepSums ["product", "many"]) (O : Cl P w K mg base 1 "powers_of" spPowersOf) (B : Bt mg) : Cl P w K mg base 2 "step_sums" spStepSums := by
  refine D.cl scStepSums (fun vs H Q E h => ?_) (fun f cdv A outer s H vs Q E hr h => ?_)
  · obtain ⟨a, ps, n, rfl, _⟩ := h
    rfl
  · obtain ⟨a, ps, n, rfl, ha, vp, n1, n63, k⟩ := h
    have hu := hu_of hr
    refine ⟨_, pss_cons (ps_par3 (i := 2) (j := 3) (l := 4) rfl scStepSums.nd rfl rfl rfl (by decide) (by decide) (by decide) rfl rfl rfl
        (pa_cons (pe_op op_rep (pe_lst (pa_cons pe_int pa_nil)) (pv 1)) (pa_cons (pe_op op_rep (pe_lst (pa_cons pe_int pa_nil)) (pv 1)) (pa_cons (pe_cl O hr (by decide) (by rfl) (pa_cons (pv 0) pa_nil)) pa_nil))) (by rfl))
      (pss_cons (ps_lock (ps_for PassesOwn.never rfl (pi_keys (pv 4)) (pg_name (i := 5) scStepSums.nd rfl (.inl rfl))
        (pss_one (ps_for PassesOwn.never rfl (pi_range3 (by rfl) B.range (pa_cons (pv 5) (pa_cons (pv 1) (pa_cons (pv 5) pa_nil)))) (pg_name (i := 6) scStepSums.nd rfl (.inl rfl))
          (pss_one (ps_asg (pe_op op_add (pe_ix ix_list (pv 3) (pv 6) (fun _ _ => rfl)) (pe_dget hu (pv 4) (pv 5) (fun _ _ => rfl))) (pg_sub (pv 3) (pv 6) set_list)))))))
      (pss_cons (ps_for PassesOwn.never rfl (pi_range2 (by rfl) B.range (pa_cons pe_int (pa_cons (pv 1) pa_nil))) (pg_name (i := 7) scStepSums.nd rfl (.inl rfl))
        (pss_one (ps_if (pt_cmpR op_ne (pe_ix ix_list (pv 3) (pv 7) (fun _ _ => rfl)) pe_int (nomark _))
          (pss_one (ps_for PassesOwn.never rfl (pi_range3 (by rfl) B.range (pa_cons (pv 7) (pa_cons (pv 1) (pa_cons (pv 7) pa_nil)))) (pg_name (i := 6) scStepSums.nd rfl (.inl rfl))
            (pss_one (ps_asg (pe_op op_sub (pe_ix ix_list (pv 2) (pv 6) (fun _ _ => rfl)) (pe_op op_mul (pv 7) (pe_ix ix_list (pv 3) (pv 7) (fun _ _ => rfl)))) (pg_sub (pv 2) (pv 6) set_list))))) pss_nil)))
      (pss_one (ps_ret (pv 2))))), ?_⟩
    have small : ∀ {l : List V}, l = [V.int 0] → l.length * (n : Int).toNat ≤ sizeLine := fun {l} e => by
      rw [e]
      exact Nat.le_of_lt (okSize (by simp; omega))
    refine ⟨by show 1 ≤ sizeLine; decide, fun z1 nz1 => ⟨_, rfl, z1, n, _, rfl, rfl, upd_same, by omega, by omega, small rfl, fun fo nfo => ?_⟩⟩
    refine ⟨by show 1 ≤ sizeLine; decide, fun z2 nz2 => ⟨_, rfl, z2, n, _, rfl, rfl, upd_same, by omega, by omega, small rfl, fun fa nfa => ?_⟩⟩
    have e0 : (List.replicate (n : Int).toNat [V.int 0]).flatten = rg n fun _ => 0 := rep_zero n
    rw [e0] at nz2 nfa ⊢
    have s1 : Same H (upd H z1 (.lst [.int 0])) := same_new nz1
    have s2 : Same (upd H z1 (.lst [.int 0])) (upd (upd H z1 (.lst [.int 0])) fo (.lst (rg n fun _ => 0))) := same_new nfo
    have ho : (upd (upd H z1 (.lst [.int 0])) fo (.lst (rg n fun _ => 0))) fo = some (.lst (rg n fun _ => 0)) := upd_same
    have no : H fo = none := s1.free nfo
    generalize upd (upd H z1 (.lst [.int 0])) fo (.lst (rg n fun _ => 0)) = H2 at s2 ho nz2 nfa ⊢
    have s3 : Same H2 (upd H2 z2 (.lst [.int 0])) := same_new nz2
    have s4 : Same (upd H2 z2 (.lst [.int 0])) (upd (upd H2 z2 (.lst [.int 0])) fa (.lst (rg n fun _ => 0))) := same_new nfa
    have hfa : (upd (upd H2 z2 (.lst [.int 0])) fa (.lst (rg n fun _ => 0))) fa = some (.lst (rg n fun _ => 0)) := upd_same
    have nfa2 : H2 fa = none := s3.free nfa
    have foa : fo ≠ fa := ne_of_none ho nfa2
    have na : H fa = none := (s1.trans s2).free nfa2
    have s04 := s1.trans (s2.trans (s3.trans s4))
    have ho4 := s4 _ _ (s3 _ _ ho)
    generalize upd (upd H2 z2 (.lst [.int 0])) fa (.lst (rg n fun _ => 0)) = H4 at s4 s04 hfa ho4 ⊢
    refine ⟨_, rfl, a, ps, rfl, ha.same s04, vp, fun H5 d s5 nd ed => ⟨_, _, _, rfl, ?_⟩⟩
    have nd0 : H d = none := s04.free nd
    have ho5 := s5 _ _ ho4
    have ha5 := s5 _ _ hfa
    have fod : fo ≠ d := ne_of ho5 ed (by intro z; cases z)
    have fad : fa ≠ d := ne_of ha5 ed (by intro z; cases z)
    refine ⟨d, _, ed, trivial, fun od => ?_⟩
    have ho6 : (upd H5 d (.frz od (.dK (kvO ps)))) fo = some (.lst (rg n fun _ => 0)) := by rw [upd_ne fod]; exact ho5
    have ha6 : (upd H5 d (.frz od (.dK (kvO ps)))) fa = some (.lst (rg n fun _ => 0)) := by rw [upd_ne fad]; exact ha5
    have hd6 : (upd H5 d (.frz od (.dK (kvO ps)))) d = some (.frz od (.dK (kvO ps))) := upd_same
    have s06 : Same H (upd H5 d (.frz od (.dK (kvO ps)))) := fun b o e => by
      rw [upd_ne (ne_of_none e nd0)]
      exact s5 _ _ (s04 b o e)
    generalize upd H5 d (.frz od (.dK (kvO ps))) = H6 at ho6 ha6 hd6 s06 ⊢
    refine ⟨_, rfl, d, od, rfl, .inl ⟨kvO ps, hd6, for_it (walk_keys (kvs := kvO ps)) (fun i σ H1 => ∃ y5 y6, σ = [some (.ref a), some (.int n), some (.ref fo), some (.ref fa), some (.ref d), y5, y6, none] ∧ But fa H6 H1 ∧ H1 fa = some (.lst (rg n (facF (ps.take i)))))
      ⟨none, none, rfl, .refl _ _, ha6⟩ (fun i σ H1 _ z => ?_) ?_ ?_⟩⟩
    · obtain ⟨_, _, _, b1, _⟩ := z
      exact b1 _ _ hd6 fad.symm
    · rintro i x σ H1 H1' hi ⟨y5, y6, rfl, b1, e1⟩ ⟨rfl, kk, vv, hkv, rfl⟩
      obtain ⟨⟨st, pw⟩, hp, hpe⟩ : ∃ q : Int × Int, ps[i]? = some q ∧ (kk, vv) = ((Sum.inl q.1 : Key), V.int q.2) := by
        unfold kvO at hkv
        rw [List.getElem?_map] at hkv
        obtain ⟨q, h1, h2⟩ := Option.map_eq_some_iff.mp hkv
        exact ⟨q, h1, h2.symm⟩
      obtain ⟨rfl, rfl⟩ := Prod.mk.inj hpe
      have bd := vp.bnd _ (List.mem_of_getElem? hp)
      have st1 : 1 ≤ st := bd.1
      refine ⟨_, rfl, _, rfl, _, rfl, st, n, st, cnt st n, rfl, rgC st1 bd.2.1 (by omega), for_it walk_rangeC (fun j σ H2 => ∃ y6, σ = [some (.ref a), some (.int n), some (.ref fo), some (.ref fa), some (.ref d), some (.int st), y6, none] ∧ But fa H6 H2 ∧ H2 fa = some (.lst (rg n (doneF (facF (ps.take i)) st pw j))))
        ⟨y6, rfl, b1, by rw [doneF_zero st1]; exact e1⟩ (fun _ _ _ _ _ => trivial) ?_ ?_⟩
      · rintro j x σ H2 H2' hj ⟨y6, rfl, b2, e2⟩ ⟨rfl, rfl⟩
        have lt := cnt_lt st1 hj
        have j0 : 0 ≤ (j : Int) * st := Int.mul_nonneg (by omega) (by omega)
        obtain ⟨m, em⟩ : ∃ m : Nat, st + (j : Int) * st = (m : Int) := ⟨(st + (j : Int) * st).toNat, by omega⟩
        have mn : m < n := by omega
        have hd2 := b2 _ _ hd6 fad.symm
        refine ⟨_, rfl, _, rfl, fa, _, _, _, rfl, rfl, sqL e2, by rw [em]; exact atI_nat (rg_at mn), _, rfl, _, rfl, d, .int pw, rfl, .inl ⟨kvO ps, Sum.inl st, .inr ⟨od, hd2⟩, rfl, (valV_at vp hp).symm⟩, _, _, rfl, rfl, ?_⟩
        refine ⟨_, rfl, _, rfl, fa, _, _, m, rfl, rfl, e2, by rw [em, rg_len]; exact ixN_nat mn, _, rfl, b2.upd, ?_⟩
        rw [upd_same, rg_set mn]
        refine congrArg (fun l => some (HO.lst l)) (rg_congr fun k hk => ?_)
        have := doneF_step (f := facF (ps.take i)) (c := pw) (j := j) st1 k
        rw [em] at this
        rw [← this]
        by_cases e : k = m
        · rw [if_pos e, if_pos (by omega), e]
        · rw [if_neg e, if_neg (by omega)]
      · rintro σ H2 ⟨y6, rfl, b2, e2⟩
        refine ⟨_, _, rfl, b2, ?_⟩
        rw [e2]
        refine congrArg (fun l => some (HO.lst l)) (rg_congr fun k hk => ?_)
        rw [doneF_all st1 hk, List.take_add_one, hp]
        show _ = facF (ps.take i ++ [(st, pw)]) k
        rw [facF_append]
        show _ = facF (ps.take i) k + ((0 : Int) + _)
        rw [Int.zero_add]
    · rintro σ H1 ⟨y5, y6, rfl, b1, e1⟩
      rw [kvO_len, List.take_length] at e1
      refine ⟨b1 _ _ hd6 fad.symm, ?_⟩
      have ho7 : (upd H1 d (.dK (kvO ps))) fo = some (.lst (rg n fun _ => 0)) := by rw [upd_ne fod]; exact b1 _ _ ho6 foa
      have ha7 : (upd H1 d (.dK (kvO ps))) fa = some (.lst (rg n (facF ps))) := by rw [upd_ne fad]; exact e1
      have s07 : Same H (upd H1 d (.dK (kvO ps))) := fun b o e => by
        rw [upd_ne (ne_of_none e nd0)]
        exact b1 _ _ (s06 b o e) (ne_of_none e na)
      generalize upd H1 d (.dK (kvO ps)) = H7 at ho7 ha7 s07 ⊢
      refine ⟨_, rfl, 1, n, rfl, ⟨by decide, by decide, by omega, by omega⟩, for_it walk_range (fun t σ H2 => ∃ y5 y6 y7, σ = [some (.ref a), some (.int n), some (.ref fo), some (.ref fa), some (.ref d), y5, y6, y7] ∧ But fo H7 H2 ∧ H2 fo = some (.lst (rg n (cP (facF ps) t))))
        ⟨y5, y6, none, rfl, .refl _ _, ho7⟩ (fun _ _ _ _ _ => trivial) ?_ ?_⟩
      · rintro t x σ H2 H2' ht ⟨y5, y6, y7, rfl, b2, e2⟩ ⟨rfl, hx⟩
        obtain ⟨c, ec⟩ : ∃ c : Nat, 1 + (t : Int) = (c : Int) := ⟨t + 1, by omega⟩
        have ect : c = t + 1 := by omega
        have cn : c < n := by omega
        have hx2 : x = .int (c : Int) := hx.trans (congrArg V.int ec)
        subst hx2
        have ha2 := b2 _ _ ha7 foa.symm
        refine ⟨_, rfl, _, rfl, fa, _, _, _, rfl, rfl, sqL ha2, atI_nat (rg_at cn), rfl, _, rfl, ?_⟩
        by_cases z : facF ps c = 0
        · rw [z]
          refine iteNS rfl ⟨_, _, _, rfl, b2, ?_⟩
          rw [e2]
          refine congrArg (fun l => some (HO.lst l)) (rg_congr fun k hk => ?_)
          show cP (facF ps) t k = cP (facF ps) t k - (if k ≠ 0 ∧ k % (t + 1) = 0 then ((t + 1 : Nat) : Int) * facF ps (t + 1) else 0)
          rw [← ect, z, Int.mul_zero]
          split <;> omega
        · have c1 : (1 : Int) ≤ (c : Int) := by omega
          refine ifND (fun q => z (V.int.inj q)) ?_
          refine ⟨_, rfl, _, rfl, _, rfl, c, n, c, cnt c n, rfl, rgC c1 (by omega) (by omega), for_it walk_rangeC (fun j σ H3 => ∃ y6, σ = [some (.ref a), some (.int n), some (.ref fo), some (.ref fa), some (.ref d), y5, y6, some (.int c)] ∧ But fo H7 H3 ∧ H3 fo = some (.lst (rg n (doneF (cP (facF ps) t) c (-((c : Int) * facF ps c)) j))))
            ⟨y6, rfl, b2, by rw [doneF_zero c1]; exact e2⟩ (fun _ _ _ _ _ => trivial) ?_ ?_⟩
          · rintro j x σ H3 H3' hj ⟨y6, rfl, b3, e3⟩ ⟨rfl, rfl⟩
            have lt := cnt_lt c1 hj
            have j0 : 0 ≤ (j : Int) * (c : Int) := Int.mul_nonneg (by omega) (by omega)
            obtain ⟨m, em⟩ : ∃ m : Nat, (c : Int) + (j : Int) * (c : Int) = (m : Int) := ⟨((c : Int) + (j : Int) * (c : Int)).toNat, by omega⟩
            have mn : m < n := by omega
            have ha3 := b3 _ _ ha7 foa.symm
            refine ⟨_, rfl, _, rfl, fo, _, _, _, rfl, rfl, sqL e3, by rw [em]; exact atI_nat (rg_at mn), _, rfl, _, rfl, _, rfl, fa, _, _, _, rfl, rfl, sqL ha3, atI_nat (rg_at cn), c, _, rfl, rfl, .inl ⟨by omega, by omega⟩, _, _, rfl, rfl, ?_⟩
            refine ⟨_, rfl, _, rfl, fo, _, _, m, rfl, rfl, e3, by rw [em, rg_len]; exact ixN_nat mn, _, rfl, b3.upd, ?_⟩
            rw [upd_same, rg_set mn]
            refine congrArg (fun l => some (HO.lst l)) (rg_congr fun k hk => ?_)
            have := doneF_step (f := cP (facF ps) t) (c := -((c : Int) * facF ps c)) (j := j) c1 k
            rw [em] at this
            rw [← this]
            by_cases e : k = m
            · rw [if_pos e, if_pos (by omega), e]
              omega
            · rw [if_neg e, if_neg (by omega)]
          · rintro σ H3 ⟨y6, rfl, b3, e3⟩
            refine ⟨_, _, _, rfl, b3, ?_⟩
            rw [e3]
            refine congrArg (fun l => some (HO.lst l)) (rg_congr fun k hk => ?_)
            rw [doneF_all c1 hk]
            show _ = cP (facF ps) t k - (if k ≠ 0 ∧ k % (t + 1) = 0 then ((t + 1 : Nat) : Int) * facF ps (t + 1) else 0)
            rw [← ect]
            have iff : ((k : Int) % (c : Int) = 0) ↔ k % c = 0 := by
              rw [← Int.natCast_emod]
              omega
            by_cases dv : k % c = 0
            · simp only [iff.mpr dv, dv]
              split <;> omega
            · rw [if_neg fun z => dv (iff.mp z.2), if_neg fun z => dv z.2]
              omega
      · rintro σ H2 ⟨y5, y6, y7, rfl, b2, e2⟩
        have en : ((n : Int) - 1).toNat = n - 1 := by omega
        rw [en] at e2
        exact ⟨_, rfl, k H2 fo (fun b o e => b2 _ _ (s07 b o e) (ne_of_none e no)) no e2⟩
end
end K19
/-! K19G: numbers_of, product_row, first_unlike. -/
set_option exponentiation.threshold 4000
namespace K19
open PySem PySem.Spec PyProof.Rows L2 RZ
theorem cS_small {m : Int} {ps : Pows} {n : Nat} (v : Valid m ps) (hn : n ≤ 40) (k : Nat) : (cS ps n k).natAbs < 2 ^ 21 := by
  have b1 : ∀ k, (facF ps k).natAbs ≤ 720 := fun k => by
    have := facF_bound (ps := ps) (k := k) fun x hx => ⟨(v.bnd x hx).2.2.2.1, (v.bnd x hx).2.2.2.2⟩
    have := v.len
    omega
  have b2 := cP_bound b1 k (n - 1)
  have b3 : (n - 1) * ((n - 1) * 720) ≤ 40 * (40 * 720) := Nat.mul_le_mul (by omega) (Nat.mul_le_mul (by omega) (Nat.le_refl _))
  unfold cS
  omega
theorem row_small {m : Int} {ps : Pows} {n t : Nat} (v : Valid m ps) (hn : n ≤ 40) (ht : t < n) (i : Nat) : ((numL (cS ps n) t).getD i 0).natAbs < 2 ^ 1330 := by
  rw [List.getD_eq_getElem?_getD]
  cases e : (numL (cS ps n) t)[i]? with
  | none =>
    show (0 : Int).natAbs < _
    exact Nat.pow_pos (by decide)
  | some x =>
    have hi : i < t + 1 := by
      have := (List.getElem?_eq_some_iff.mp e).1
      rw [numL_len] at this
      exact this
    have e2 : (rowOf ps n)[i]? = some x := by
      unfold rowOf
      rw [numL_get (m := t) (by omega) (by omega), e]
    refine Nat.lt_trans (rowOf_bound v hn x (List.mem_of_getElem? e2)) ?_
    decide +kernel
section
variable {P : Program} {w : World} {K : PySem.W.Frag} {mg : Str → Option Value} {base : Heap}
def spNumbers : Sp := fun vs H Q _ => ∃ (a : Addr) (ps : Pows) (n : Nat), vs = [.ref a, .int n] ∧ PrAt H a ps ∧ Valid 60 ps ∧ 1 ≤ n ∧ n ≤ 40 ∧ ∀ H' l, Same H H' → H l = none → H' l = some (.lst ((rowOf ps n).map V.int)) → Q (.ref l) H'
theorem cl_numbers (D : Df K mg "numbers_of" sNumbers ["product", "many"]) (O : Cl P w K mg base 2 "step_sums" spStepSums) (B : Bt mg) : Cl P w K mg base 3 "numbers_of" spNumbers := by
  refine D.cl scNumbers (fun vs H Q E h => ?_) (fun f cdv A outer s H vs Q E hr h => ?_)
  · obtain ⟨a, ps, n, rfl, _⟩ := h
    rfl
  · obtain ⟨a, ps, n, rfl, ha, vp, n1, n40, k⟩ := h
    refine ⟨_, pss_cons (ps_asg (pe_tup (pa_cons (pe_cl O hr (by decide) (by rfl) (pa_cons (pv 0) (pa_cons (pv 1) pa_nil))) (pa_cons (pe_slice sl_list (pe_lst (pa_cons pe_int pa_nil)) po_none (po_some (pv 1))) pa_nil)))
        (pg_tup rfl (pgs_cons (pg_name (i := 2) scNumbers.nd rfl (.inr rfl)) (pgs_cons (pg_name (i := 3) scNumbers.nd rfl (.inr rfl)) pgs_nil))))
      (pss_cons (ps_for PassesOwn.never rfl (pi_range2 (by rfl) B.range (pa_cons pe_int (pa_cons (pv 1) pa_nil))) (pg_name (i := 4) scNumbers.nd rfl (.inr rfl))
        (pss_cons (ps_set (i := 5) scNumbers.nd rfl (.inl rfl) (pe_callB (cr_sum rfl) (by rfl) B.sum boot_sum (pa_cons
          (pe_lc (own := [("near", 6)]) (g := gName 6) (tt := tYes) (te := tOp (rI CMulW fun i j => .int (i * j)) (tOp (rIxL K) (tVar 2) (tVar 6)) (tOp (rIxL K) (tVar 3) (tOp (rI0 fun i j => .int (i - j)) (tVar 4) (tVar 6)))) (by rfl) scNumbers.nd
            (pi_range2 (by rfl) B.range (pa_cons pe_int (pa_cons (pe_op op_add (pv 4) pe_int) pa_nil))) (blkOk_by (own := [("near", 6)]) (N := ["product", "many", "sums", "found", "place", "whole", "near"]) (sc := defScope sNumbers) (by decide +kernel))
            (fun _ _ _ _ _ => pg_name (i := 6) scNumbers.nd rfl (.inl rfl)) (fun _ _ _ _ _ => pts_nil)
            (fun _ _ _ _ _ => pe_op op_mulW (pe_ix ix_list (pv 2) (pv 6) (fun _ _ => rfl)) (pe_ix ix_list (pv 3) (pe_op op_sub (pv 4) (pv 6)) (fun _ _ => rfl)))) pa_nil)))
        (pss_one (ps_expr (pe_bm PySem.F.plainAttrs_list PySem.F.slot_list_append PySem.F.type_list_append mt_append (pv 3) (pa_cons (pe_op op_fdiv (pv 5) (pv 4)) pa_nil))))))
      (pss_one (ps_ret (pv 3)))), ?_⟩
    refine ⟨_, rfl, _, rfl, a, ps, n, rfl, ha, vp, n1, by omega, fun H1 l s1 nl el => ?_⟩
    refine ⟨by show 1 ≤ sizeLine; decide, fun z nz => ?_⟩
    have s2 : Same H1 (upd H1 z (.lst [.int 1])) := same_new nz
    refine ⟨_, rfl, n, rfl, z, _, rfl, sqL upd_same, fun f nf => ?_⟩
    have e1 : cutV [V.int 1] none (some (n : Int)) = [V.int 1] := by
      unfold cutV
      rw [HT.sIx_none, show HT.sIx [V.int 1].length [V.int 1].length (some (n : Int)) = min n [V.int 1].length from HT.sIx_nat [V.int 1].length [V.int 1].length n]
      rw [show min n [V.int 1].length = 1 by show min n 1 = 1; omega]
      rfl
    rw [e1]
    have s3 : Same (upd H1 z (.lst [.int 1])) (upd (upd H1 z (.lst [.int 1])) f (.lst [.int 1])) := same_new nf
    have hf : (upd (upd H1 z (.lst [.int 1])) f (.lst [.int 1])) f = some (.lst [.int 1]) := upd_same
    have nf1 : H1 f = none := s2.free nf
    have s13 := s2.trans s3
    generalize upd (upd H1 z (.lst [.int 1])) f (.lst [.int 1]) = H3 at hf s13 ⊢
    have lf : l ≠ f := ne_of_none el nf1
    refine ⟨by show 2 ≤ sizeLine; decide, fun t nt => ?_⟩
    have s4 : Same H3 (upd H3 t (.tup [.ref l, .ref f])) := same_new nt
    refine ⟨t, [.ref l, .ref f], rfl, sqT upd_same, rfl, _, _, rfl, _, _, rfl, rfl, ?_⟩
    have hf4 := s4 _ _ hf
    have el4 := s4 _ _ (s13 _ _ el)
    have s04 := s1.trans (s13.trans s4)
    generalize upd H3 t (.tup [.ref l, .ref f]) = H4 at hf4 el4 s04 ⊢
    have nf0 : H f = none := s1.free nf1
    refine ⟨_, rfl, 1, n, rfl, ⟨by decide, by decide, by omega, by omega⟩, for_it walk_range (fun t σ H5 => ∃ y4 y5, σ = [some (.ref a), some (.int n), some (.ref l), some (.ref f), y4, y5, none] ∧ But f H4 H5 ∧ H5 f = some (.lst ((numL (cS ps n) t).map V.int)))
      ⟨none, none, rfl, .refl _ _, hf4⟩ (fun _ _ _ _ _ => trivial) ?_ ?_⟩
    · rintro t x σ H5 H5' ht ⟨y4, y5, rfl, b5, e5⟩ ⟨rfl, hx⟩
      obtain ⟨c, ec⟩ : ∃ c : Nat, 1 + (t : Int) = (c : Int) := ⟨t + 1, by omega⟩
      have ect : c = t + 1 := by omega
      have cn : c < n := by omega
      have hx2 : x = .int (c : Int) := hx.trans (congrArg V.int ec)
      subst hx2
      have el5 := b5 _ _ el4 lf
      refine ⟨_, rfl, (c : Int), 1, rfl, rfl, 1, (c : Int) + 1, rfl, ⟨by decide, by decide, by omega, by omega⟩, fun L nL => lc_it walk_range (fun i H6 => Same H5' H6 ∧ H6 L = some (.lst (((List.range i).map fun j => cS ps n (j + 1) * (numL (cS ps n) t).getD (c - (j + 1)) 0).map V.int)))
        ⟨same_new nL, upd_same⟩ (fun _ _ _ _ => trivial) ?_ ?_⟩
      · rintro i x H6 H6' hi ⟨s6, eL⟩ ⟨rfl, hx⟩
        obtain ⟨q, eq⟩ : ∃ q : Nat, 1 + (i : Int) = (q : Int) := ⟨i + 1, by omega⟩
        have eqi : q = i + 1 := by omega
        have hi2 : i < c := by omega
        have hx2 : x = .int (q : Int) := hx.trans (congrArg V.int eq)
        subst hx2
        have el6 := s6 _ _ el5
        have ef6 := s6 _ _ e5
        have lt : c - q < (numL (cS ps n) t).length := by rw [numL_len]; omega
        refine ⟨rfl, lcYes ?_⟩
        refine ⟨_, rfl, _, rfl, l, _, _, _, rfl, rfl, sqL el6, atI_nat (rg_at (show q < n by omega)), _, rfl, _, rfl, _, rfl, c, q, rfl, rfl, f, _, ((c - q : Nat) : Int), _, rfl, congrArg V.int (show (c : Int) - (q : Int) = ((c - q : Nat) : Int) by omega), sqL ef6, atI_nat (ints_at (List.getElem?_eq_getElem lt)), cS ps n q, _, rfl, rfl, ?_, _, eL, okSize ?_, fun b o e => ?_, ?_⟩
        · have := row_small (t := t) vp n40 (by omega) (c - q)
          rw [getD_of (List.getElem?_eq_getElem lt)] at this
          exact wide_mul (cS_small vp n40 q) this (by decide) (by decide) (by decide)
        · rw [List.length_map, List.length_map, List.length_range]
          omega
        · rw [upd_ne (ne_of_none e nL)]
          exact s6 b o e
        · rw [upd_same, List.range_succ, List.map_append, List.map_append]
          show _ = some (HO.lst (_ ++ [V.int (cS ps n (i + 1) * (numL (cS ps n) t).getD (c - (i + 1)) 0)]))
          rw [← eqi, getD_of (List.getElem?_eq_getElem lt)]
      · rintro H6 ⟨s6, eL⟩
        have en : ((c : Int) + 1 - 1).toNat = c := by omega
        rw [en] at eL
        refine ⟨L, _, rfl, sqL eL, ?_⟩
        have ef6 := s6 _ _ e5
        refine ⟨_, rfl, .inl ⟨rfl, _, sqL ef6⟩, _, rfl, _, rfl, _, c, rfl, rfl, ⟨by omega, by omega⟩, f, _, _, rfl, rfl, ef6, okSize (by rw [List.length_map, numL_len]; omega), ?_⟩
        refine ⟨_, _, rfl, fun b o e ne => ?_, ?_⟩
        · rw [upd_ne ne]
          exact s6 b o (b5 b o e ne)
        · rw [upd_same]
          show some (HO.lst _) = some (HO.lst ((numL (cS ps n) t ++ [whole (cS ps n) (numL (cS ps n) t) (t + 1) / ((t + 1 : Nat) : Int)]).map V.int))
          rw [List.map_append, ← ect]
          rfl
    · rintro σ H5 ⟨y4, y5, rfl, b5, e5⟩
      have en : ((n : Int) - 1).toNat = n - 1 := by omega
      rw [en] at e5
      exact ⟨_, rfl, k H5 f (fun b o e => b5 _ _ (s04 b o e) (ne_of_none e nf0)) nf0 e5⟩
theorem cl_row (D : Df K mg "product_row" sProductRow ["product", "many"]) (W : Cl P w K mg base 4 "want_product" spWant) (N : Cl P w K mg base 3 "numbers_of" spNumbers) (M : Cl P w K mg base 3 "want_places" spWantPlaces) (G : Cl P w K mg base 1 "want_digits" spWantDigits) (B : Bt mg) : Cl P w K mg base 5 "product_row" spNumbers := by
  refine D.cl scProductRow (fun vs H Q E h => ?_) (fun f cdv A outer s H vs Q E hr h => ?_)
  · obtain ⟨a, ps, n, rfl, _⟩ := h
    rfl
  · obtain ⟨a, ps, n, rfl, ha, vp, n1, n40, k⟩ := h
    obtain ⟨tM, gM⟩ := B.places
    refine ⟨_, pss_cons (ps_expr (pe_cl W hr (by decide) (by rfl) (pa_cons (pv 0) pa_nil)))
      (pss_one (ps_ret (pe_cl G hr (by decide) (by rfl) (pa_cons (pe_cl N hr (by decide) (by rfl) (pa_cons (pv 0) (pa_cons (pe_cl M hr (by decide) (by rfl) (pa_cons (pv 1) (pa_cons (pe_glob (v := .int 3000) (by rfl) gM ⟨_, rfl⟩) pa_nil))) pa_nil))) pa_nil)))), ?_⟩
    refine ⟨_, rfl, a, ps, rfl, ha, vp, fun H1 s1 => ?_⟩
    refine ⟨_, rfl, _, rfl, n, 3000, rfl, by omega, by omega, a, ps, n, rfl, ha.same s1, vp, n1, n40, fun H2 l s2 nl el => ?_⟩
    exact ⟨l, _, rfl, el, rowOf_bound vp n40, k H2 l (s1.trans s2) (s1.free nl) el⟩
def oN : Option Nat → V
  | none => .non
  | some n => .int (n : Int)
def spFirst : Sp := fun vs H Q _ => ∃ (l m : Addr) (xs ys : List Int), vs = [.ref l, .ref m] ∧ H l = some (.lst (xs.map V.int)) ∧ H m = some (.lst (ys.map V.int)) ∧ xs.length = ys.length ∧ xs.length ≤ 3000 ∧ ∀ H' r, Same H H' → IsFirst xs ys r → Q (oN r) H'
theorem cl_first (D : Df K mg "first_unlike" sFirst ["row", "other"]) (R : Cl P w K mg base 2 "want_row" spWantRow) (B : Bt mg) : Cl P w K mg base 3 "first_unlike" spFirst := by
  refine D.cl scFirst (fun vs H Q E h => ?_) (fun f cdv A outer s H vs Q E hr h => ?_)
  · obtain ⟨l, m, xs, ys, rfl, _⟩ := h
    rfl
  · obtain ⟨l, m, xs, ys, rfl, hl, hm, len, few, k⟩ := h
    refine ⟨_, pss_cons (ps_expr (pe_cl R hr (by decide) (by rfl) (pa_cons (pv 0) pa_nil))) (pss_cons (ps_expr (pe_cl R hr (by decide) (by rfl) (pa_cons (pv 1) pa_nil)))
      (pss_cons (ps_for PassesOwn.never rfl (pi_enumz (by rfl) B.enumerate (by rfl) B.zip (pa_cons (pv 0) (pa_cons (pv 1) pa_nil)))
        (pg_tup rfl (pgs_cons (pg_name (i := 2) scFirst.nd rfl (.inl rfl)) (pgs_cons (pg_tup rfl (pgs_cons (pg_name (i := 3) scFirst.nd rfl (.inl rfl)) (pgs_cons (pg_name (i := 4) scFirst.nd rfl (.inl rfl)) pgs_nil))) pgs_nil)))
        (pss_one (ps_if (pt_cmpR op_ne (pv 3) (pv 4) (nomark _)) (pss_one (ps_ret (pv 2))) pss_nil)))
      (pss_one (ps_ret pe_non)))), ?_⟩
    refine ⟨_, rfl, l, xs, rfl, hl, few, fun H1 s1 => ?_⟩
    refine ⟨_, rfl, m, ys, rfl, s1 _ _ hm, by omega, fun H2 s2 => ?_⟩
    have hl2 := s2 _ _ (s1 _ _ hl)
    have hm2 := s2 _ _ (s1 _ _ hm)
    have s02 := s1.trans s2
    refine ⟨_, rfl, _, rfl, l, m, _, _, rfl, sqL hl2, sqL hm2, for_it (walk_enumz (n := xs.length) (xs := xs.map V.int) (ys := ys.map V.int) (by rw [List.length_map, List.length_map]; omega)) (fun i σ H3 => ∃ y2 y3 y4, σ = [some (.ref l), some (.ref m), y2, y3, y4] ∧ Same H2 H3 ∧ ∀ j : Nat, j < i → xs[j]? = ys[j]?)
      ⟨none, none, none, rfl, .refl _, fun j hj => absurd hj (Nat.not_lt_zero _)⟩ (fun i σ H3 _ z => ?_) ?_ ?_⟩
    · obtain ⟨_, _, _, _, s3, _⟩ := z
      exact ⟨sqL (s3 _ _ hl2), sqL (s3 _ _ hm2)⟩
    · rintro i v σ H3 H4 hi ⟨y2, y3, y4, rfl, s3, eqs⟩ ⟨T, p, x, y, rfl, np, nT, nTp, rfl, hx, hy⟩
      rw [List.getElem?_map] at hx hy
      obtain ⟨x, gx, rfl⟩ := Option.map_eq_some_iff.mp hx
      obtain ⟨y, gy, rfl⟩ := Option.map_eq_some_iff.mp hy
      have s4 : Same H3 (upd H3 p (.tup [.int x, .int y])) := same_new np
      have nT2 : (upd H3 p (.tup [.int x, .int y])) T = none := by rw [upd_ne nTp]; exact nT
      have s5 : Same (upd H3 p (.tup [.int x, .int y])) (upd (upd H3 p (.tup [.int x, .int y])) T (.tup [.int (i : Nat), .ref p])) := same_new nT2
      have ep := s5 _ _ (show (upd H3 p (.tup [.int x, .int y])) p = some _ from upd_same)
      have eT : (upd (upd H3 p (.tup [.int x, .int y])) T (.tup [.int (i : Nat), .ref p])) T = _ := upd_same
      have s25 := s3.trans (s4.trans s5)
      generalize upd (upd H3 p (.tup [.int x, .int y])) T (.tup [.int (i : Nat), .ref p]) = H5 at ep eT s25 ⊢
      refine ⟨T, _, rfl, sqT eT, rfl, _, _, rfl, _, _, rfl, ⟨p, _, rfl, sqT ep, rfl, _, _, rfl, _, _, rfl, rfl, rfl, ?_⟩⟩
      refine ⟨_, rfl, _, rfl, rfl, ?_⟩
      by_cases e : x = y
      · subst e
        refine ⟨_, rfl, iteNS rfl ⟨_, _, _, rfl, s25, fun j hj => ?_⟩⟩
        by_cases c : j = i
        · rw [c, gx, gy]
        · exact eqs j (by omega)
      · exact ⟨_, rfl, ifND (fun z => e (V.int.inj z)) ⟨_, rfl, k H5 (some i) (s02.trans s25) ⟨by rw [gx, gy]; exact fun z => e (Option.some.inj z), eqs⟩⟩⟩
    · rintro σ H3 ⟨y2, y3, y4, rfl, s3, eqs⟩
      refine k H3 none (s02.trans s3) fun i => ?_
      by_cases c : i < xs.length
      · exact eqs i c
      · rw [List.getElem?_eq_none (by omega), List.getElem?_eq_none (by omega)]
end
end K19
/-! K19H: the law's pot and draws. -/
namespace K19
open PySem PySem.Spec PyProof.Rows L2 RZ
abbrev sPot : Stmt := topS 34
abbrev sDraw : Stmt := topS 35
abbrev sPick : Stmt := topS 36
theorem scPot : FnScope ["_law_script", "_law_k", "_law_cell"] ["_law_script", "_law_k"] (defScope sPot) := ⟨rfl, rfl, rfl, by decide +kernel, rfl, by decide +kernel, by decide +kernel⟩
theorem scDraw : FnScope ["_law_pot_here", "_law_room", "_law_digit"] ["_law_pot_here", "_law_room"] (defScope sDraw) := ⟨rfl, rfl, rfl, by decide +kernel, rfl, by decide +kernel, by decide +kernel⟩
theorem scPick : FnScope ["_law_pot_here", "_law_some"] ["_law_pot_here", "_law_some"] (defScope sPick) := ⟨rfl, rfl, rfl, by decide +kernel, rfl, by decide +kernel, by decide +kernel⟩
/-- a pot: two counts, the second small -/
def PotAt (H : Hp) (p : Addr) : Prop := ∃ x y : Int, H p = some (.lst [.int x, .int y]) ∧ 0 ≤ x ∧ 0 ≤ y ∧ y < 2 ^ 40
theorem PotAt.noTup {H : Hp} {p : Addr} (h : PotAt H p) : ∀ xs, H p ≠ some (.tup xs) := fun xs e => by
  obtain ⟨_, _, z, _⟩ := h
  rw [z] at e
  cases e
theorem PotAt.same {H H' : Hp} {p : Addr} (h : PotAt H p) (s : Same H H') : PotAt H' p := by
  obtain ⟨x, y, z, r⟩ := h
  exact ⟨x, y, s _ _ z, r⟩
theorem PotAt.some {H : Hp} {p : Addr} (h : PotAt H p) : ∃ o, H p = some o := by
  obtain ⟨_, _, z, _⟩ := h
  exact ⟨_, z⟩
section
variable {P : Program} {w : World} {K : PySem.W.Frag} {mg : Str → Option Value} {base : Heap}
def spPot (K : PySem.W.Frag) : Sp := fun vs H Q _ => ∃ (a : Addr) (ns : List Int), vs = [.ref a, .int 0] ∧ SqL K H a (ns.map V.int) ∧ ∀ H' p, Same H H' → H p = none → PotAt H' p → Q (.ref p) H'
theorem cl_pot (D : Df K mg "_law_pot" sPot ["_law_script", "_law_k"]) (B : Bt mg) : Cl P w K mg base 1 "_law_pot" (spPot K) := by
  refine D.cl scPot (fun vs H Q E h => ?_) (fun f cdv A outer s H vs Q E hr h => ?_)
  · obtain ⟨a, ns, rfl, _⟩ := h
    rfl
  · obtain ⟨a, ns, rfl, ha, k⟩ := h
    refine ⟨_, pss_cons (ps_set (i := 2) scPot.nd rfl (.inl rfl) (pe_op op_add (pe_op op_mul pe_int (pv 1)) pe_int))
      (pss_cons (ps_if (pt_cmpR op_lt (pv 1) (pe_callB call_len_seq (by rfl) B.len PySem.boot_len (pa_cons (pv 0) pa_nil)) (nomark _))
        (pss_one (ps_set (i := 2) scPot.nd rfl (.inl rfl) (pe_callB call_abs (by rfl) B.abs boot_abs (pa_cons (pe_ix ix_list (pv 0) (pv 1) (fun _ _ => rfl)) pa_nil)))) pss_nil)
      (pss_one (ps_ret (pe_lst (pa_cons (pe_callB (call_max2 rfl) (by rfl) B.max boot_max (pa_cons pe_int (pa_cons (pe_op op_sub (pv 2) (pe_op op_pow pe_int pe_int)) pa_nil)))
        (pa_cons (pe_op op_add (pe_op op_mod (pe_op op_mul (pe_callTy call_int1 (by rfl) B.int boot_int (pa_cons (pe_op op_add (pe_op op_mod (pe_callTy call_int1 (by rfl) B.int boot_int (pa_cons (pv 2) pa_nil)) pe_int) pe_int) pa_nil))
          (pe_op op_pow (pe_op op_add (pe_op op_mul pe_int (pv 1)) pe_int) pe_int)) pe_int) pe_int) pa_nil)))))), ?_⟩
    refine ⟨_, rfl, 117, 0, rfl, rfl, .inl ⟨by decide, by decide⟩, _, 67, rfl, rfl, ?_⟩
    refine ⟨_, rfl, _, rfl, a, _, rfl, .inl (ha), ?_⟩
    have fin : ∀ c : Int, 0 ≤ c → ∃ x y : Int, (if c - 10 ^ Int.toNat 18 > 0 then c - 10 ^ Int.toNat 18 else 0) = x ∧ (c % 2147483549 + 67) * (2 * 0 + 3) ^ Int.toNat 3 % 2147483477 + 1 = y ∧ 0 ≤ x ∧ 0 ≤ y ∧ y < 2 ^ 40 := fun c hc => by
      refine ⟨_, _, rfl, rfl, ?_, ?_, ?_⟩
      · split <;> omega
      · have := Int.emod_nonneg ((c % 2147483549 + 67) * (2 * 0 + 3) ^ Int.toNat 3) (show (2147483477 : Int) ≠ 0 by decide)
        omega
      · have := Int.emod_lt_of_pos ((c % 2147483549 + 67) * (2 * 0 + 3) ^ Int.toNat 3) (show (0 : Int) < 2147483477 by decide)
        have e : (2 : Int) ^ 40 = 1099511627776 := by decide
        omega
    have c1 : ∀ c : Int, 0 ≤ c → CMul (c % 2147483549 + 67) ((2 * 0 + 3) ^ Int.toNat 3) := fun c hc => .inr ⟨by decide, by decide⟩
    cases ns with
    | nil =>
      refine ⟨0, _, rfl, rfl, _, rfl, ifDN (by simp) ?_⟩
      obtain ⟨x, y, ex, ey, p⟩ := fin (117 * 0 + 67) (by decide)
      refine ⟨_, rfl, 10, 18, rfl, rfl, ⟨by decide, by decide, by decide⟩, _, _, rfl, rfl, _, _, rfl, ?_⟩
      refine ⟨_, rfl, .inl ⟨_, rfl, _, 2147483549, rfl, rfl, (by show (0 : Int) < 2147483549; decide), _, 67, rfl, rfl, .inl ⟨_, rfl, ?_⟩⟩⟩
      refine ⟨_, rfl, 2, 0, rfl, rfl, .inl ⟨by decide, by decide⟩, _, 3, rfl, rfl, _, 3, rfl, rfl, ⟨by decide, by decide, by decide⟩, _, _, rfl, rfl, c1 _ (by decide), _, 2147483477, rfl, rfl, by decide, _, 1, rfl, rfl, ?_⟩
      refine ⟨by show 2 ≤ sizeLine; decide, fun q nq => k _ q (same_new nq) nq ⟨x, y, ?_, p⟩⟩
      rw [upd_same, ← ex, ← ey]
    | cons i r =>
      refine ⟨0, _, rfl, rfl, _, rfl, ifD (by rw [List.length_map, List.length_cons]; omega) ?_⟩
      refine ⟨_, rfl, _, rfl, a, _, 0, .int i, rfl, rfl, ha, atI_nat (j := 0) rfl, i, rfl, ?_⟩
      obtain ⟨c, ec, hc⟩ : ∃ c : Int, (if i < 0 then -i else i) = c ∧ 0 ≤ c := ⟨_, rfl, by split <;> omega⟩
      rw [ec]
      obtain ⟨x, y, ex, ey, p⟩ := fin c hc
      refine ⟨_, rfl, 10, 18, rfl, rfl, ⟨by decide, by decide, by decide⟩, _, _, rfl, rfl, _, _, rfl, ?_⟩
      refine ⟨_, rfl, .inl ⟨_, rfl, _, 2147483549, rfl, rfl, (by show (0 : Int) < 2147483549; decide), _, 67, rfl, rfl, .inl ⟨_, rfl, ?_⟩⟩⟩
      refine ⟨_, rfl, 2, 0, rfl, rfl, .inl ⟨by decide, by decide⟩, _, 3, rfl, rfl, _, 3, rfl, rfl, ⟨by decide, by decide, by decide⟩, _, _, rfl, rfl, c1 _ hc, _, 2147483477, rfl, rfl, (by show (0 : Int) < 2147483477; decide), _, 1, rfl, rfl, ?_⟩
      refine ⟨by show 2 ≤ sizeLine; decide, fun q nq => k _ q (same_new nq) nq ⟨x, y, ?_, p⟩⟩
      rw [upd_same, ← ex, ← ey]
def spDraw : Sp := fun vs H Q _ => ∃ (p : Addr) (r : Int), vs = [.ref p, .int r] ∧ PotAt H p ∧ 1 ≤ r ∧ r < 1073741824 ∧ ∀ H' d, But p H H' → PotAt H' p → 0 ≤ d → d < r → Q (.int d) H'
theorem cl_draw (D : Df K mg "_law_draw" sDraw ["_law_pot_here", "_law_room"]) (B : Bt mg) : Cl P w K mg base 1 "_law_draw" spDraw := by
  refine D.cl scDraw (fun vs H Q E h => ?_) (fun f cdv A outer s H vs Q E hr h => ?_)
  · obtain ⟨p, r, rfl, _⟩ := h
    rfl
  · obtain ⟨p, r, rfl, ⟨x, y, hp, x0, y0, y40⟩, r1, r2, k⟩ := h
    refine ⟨_, pss_cons (ps_if (pt_cmpR op_gt (pe_ix ix_list (pv 0) pe_int (fun _ _ => rfl)) pe_int (nomark _))
        (pss_cons (ps_asg (pe_callB call_divmod (by rfl) B.divmod boot_divmod (pa_cons (pe_ix ix_list (pv 0) pe_int (fun _ _ => rfl)) (pa_cons (pv 1) pa_nil)))
            (pg_tup rfl (pgs_cons (pg_sub (pv 0) pe_int set_list) (pgs_cons (pg_name (i := 2) scDraw.nd rfl (.inl rfl)) pgs_nil))))
          (pss_one (ps_ret (pv 2)))) pss_nil)
      (pss_cons (ps_asg (pe_op op_mod (pe_callTy call_int1 (by rfl) B.int boot_int (pa_cons (pe_op op_add (pe_op op_mul (pe_ix ix_list (pv 0) pe_int (fun _ _ => rfl)) pe_int) pe_int) pa_nil)) pe_int) (pg_sub (pv 0) pe_int set_list))
      (pss_one (ps_ret (pe_op op_mod (pe_callTy call_int1 (by rfl) B.int boot_int (pa_cons (pe_op op_fdiv (pe_op op_mod (pe_callTy call_int1 (by rfl) B.int boot_int (pa_cons (pe_op op_mul (pe_ix ix_list (pv 0) pe_int (fun _ _ => rfl)) (pe_ix ix_list (pv 0) pe_int (fun _ _ => rfl))) pa_nil)) pe_int) pe_int) pa_nil)) (pv 1))))), ?_⟩
    refine ⟨_, rfl, p, _, 0, .int x, rfl, rfl, sqL hp, rfl, x, 0, rfl, rfl, _, rfl, ?_⟩
    by_cases hx : 0 < x
    · refine ifD hx ?_
      refine ⟨_, rfl, p, _, 0, .int x, rfl, rfl, sqL hp, rfl, _, rfl, x, r, rfl, ⟨by omega, r2⟩, fun t nt => ?_⟩
      have up : Same H (upd H t (.tup [.int (x / r), .int (x % r)])) := same_new nt
      refine ⟨t, _, rfl, sqT upd_same, rfl, _, _, rfl, _, rfl, p, _, 0, 0, rfl, rfl, up _ _ hp, rfl, _, _, rfl, rfl, _, rfl, ?_⟩
      refine k _ _ (But.upd (.of up)) ⟨x / r, y, upd_same, Int.ediv_nonneg x0 (by omega), y0, y40⟩ (Int.emod_nonneg _ (by omega)) (Int.emod_lt_of_pos _ (by omega))
    · refine ifDN hx ?_
      refine ⟨_, rfl, p, _, 1, .int y, rfl, rfl, sqL hp, rfl, _, 48271, rfl, rfl, .inr ⟨by decide, by decide⟩, _, 18130, rfl, rfl, .inl ⟨_, rfl, _, 2147483587, rfl, rfl, (by show (0 : Int) < 2147483587; decide), ?_⟩⟩
      obtain ⟨z, ez, z0, z1⟩ : ∃ z : Int, (y * 48271 + 18130) % 2147483587 = z ∧ 0 ≤ z ∧ z < 2147483587 := ⟨_, rfl, Int.emod_nonneg _ (by decide), Int.emod_lt_of_pos _ (by decide)⟩
      refine ⟨_, rfl, p, _, 1, 1, rfl, rfl, hp, rfl, ?_⟩
      have e2 : (2 : Int) ^ 40 = 1099511627776 := by decide
      have e3 : (upd H p (.lst [.int x, .int z])) p = some (.lst [.int x, .int z]) := upd_same
      have b3 : But p H (upd H p (.lst [.int x, .int z])) := But.upd (.refl _ _)
      show _
      have e4 : List.set [V.int x, V.int y] 1 (V.int ((y * 48271 + 18130) % 2147483587)) = [V.int x, V.int z] := by
        rw [← ez]
        rfl
      rw [e4]
      generalize upd H p (.lst [.int x, .int z]) = H3 at e3 b3 ⊢
      refine ⟨_, rfl, p, _, 1, .int z, rfl, rfl, sqL e3, rfl, _, rfl, p, _, 1, .int z, rfl, rfl, sqL e3, rfl, z, z, rfl, rfl, .inl ⟨by omega, by omega⟩, .inl ⟨_, rfl, _, 2147483549, rfl, rfl, (by show (0 : Int) < 2147483549; decide), _, 97, rfl, rfl, ⟨by decide, by decide⟩, .inl ⟨_, rfl, _, rfl, _, r, rfl, rfl, by omega, ?_⟩⟩⟩
      exact k _ _ b3 ⟨x, z, e3, x0, z0, by omega⟩ (Int.emod_nonneg _ (by omega)) (Int.emod_lt_of_pos _ (by omega))
def spPick : Sp := fun vs H Q _ => ∃ (p l : Addr) (xs : List Int), vs = [.ref p, .ref l] ∧ PotAt H p ∧ H l = some (.lst (xs.map V.int)) ∧ l ≠ p ∧ 1 ≤ xs.length ∧ xs.length ≤ 1000 ∧ ∀ H' x, But p H H' → PotAt H' p → x ∈ xs → Q (.int x) H'
theorem cl_pick (D : Df K mg "_law_pick" sPick ["_law_pot_here", "_law_some"]) (W : Cl P w K mg base 1 "_law_draw" spDraw) (B : Bt mg) : Cl P w K mg base 2 "_law_pick" spPick := by
  refine D.cl scPick (fun vs H Q E h => ?_) (fun f cdv A outer s H vs Q E hr h => ?_)
  · obtain ⟨p, l, xs, rfl, _⟩ := h
    rfl
  · obtain ⟨p, l, xs, rfl, hp, hl, ne, l1, l2, k⟩ := h
    refine ⟨_, pss_one (ps_ret (pe_ix ix_list (pv 1) (pe_cl W hr (by decide) (by rfl) (pa_cons (pv 0) (pa_cons (pe_callB call_len_seq (by rfl) B.len PySem.boot_len (pa_cons (pv 1) pa_nil)) pa_nil))) (fun _ _ => rfl))), ?_⟩
    refine ⟨_, rfl, _, rfl, _, rfl, l, _, rfl, .inl (sqL hl), p, (xs.length : Int), ?_, hp, by omega, by omega, fun H1 d b1 hp1 d0 d1 => ?_⟩
    · rw [List.length_map]
      rfl
    obtain ⟨j, rfl⟩ : ∃ j : Nat, d = (j : Int) := ⟨d.toNat, by omega⟩
    have lt : j < xs.length := by omega
    exact ⟨l, _, (j : Int), _, rfl, rfl, sqL (b1 _ _ hl ne), atI_nat (ints_at (List.getElem?_eq_getElem lt)), k H1 _ b1 hp1 (List.getElem_mem lt)⟩
end
end K19
/-! K19I: the law's own rows. -/
set_option exponentiation.threshold 4000
namespace K19
open PySem PySem.Spec PyProof.Rows L2 RZ
abbrev sFactor : Stmt := topS 37
abbrev sRow : Stmt := topS 38
abbrev nFactor : List Str := ["_law_row_here", "_law_place", "_law_power", "_law_found", "_law_numbers", "_law_late", "_law_at", "_law_some", "_law_back", "_law_number"]
theorem scFactor : FnScope nFactor ["_law_row_here", "_law_place", "_law_power"] (defScope sFactor) := ⟨rfl, rfl, rfl, by decide +kernel, rfl, by decide +kernel, by decide +kernel⟩
abbrev nRow : List Str := ["_law_powers_here", "_law_many", "_law_found", "_law_step", "_law_power", "_law_place"]
theorem scRow : FnScope nRow ["_law_powers_here", "_law_many"] (defScope sRow) := ⟨rfl, rfl, rfl, by decide +kernel, rfl, by decide +kernel, by decide +kernel⟩
theorem cut_rg {n k : Nat} {f : Nat → Int} (h : k ≤ n) : cutV (rg n f) none (some (k : Int)) = rg k f := by
  unfold cutV
  rw [HT.sIx_none, HT.sIx_nat, rg_len, Nat.min_eq_left h, List.drop_zero, Nat.sub_zero]
  unfold rg
  rw [← List.map_take, List.take_range, Nat.min_eq_left h]
theorem div_lt {t place j : Nat} (h0 : 1 ≤ place) (h : t < (j + 1) * place) : t / place + 1 ≤ j + 1 := by
  have : t / place < j + 1 := (Nat.div_lt_iff_lt_mul (by omega)).mpr h
  omega
section
variable {P : Program} {w : World} {K : PySem.W.Frag} {mg : Str → Option Value} {base : Heap}
def spFactor : Sp := fun vs H Q _ => ∃ (l : Addr) (row : List Int) (place : Nat) (p : Int) (e : Nat), vs = [.ref l, .int place, .int p] ∧ H l = some (.lst (row.map V.int)) ∧ 1 ≤ place ∧ place ≤ 64 ∧ row.length ≤ 64 ∧ -60 ≤ p ∧ p ≤ 60 ∧ RB e row ∧ e ≤ 900000 ∧
  ∀ H' m, Same H H' → H m = none → H' m = some (.lst ((bf row place p).map V.int)) → Q (.ref m) H'
theorem cl_factor (D : Df K mg "_law_by_factor" sFactor ["_law_row_here", "_law_place", "_law_power"]) (B : Bt mg) : Cl P w K mg base 1 "_law_by_factor" spFactor := by
  refine D.cl scFactor (fun vs H Q E h => ?_) (fun fa cdv A outer s H vs Q E hr h => ?_)
  · obtain ⟨l, row, place, p, e, rfl, _⟩ := h
    rfl
  · obtain ⟨l, row, place, p, e, rfl, hl, pl1, pl2, len, p1, p2, rb, eb, k⟩ := h
    refine ⟨_, pss_cons (ps_par3 (i := 3) (j := 4) (l := 5) rfl scFactor.nd rfl rfl rfl (by decide) (by decide) (by decide) rfl rfl rfl
        (pa_cons (pe_lst pa_nil) (pa_cons (pe_lst (pa_cons pe_int pa_nil)) (pa_cons pe_int pa_nil))) (by rfl))
      (pss_cons (ps_while PassesOwn.never (pt_cmpR op_lt (pe_op op_mul (pe_callB call_len_seq (by rfl) B.len PySem.boot_len (pa_cons (pv 4) pa_nil)) (pv 1)) (pe_callB call_len_seq (by rfl) B.len PySem.boot_len (pa_cons (pv 0) pa_nil)) (nomark _))
        (pss_cons (ps_set (i := 5) scFactor.nd rfl (.inl rfl) (pe_op op_fdiv (pe_op op_mulW (pv 5) (pe_op op_sub (pe_op op_sub (pe_callB call_len_seq (by rfl) B.len PySem.boot_len (pa_cons (pv 4) pa_nil)) pe_int) (pv 2))) (pe_callB call_len_seq (by rfl) B.len PySem.boot_len (pa_cons (pv 4) pa_nil))))
        (pss_one (ps_expr (pe_bm PySem.F.plainAttrs_list PySem.F.slot_list_append PySem.F.type_list_append mt_append (pv 4) (pa_cons (pv 5) pa_nil))))))
      (pss_cons (ps_for PassesOwn.never rfl (pi_range1 (by rfl) B.range (pa_cons (pe_callB call_len_seq (by rfl) B.len PySem.boot_len (pa_cons (pv 0) pa_nil)) pa_nil)) (pg_name (i := 6) scFactor.nd rfl (.inr rfl))
        (pss_cons (ps_set (i := 7) scFactor.nd rfl (.inl rfl) (pe_slice sl_list (pv 4) po_none (po_some (pe_op op_add (pe_op op_fdiv (pv 6) (pv 1)) pe_int))))
        (pss_one (ps_expr (pe_bm PySem.F.plainAttrs_list PySem.F.slot_list_append PySem.F.type_list_append mt_append (pv 3) (pa_cons (pe_callB (cr_sum rfl) (by rfl) B.sum boot_sum (pa_cons
          (pe_lc (own := [("_law_back", 8), ("_law_number", 9)]) (g := gTup K 2 (gCons (gName 8) (gCons (gName 9) gNil))) (tt := tYes)
            (te := tOp (rI CMulW fun i j => .int (i * j)) (tVar 9) (tOp (rIxL K) (tVar 0) (tOp (rI0 fun i j => .int (i - j)) (tVar 6) (tOp (rI CMul fun i j => .int (i * j)) (tVar 8) (tVar 1))))) (by rfl) scFactor.nd
            (pi_enum (by rfl) B.enumerate (pa_cons (pv 7) pa_nil)) (blkOk_by (own := [("_law_back", 8), ("_law_number", 9)]) (N := nFactor) (sc := defScope sFactor) (by decide +kernel))
            (fun _ _ _ _ _ => pg_tup rfl (pgs_cons (pg_name (i := 8) scFactor.nd rfl (.inl rfl)) (pgs_cons (pg_name (i := 9) scFactor.nd rfl (.inl rfl)) pgs_nil))) (fun _ _ _ _ _ => pts_nil)
            (fun _ _ _ _ _ => pe_op op_mulW (pv 9) (pe_ix ix_list (pv 0) (pe_op op_sub (pv 6) (pe_op op_mul (pv 8) (pv 1))) (fun _ _ => rfl)))) pa_nil)) pa_nil))))))
      (pss_one (ps_ret (pv 3))))), ?_⟩
    refine ⟨by show 0 ≤ sizeLine; exact Nat.zero_le _, fun f nf => ⟨by show 1 ≤ sizeLine; decide, fun nu nnu => ⟨_, _, _, rfl, ?_⟩⟩⟩
    have s1 : Same H (upd H f (.lst [])) := same_new nf
    have hf1 : (upd H f (.lst [])) f = some (.lst []) := upd_same
    generalize upd H f (.lst []) = H1 at s1 hf1 nnu ⊢
    have s2 : Same H1 (upd H1 nu (.lst [.int 1])) := same_new nnu
    have hn2 : (upd H1 nu (.lst [.int 1])) nu = some (.lst [.int 1]) := upd_same
    have fnu : f ≠ nu := ne_of_none hf1 nnu
    have nnu0 : H nu = none := s1.free nnu
    generalize upd H1 nu (.lst [.int 1]) = H3 at s2 hn2 ⊢
    have s03 := s1.trans s2
    have hf3 := s2 _ _ hf1
    have hn3 := hn2
    have hl3 := s03 _ _ hl
    have lnu : l ≠ nu := ne_of_none hl nnu0
    have lf : l ≠ f := ne_of_none hl nf
    obtain ⟨St, hSt⟩ : ∃ St : Nat → L2.St → Hp → Prop, ∀ j σ H', St j σ H' ↔ σ = [some (.ref l), some (.int place), some (.int p), some (.ref f), some (.ref nu), some (.int (num p j)), none, none, none, none] ∧ But nu H3 H' ∧ H' nu = some (.lst (rg (j + 1) (num p))) ∧ (j = 0 ∨ j * place < row.length) := ⟨_, fun _ _ _ => Iff.rfl⟩
    refine ⟨fun m σ H' => ∃ j, m = 65 - j ∧ St j σ H', ⟨65, 0, rfl, (hSt _ _ _).mpr ⟨rfl, .refl _ _, hn3, .inl rfl⟩⟩, ?_⟩
    rintro m σ H4 ⟨j, rfl, st⟩
    obtain ⟨rfl, b4, e4, jl⟩ := (hSt _ _ _).mp st
    have j64 : j ≤ 63 := by
      rcases jl with z | z
      · omega
      · have : j * 1 ≤ j * place := Nat.mul_le_mul_left j pl1
        omega
    have hl4 := b4 _ _ hl3 lnu
    refine ⟨_, rfl, nu, _, rfl, .inl (sqL e4), _, rfl, _, (place : Int), rfl, rfl, .inr ⟨by omega, by omega⟩, _, rfl, l, _, rfl, .inl (sqL hl4), _, _, rfl, rfl, _, rfl, ?_⟩
    rw [rg_len, List.length_map]
    have cast : (((j + 1 : Nat) : Int) * (place : Int) < (row.length : Int)) ↔ (j + 1) * place < row.length := by
      rw [← Int.natCast_mul]
      omega
    by_cases lt : (j + 1) * place < row.length
    · refine ifD (cast.mpr lt) ⟨fun σ' H' => St (j + 1) σ' H', fun σ' H' z => ⟨65 - (j + 1), by omega, j + 1, rfl, z⟩, ?_⟩
      refine ⟨_, rfl, _, rfl, nu, _, rfl, .inl (sqL e4), _, 1, rfl, rfl, _, rfl, _, p, rfl, rfl, _, _, rfl, rfl, ?_, _, rfl, nu, _, rfl, .inl (sqL e4), _, ((j + 1 : Nat) : Int), rfl, congrArg (fun n : Nat => V.int (n : Int)) (rg_len _ _), ⟨by omega, by omega⟩, ?_⟩
      · rw [rg_len]
        exact wide_mul (num_bits p1 p2 (j := j) (by omega)) (show (((j + 1 : Nat) : Int) - 1 - p).natAbs < 2 ^ 8 by omega) (by omega) (by decide) (by omega)
      refine ⟨_, rfl, .inl ⟨rfl, _, sqL e4⟩, _, rfl, nu, _, _, rfl, rfl, e4, okSize (by rw [rg_len]; omega), ?_⟩
      have en : num p j * (((rg (j + 1) (num p)).length : Int) - 1 - p) / ((j + 1 : Nat) : Int) = num p (j + 1) := by
        show _ = num p j * ((j : Int) - p) / ((j + 1 : Nat) : Int)
        rw [rg_len, show ((j + 1 : Nat) : Int) - 1 - p = (j : Int) - p by omega]
      refine (hSt _ _ _).mpr ⟨?_, b4.upd, ?_, .inr lt⟩
      · show ([some (V.ref l), some (.int place), some (.int p), some (.ref f), some (.ref nu), some (.int (num p j * (((rg (j + 1) (num p)).length : Int) - 1 - p) / ((j + 1 : Nat) : Int))), none, none, none, none] : L2.St) = _
        rw [en]
      · rw [upd_same]
        show some (HO.lst (rg (j + 1) (num p) ++ [V.int (num p j * (((rg (j + 1) (num p)).length : Int) - 1 - p) / ((j + 1 : Nat) : Int))])) = some (HO.lst (rg (j + 1 + 1) (num p)))
        rw [en]
        unfold rg
        rw [List.range_succ (n := j + 1), List.map_append]
        rfl
    · refine ifDN (fun z => lt (cast.mp z)) ?_
      have hf4 := b4 _ _ hf3 fnu
      refine ⟨_, rfl, l, _, rfl, .inl (sqL hl4), (row.length : Int), by rw [List.length_map], by omega, by omega, for_it walk_range (fun t σ H' => ∃ y6 y7, σ = [some (.ref l), some (.int place), some (.int p), some (.ref f), some (.ref nu), some (.int (num p j)), y6, y7, none, none] ∧ But f H4 H' ∧ H' f = some (.lst (rg t fun t => ((List.range (t / place + 1)).map fun b => num p b * row.getD (t - b * place) 0).sum)))
        ⟨none, none, rfl, .refl _ _, hf4⟩ (fun _ _ _ _ _ => trivial) ?_ ?_⟩
      · rintro t x σ H5 H5' ht ⟨y6, y7, rfl, b5, e5⟩ ⟨rfl, hx⟩
        have hx2 : x = .int (t : Int) := hx.trans (congrArg V.int (Int.zero_add _))
        subst hx2
        have tl : t < row.length := by omega
        have le : t / place + 1 ≤ j + 1 := div_lt pl1 (by omega)
        refine ⟨_, rfl, _, rfl, _, rfl, (t : Int), (place : Int), rfl, rfl, ⟨by omega, by omega⟩, _, 1, rfl, rfl, ((t / place + 1 : Nat) : Int), rfl, nu, _, rfl, sqL (b5 _ _ e4 fnu.symm), fun so nso => ?_⟩
        rw [cut_rg le]
        have s6 : Same H5' (upd H5' so (.lst (rg (t / place + 1) (num p)))) := same_new nso
        have hso : (upd H5' so (.lst (rg (t / place + 1) (num p)))) so = some (.lst (rg (t / place + 1) (num p))) := upd_same
        have fso : f ≠ so := ne_of_none e5 nso
        generalize upd H5' so (.lst (rg (t / place + 1) (num p))) = H6 at s6 hso ⊢
        have hl6 := s6 _ _ (b5 _ _ hl4 lf)
        refine ⟨_, rfl, .inl ⟨rfl, _, sqL (s6 _ _ e5)⟩, _, rfl, so, _, rfl, sqL hso, fun L nL => lc_it (walk_enum (xs := rg (t / place + 1) (num p))) (fun i H7 => Same H6 H7 ∧ H7 L = some (.lst (rg i fun b => num p b * row.getD (t - b * place) 0)))
          ⟨same_new nL, upd_same⟩ (fun i H7 _ z => sqL (z.1 _ _ hso)) ?_ ?_⟩
        · rintro i x H7 H8 hi ⟨s7, eL⟩ ⟨T, x1, x2, rfl, nT, rfl, hx1, hx2⟩
          rw [rg_len] at hi
          have hx2 : (rg (t / place + 1) (num p))[i]? = some x2 := hx2
          rw [rg_at hi] at hx2
          cases hx2
          cases (Option.some.inj hx1 : V.int (i : Nat) = x1)
          have up : Same H7 (upd H7 T (.tup [.int (i : Nat), .int (num p i)])) := same_new nT
          have hT : (upd H7 T (.tup [.int (i : Nat), .int (num p i)])) T = _ := upd_same
          generalize upd H7 T (.tup [.int (i : Nat), .int (num p i)]) = H8 at up hT ⊢
          have il : i * place ≤ t := Nat.le_trans (Nat.mul_le_mul_right place (show i ≤ t / place by omega)) (Nat.div_mul_le_self t place)
          have tlt : t - i * place < row.length := by omega
          have rw1 : row.getD (t - i * place) 0 = row[t - i * place] := getD_of (List.getElem?_eq_getElem tlt)
          refine ⟨T, _, rfl, sqT hT, rfl, _, _, rfl, _, _, rfl, rfl, rfl, lcYes ?_⟩
          refine ⟨_, rfl, _, rfl, _, rfl, _, rfl, _, rfl, (i : Int), (place : Int), rfl, rfl, .inr ⟨by omega, by omega⟩, (t : Int), _, rfl, rfl, l, _, ((t - i * place : Nat) : Int), _, rfl, congrArg V.int (show (t : Int) - (i : Int) * (place : Int) = ((t - i * place : Nat) : Int) by rw [← Int.natCast_mul]; omega), sqL (up _ _ (s7 _ _ hl6)), atI_nat (ints_at (List.getElem?_eq_getElem tlt)), num p i, _, rfl, rfl, ?_, _, up _ _ eL, okSize ?_, fun b o q => ?_, ?_⟩
          · refine wide_mul (num_bits p1 p2 (j := i) (by omega)) (b := e + 1) (Nat.lt_of_lt_of_le (rb _ (List.getElem_mem tlt)) (Nat.pow_le_pow_right (by decide) (by omega))) (by omega) (by omega) (by omega)
          · rw [rg_len]
            omega
          · rw [upd_ne (ne_of_none q nL)]
            exact up _ _ (s7 b o q)
          · rw [upd_same]
            show some (HO.lst (rg i _ ++ [V.int (num p i * row[t - i * place])])) = _
            rw [← rw1]
            unfold rg
            rw [List.range_succ, List.map_append]
            rfl
        · rintro H7 ⟨s7, eL⟩
          rw [rg_len] at eL
          refine ⟨L, (List.range (t / place + 1)).map fun b => num p b * row.getD (t - b * place) 0, rfl, sqL (eL.trans ?_), ?_⟩
          · unfold rg
            rw [List.map_map]
            rfl
          have e7 := s7 _ _ (s6 _ _ e5)
          refine ⟨f, _, _, rfl, rfl, e7, okSize (by rw [rg_len]; omega), ⟨_, _, rfl, ?_, ?_⟩⟩
          · refine fun b o q ne => ?_
            rw [upd_ne ne]
            exact s7 _ _ (s6 _ _ (b5 b o q ne))
          · rw [upd_same]
            unfold rg
            rw [List.range_succ (n := t), List.map_append]
            rfl
      · rintro σ H5 ⟨y6, y7, rfl, b5, e5⟩
        have e6 : ((row.length : Int)).toNat = row.length := Int.toNat_natCast _
        rw [e6] at e5
        refine ⟨_, rfl, k H5 f (fun b o q => ?_) nf (e5.trans ?_)⟩
        · exact b5 _ _ (b4 _ _ (s03 b o q) (ne_of_none q nnu0)) (ne_of_none q nf)
        · unfold rg bf
          rw [List.map_map]
          rfl
end
end K19
/-! K19J: the law's row of a product. -/
set_option exponentiation.threshold 4000
namespace K19
open PySem PySem.Spec PyProof.Rows L2 RZ
theorem foldRow_app (many : Nat) (ps : Pows) (x : Int × Int) (r : List Int) : (ps ++ [x]).foldl (fun r x => rowIt r x.1 x.2 (cnt x.1 many)) r = rowIt (ps.foldl (fun r x => rowIt r x.1 x.2 (cnt x.1 many)) r) x.1 x.2 (cnt x.1 many) := by
  rw [List.foldl_append]
  rfl
section
variable {P : Program} {w : World} {K : PySem.W.Frag} {mg : Str → Option Value} {base : Heap}
def spRow : Sp := fun vs H Q _ => ∃ (t : Addr) (ps : Pows) (many : Nat), vs = [.ref t, .int many] ∧ PwAt H t ps ∧ Valid 60 ps ∧ many ≤ 60 ∧ ∀ H' m, Same H H' → H m = none → H' m = some (.lst ((lawRow many ps).map V.int)) → Q (.ref m) H'
theorem cl_lawRow (D : Df K mg "_law_row" sRow ["_law_powers_here", "_law_many"]) (F : Cl P w K mg base 1 "_law_by_factor" spFactor) (B : Bt mg) : Cl P w K mg base 2 "_law_row" spRow := by
  refine D.cl scRow (fun vs H Q E h => ?_) (fun fa cdv A outer s H vs Q E hr h => ?_)
  · obtain ⟨t, ps, many, rfl, _⟩ := h
    rfl
  · obtain ⟨t, ps, many, rfl, ⟨qs, ht, hp⟩, vp, n60, k⟩ := h
    refine ⟨_, pss_cons (ps_set (i := 2) scRow.nd rfl (.inl rfl) (pe_op op_cat (pe_lst (pa_cons pe_int pa_nil)) (pe_op op_rep (pe_lst (pa_cons pe_int pa_nil)) (pv 1))))
      (pss_cons (ps_set (i := 2) scRow.nd rfl (.inl rfl) (pe_slice sl_list (pv 2) po_none (po_some (pv 1))))
      (pss_cons (ps_for PassesOwn.never rfl (pi_tup (pv 0)) (pg_tup rfl (pgs_cons (pg_name (i := 3) scRow.nd rfl (.inl rfl)) (pgs_cons (pg_name (i := 4) scRow.nd rfl (.inl rfl)) pgs_nil)))
        (pss_one (ps_for PassesOwn.never rfl (pi_range3 (by rfl) B.range (pa_cons (pv 3) (pa_cons (pv 1) (pa_cons (pv 3) pa_nil)))) (pg_name (i := 5) scRow.nd rfl (.inl rfl))
          (pss_one (ps_set (i := 2) scRow.nd rfl (.inl rfl) (pe_cl F hr (by decide) (by rfl) (pa_cons (pv 2) (pa_cons (pv 5) (pa_cons (pv 4) pa_nil)))))))))
      (pss_one (ps_ret (pv 2))))), ?_⟩
    refine ⟨by show 1 ≤ sizeLine; decide, fun a1 na1 => ⟨by show 1 ≤ sizeLine; decide, fun a2 na2 => ⟨_, rfl, a2, (many : Int), _, rfl, rfl, upd_same, by omega, by omega, Nat.le_of_lt (okSize (by simp; omega)), fun a3 na3 => ?_⟩⟩⟩
    have e0 : (List.replicate (many : Int).toNat [V.int 0]).flatten = (List.replicate many (0 : Int)).map V.int := by
      rw [Int.toNat_natCast, List.map_replicate]
      show (List.replicate many (List.replicate 1 (V.int 0))).flatten = _
      rw [List.flatten_replicate_replicate, Nat.mul_one]
    rw [e0]
    have s1 : Same H (upd H a1 (.lst [.int 1])) := same_new na1
    have h1 : (upd H a1 (.lst [.int 1])) a1 = some (.lst [.int 1]) := upd_same
    generalize upd H a1 (.lst [.int 1]) = H1 at s1 h1 na2 na3 ⊢
    have s2 : Same H1 (upd H1 a2 (.lst [.int 0])) := same_new na2
    generalize upd H1 a2 (.lst [.int 0]) = H2 at s2 na3 ⊢
    have s3 : Same H2 (upd H2 a3 (.lst ((List.replicate many (0 : Int)).map V.int))) := same_new na3
    have h3 : (upd H2 a3 (.lst ((List.replicate many (0 : Int)).map V.int))) a3 = some (.lst ((List.replicate many (0 : Int)).map V.int)) := upd_same
    generalize upd H2 a3 (.lst ((List.replicate many (0 : Int)).map V.int)) = H3 at s3 h3 ⊢
    refine ⟨a1, a3, _, _, rfl, rfl, s3 _ _ (s2 _ _ h1), h3, Nat.le_of_lt (okSize (by simp; omega)), fun a4 na4 => ?_⟩
    have s4 : Same H3 (upd H3 a4 (.lst ([V.int 1] ++ (List.replicate many (0 : Int)).map V.int))) := same_new na4
    have h4 : (upd H3 a4 (.lst ([V.int 1] ++ (List.replicate many (0 : Int)).map V.int))) a4 = some (.lst ((1 :: List.replicate many (0 : Int)).map V.int)) := upd_same
    generalize upd H3 a4 (.lst ([V.int 1] ++ (List.replicate many (0 : Int)).map V.int)) = H4 at s4 h4 ⊢
    refine ⟨_, rfl, _, rfl, (many : Int), rfl, a4, _, rfl, sqL h4, fun a5 na5 => ?_⟩
    have ec : cutV ((1 :: List.replicate many (0 : Int)).map V.int) none (some (many : Int)) = (rowInit many).map V.int := by
      unfold cutV rowInit
      rw [HT.sIx_none, HT.sIx_nat, List.length_map, List.length_cons, List.length_replicate, Nat.min_eq_left (by omega), List.drop_zero, Nat.sub_zero, List.map_take]
    rw [ec]
    have s5 : Same H4 (upd H4 a5 (.lst ((rowInit many).map V.int))) := same_new na5
    have h5 : (upd H4 a5 (.lst ((rowInit many).map V.int))) a5 = some (.lst ((rowInit many).map V.int)) := upd_same
    have s04 := s1.trans (s2.trans (s3.trans s4))
    have n5 : H a5 = none := s04.free na5
    have s05 := s04.trans s5
    generalize upd H4 a5 (.lst ((rowInit many).map V.int)) = H5 at h5 s05 ⊢
    have ht5 := s05 _ _ ht
    have lq : qs.length = ps.length := paired_len hp
    refine ⟨_, rfl, t, rfl, ⟨_, sqT ht5⟩, for_it (walk_tup (xs := qs.map V.ref)) (fun i σ H6 => ∃ (l : Addr) (row : List Int) (y3 y4 y5 : Option V), σ = [some (.ref t), some (.int many), some (.ref l), y3, y4, y5] ∧ Same H H6 ∧ H l = none ∧ H6 l = some (.lst (row.map V.int)) ∧
        row = (ps.take i).foldl (fun r x => rowIt r x.1 x.2 (cnt x.1 many)) (rowInit many) ∧ RB (1 + 28000 * i) row ∧ row.length = many)
      ⟨a5, rowInit many, none, none, none, rfl, s05, n5, h5, rfl, rowInit_bits many, rowInit_len many⟩ (fun i σ H6 _ z => ?_) ?_ ?_⟩
    · obtain ⟨_, _, _, _, _, _, s6, _⟩ := z
      exact sqT (s6 _ _ ht)
    · rintro i x σ H6 H7 hi ⟨l, row, y3, y4, y5, rfl, s6, nl, el, erow, rb, rl⟩ ⟨rfl, hx⟩
      rw [List.getElem?_map] at hx
      obtain ⟨q, hq, rfl⟩ := Option.map_eq_some_iff.mp hx
      obtain ⟨⟨st, pw⟩, hkv, hqq⟩ := paired_at hp hq
      have hqq : H q = some (.tup [.int st, .int pw]) := hqq
      have bd := vp.bnd _ (List.mem_of_getElem? hkv)
      have st1 : 1 ≤ st := bd.1
      have i12 : i < 12 := by
        have := (List.getElem?_eq_some_iff.mp hkv).1
        have := vp.len
        omega
      refine ⟨q, _, rfl, sqT (s6 _ _ hqq), rfl, _, _, rfl, _, _, rfl, rfl, ?_⟩
      refine ⟨_, rfl, _, rfl, _, rfl, st, many, st, cnt st many, rfl, rgC st1 bd.2.1 (by omega), for_it walk_rangeC (fun j σ H8 => ∃ (m : Addr) (y5 : Option V), σ = [some (.ref t), some (.int many), some (.ref m), some (.int st), some (.int pw), y5] ∧ Same H H8 ∧ H m = none ∧ H8 m = some (.lst ((rowIt row st pw j).map V.int)))
        ⟨l, y5, rfl, s6, nl, el⟩ (fun _ _ _ _ _ => trivial) ?_ ?_⟩
      · rintro j x σ H8 H9 hj ⟨m, y5, rfl, s8, nm, em⟩ ⟨rfl, rfl⟩
        have lt := cnt_lt st1 hj
        have j0 : 0 ≤ (j : Int) * st := Int.mul_nonneg (by omega) (by omega)
        have jc : j ≤ 60 := by
          have := cnt_le (many := many) st1
          omega
        obtain ⟨c, ec⟩ : ∃ c : Nat, st + (j : Int) * st = (c : Int) := ⟨(st + (j : Int) * st).toNat, by omega⟩
        refine ⟨_, rfl, _, rfl, _, rfl, m, rowIt row st pw j, c, pw, 1 + 28000 * i + 456 * j, ?_, em, by omega, by omega, by rw [rowIt_len]; omega, bd.2.2.2.1, bd.2.2.2.2, rowIt_bits rb (by omega) bd.2.2.2.1 bd.2.2.2.2 j, by omega, fun H10 m2 s10 nm2 em2 => ?_⟩
        · exact congrArg (fun z : Int => [V.ref m, V.int z, V.int pw]) ec
        · refine ⟨m2, _, rfl, s8.trans s10, s8.free nm2, em2.trans ?_⟩
          show _ = some (HO.lst ((bf (rowIt row st pw j) (st + (j : Int) * st).toNat pw).map V.int))
          rw [ec, Int.toNat_natCast]
      · rintro σ H8 ⟨m, y5, rfl, s8, nm, em⟩
        have cl := cnt_le (many := many) st1
        refine ⟨m, rowIt row st pw (cnt st many), _, _, _, rfl, s8, nm, em, ?_, (rowIt_bits rb (by omega) bd.2.2.2.1 bd.2.2.2.2 _).mono (by omega), by rw [rowIt_len]; exact rl⟩
        rw [List.take_add_one, hkv]
        show _ = (ps.take i ++ [(st, pw)]).foldl _ _
        rw [foldRow_app, ← erow]
    · rintro σ H6 ⟨l, row, y3, y4, y5, rfl, s6, nl, el, erow, _, _⟩
      rw [List.length_map, lq, List.take_length] at erow
      exact ⟨_, rfl, k H6 l s6 nl (by rw [el, erow]; rfl)⟩
end
end K19
/-! K19K: the law's own dicts of powers. -/
namespace K19
open PySem PySem.Spec PyProof.Rows L2 RZ
abbrev sPowers : Stmt := topS 39
abbrev sDrawn : Stmt := topS 40
abbrev sOther : Stmt := topS 41
abbrev nPowers : List Str := ["_law_some", "_law_found", "_law_powers_here", "_law_step", "_law_power"]
theorem scPowers : FnScope nPowers ["_law_some"] (defScope sPowers) := ⟨rfl, rfl, rfl, by decide +kernel, rfl, by decide +kernel, by decide +kernel⟩
abbrev nDrawn : List Str := ["_law_pot_here", "_law_many", "_law_most", "_law_found", "_law_turn", "_law_step"]
theorem scDrawn : FnScope nDrawn ["_law_pot_here", "_law_many", "_law_most"] (defScope sDrawn) := ⟨rfl, rfl, rfl, by decide +kernel, rfl, by decide +kernel, by decide +kernel⟩
abbrev nOther : List Str := ["_law_pot_here", "_law_one", "_law_way", "_law_step"]
theorem scOther : FnScope nOther ["_law_pot_here", "_law_one"] (defScope sOther) := ⟨rfl, rfl, rfl, by decide +kernel, rfl, by decide +kernel, by decide +kernel⟩
/-! ### the dicts, in plain lists -/
def putA (al : Pows) (s v : Int) : Pows := if (al.any fun x => decide (x.1 = s)) = true then al.map (fun x => if x.1 = s then (x.1, v) else x) else al ++ [(s, v)]
theorem putA_kvO (al : Pows) (s v : Int) : putK (kvO al) (Sum.inl s : Key) (.int v) = kvO (putA al s v) := by
  unfold putK putA
  have e1 : ((kvO al).any fun kv => decide (kv.1 = (Sum.inl s : Key))) = al.any fun x => decide (x.1 = s) := by
    unfold kvO
    rw [List.any_map]
    refine congrArg (al.any) (funext fun x => ?_)
    show decide ((Sum.inl x.1 : Key) = Sum.inl s) = decide (x.1 = s)
    simp
  rw [e1]
  by_cases c : (al.any fun x => decide (x.1 = s)) = true
  · rw [if_pos c, if_pos c]
    unfold kvO
    rw [List.map_map, List.map_map]
    refine List.map_congr_left fun x _ => ?_
    show (if (Sum.inl x.1 : Key) = Sum.inl s then ((Sum.inl x.1 : Key), V.int v) else (Sum.inl x.1, V.int x.2)) = _
    by_cases z : x.1 = s
    · rw [if_pos (by rw [z])]
      show _ = (Sum.inl (if x.1 = s then (x.1, v) else x).1, V.int (if x.1 = s then (x.1, v) else x).2)
      rw [if_pos z]
    · rw [if_neg (fun q => z (Sum.inl.inj q))]
      show _ = (Sum.inl (if x.1 = s then (x.1, v) else x).1, V.int (if x.1 = s then (x.1, v) else x).2)
      rw [if_neg z]
  · rw [if_neg c, if_neg c]
    unfold kvO
    rw [List.map_append]
    rfl
structure DV (b : Int) (c : Nat) (al : Pows) : Prop where
  nod : (al.map (·.1)).Nodup
  bnd : ∀ x ∈ al, 1 ≤ x.1 ∧ x.1 ≤ 30 ∧ -b ≤ x.2 ∧ x.2 ≤ b
  len : al.length ≤ c
theorem DV.nil (b : Int) (c : Nat) : DV b c [] := ⟨List.nodup_nil, fun x h => (nomatch h), Nat.zero_le _⟩
theorem DV.mono {b b' : Int} {c c' : Nat} {al : Pows} (h : DV b c al) (hb : b ≤ b') (hc : c ≤ c') : DV b' c' al :=
  ⟨h.nod, fun x hx => by have := h.bnd x hx; omega, Nat.le_trans h.len hc⟩
theorem DV.put {b : Int} {c : Nat} {al : Pows} {s v : Int} (h : DV b c al) (h1 : 1 ≤ s) (h2 : s ≤ 30) (h3 : -b ≤ v) (h4 : v ≤ b) : DV b (c + 1) (putA al s v) := by
  unfold putA
  by_cases z : (al.any fun x => decide (x.1 = s)) = true
  · rw [if_pos z]
    refine ⟨?_, fun x hx => ?_, ?_⟩
    · have e : ((al.map fun x => if x.1 = s then (x.1, v) else x).map (·.1)) = al.map (·.1) := by
        rw [List.map_map]
        refine List.map_congr_left fun x _ => ?_
        show (if x.1 = s then (x.1, v) else x).1 = x.1
        split <;> rfl
      rw [e]
      exact h.nod
    · obtain ⟨y, hy, rfl⟩ := List.mem_map.mp hx
      have := h.bnd y hy
      by_cases q : y.1 = s
      · rw [if_pos q]
        exact ⟨this.1, this.2.1, h3, h4⟩
      · rw [if_neg q]
        exact this
    · rw [List.length_map]
      have := h.len
      omega
  · rw [if_neg z]
    refine ⟨?_, fun x hx => ?_, ?_⟩
    · rw [List.map_append]
      refine List.nodup_append.mpr ⟨h.nod, by simp, fun a ha b hb => ?_⟩
      have hb' : b = s := by simpa using hb
      obtain ⟨y, hy, rfl⟩ := List.mem_map.mp ha
      rw [hb']
      intro q
      exact z (List.any_eq_true.mpr ⟨y, hy, by simpa using q⟩)
    · rcases List.mem_append.mp hx with q | q
      · exact h.bnd x q
      · have : x = (s, v) := by simpa using q
        rw [this]
        exact ⟨h1, h2, h3, h4⟩
    · rw [List.length_append]
      have := h.len
      show _ + 1 ≤ _
      omega
theorem lk_bound {b : Int} (hb : 0 ≤ b) : ∀ {al : Pows} (s : Int), (∀ x ∈ al, -b ≤ x.2 ∧ x.2 ≤ b) → -b ≤ lk al s ∧ lk al s ≤ b
  | [], _, _ => by
    show -b ≤ 0 ∧ 0 ≤ b
    omega
  | y :: r, s, h => by
    unfold lk
    by_cases e : y.1 = s
    · rw [if_pos e]
      exact h y List.mem_cons_self
    · rw [if_neg e]
      exact lk_bound hb s fun x hx => h x (List.mem_cons_of_mem _ hx)
theorem DV.lk {b : Int} {c : Nat} {al : Pows} (h : DV b c al) (hb : 0 ≤ b) (s : Int) : -b ≤ K19.lk al s ∧ K19.lk al s ≤ b := lk_bound hb s fun x hx => (h.bnd x hx).2.2
theorem valV_key : ∀ {al : Pows} {s : Int}, s ∈ al.map (·.1) → valV (kvO al) (Sum.inl s : Key) = some (.int (lk al s))
  | [], _, h => nomatch h
  | y :: r, s, h => by
    show valV ((Sum.inl y.1, V.int y.2) :: kvO r) (Sum.inl s : Key) = _
    by_cases e : y.1 = s
    · rw [valV_pos (by rw [e]), lk_cons_eq e]
    · rw [valV_neg (fun z => e (Sum.inl.inj z)), lk_cons_ne e]
      rcases List.mem_cons.mp h with z | z
      · exact absurd z.symm e
      · exact valV_key z
/-- the pairs with powers, by the sorted steps -/
def pickP (al : Pows) (ks : List Int) : Pows := (ks.filter fun s => decide (lk al s ≠ 0)).map fun s => (s, lk al s)
theorem pick_ok {b : Int} {c : Nat} {al : Pows} {ks : List Int} (h : DV b c al) (hb0 : 0 ≤ b) (hb : b ≤ 60) (hc : c ≤ 12) (perm : ks.Perm (al.map (·.1))) (sorted : ks.Pairwise (· ≤ ·)) :
    Valid 30 (pickP al ks) ∧ (∀ x ∈ pickP al ks, -b ≤ x.2 ∧ x.2 ≤ b) ∧ (pickP al ks).length ≤ c := by
  have nod : ks.Nodup := perm.nodup_iff.mpr h.nod
  have lt : ks.Pairwise (· < ·) := (sorted.and nod).imp fun {a b} z => by have := z.1; have := z.2; omega
  have kl : (pickP al ks).length ≤ c := by
    unfold pickP
    rw [List.length_map]
    refine Nat.le_trans (List.length_filter_le _ _) ?_
    rw [perm.length_eq, List.length_map]
    exact h.len
  have ent : ∀ x ∈ pickP al ks, 1 ≤ x.1 ∧ x.1 ≤ 30 ∧ x.2 ≠ 0 ∧ -b ≤ x.2 ∧ x.2 ≤ b := fun x hx => by
    unfold pickP at hx
    obtain ⟨s, hs, rfl⟩ := List.mem_map.mp hx
    obtain ⟨h1, h2⟩ := List.mem_filter.mp hs
    obtain ⟨y, hy, hys⟩ := List.mem_map.mp (perm.mem_iff.mp h1)
    have := h.bnd y hy
    have hys : y.1 = s := hys
    exact ⟨by show 1 ≤ s; omega, by show s ≤ 30; omega, by simpa using h2, h.lk hb0 s⟩
  refine ⟨⟨?_, fun x hx => ?_, by omega⟩, fun x hx => (ent x hx).2.2.2, kl⟩
  · unfold pickP
    exact List.pairwise_map.mpr ((lt.filter _).imp fun {a b} z => z)
  · have := ent x hx
    exact ⟨this.1, this.2.1, this.2.2.1, by omega, by omega⟩
def tot (pss : List Pows) : Nat := (pss.map List.length).sum
theorem tot_step {pss : List Pows} {i : Nat} {ps : Pows} (h : pss[i]? = some ps) : tot (pss.take (i + 1)) = tot (pss.take i) + ps.length := by
  unfold tot
  rw [List.take_add_one, h, List.map_append, List.sum_append]
  simp
theorem tot_le : ∀ (pss : List Pows) (i : Nat), tot (pss.take i) ≤ tot pss
  | [], i => by rw [List.take_nil]; exact Nat.le_refl _
  | p :: r, 0 => by
    rw [List.take_zero]
    exact Nat.zero_le _
  | p :: r, i + 1 => by
    have ih := tot_le r i
    unfold tot at ih ⊢
    rw [List.take_succ_cons, List.map_cons, List.map_cons, List.sum_cons, List.sum_cons]
    omega
section
variable {P : Program} {w : World} {K : PySem.W.Frag} {mg : Str → Option Value} {base : Heap}
def spPowers : Sp := fun vs H Q _ => ∃ (l : Addr) (ts : List Addr) (pss : List Pows), vs = [.ref l] ∧ H l = some (.lst (ts.map V.ref)) ∧ Paired (fun t ps => PwAt H t ps) ts pss ∧ (∀ ps ∈ pss, ∀ x ∈ ps, 1 ≤ x.1 ∧ x.1 ≤ 30 ∧ -12 ≤ x.2 ∧ x.2 ≤ 12) ∧ tot pss ≤ 5 ∧
  ∀ H' t qs, Same H H' → PwAt H' t qs → Valid 30 qs → Q (.ref t) H'
theorem cl_powers (D : Df K mg "_law_powers" sPowers ["_law_some"]) (B : Bt mg) : Cl P w K mg base 1 "_law_powers" spPowers := by
  refine D.cl scPowers (fun vs H Q E h => ?_) (fun fa cdv A outer s H vs Q E hr h => ?_)
  · obtain ⟨l, ts, pss, rfl, _⟩ := h
    rfl
  · obtain ⟨l, ts, pss, rfl, hl, hts, hE, h5, k⟩ := h
    have hu := hu_of hr
    refine ⟨_, pss_cons (ps_set (i := 1) scPowers.nd rfl (.inr rfl) pe_dnewK)
      (pss_cons (ps_for PassesOwn.never rfl (pi_list (pv 0)) (pg_name (i := 2) scPowers.nd rfl (.inl rfl))
        (pss_one (ps_for PassesOwn.never rfl (pi_tup (pv 2)) (pg_tup rfl (pgs_cons (pg_name (i := 3) scPowers.nd rfl (.inl rfl)) (pgs_cons (pg_name (i := 4) scPowers.nd rfl (.inl rfl)) pgs_nil)))
          (pss_one (ps_asg (pe_op op_add (pe_dget2 hu (pv 1) (pv 3) pe_int ⟨rfl, rfl, rfl, rfl⟩) (pv 4)) (pg_sub (pv 1) (pv 3) (set_dict hu)))))))
      (pss_one (ps_ret (pe_callTy call_tuple_of (by rfl) B.tuple boot_tuple (pa_cons
        (pe_lc (own := [("_law_step", 3)]) (g := gName 3) (tt := tTest (tOp rNe (tDGet (tVar 1) (tVar 3)) (tC (.int 0)))) (te := tTup (tCons (tVar 3) (tCons (tDGet (tVar 1) (tVar 3)) tNil))) (by rfl) scPowers.nd
          (pi_list (pe_callB cr_sorted (by rfl) B.sorted boot_sorted (pa_cons (pe_callTy (call_listD rfl) (by rfl) B.list boot_list (pa_cons (pv 1) pa_nil)) pa_nil)))
          (blkOk_by (own := [("_law_step", 3)]) (N := nPowers) (sc := defScope sPowers) (by decide +kernel)) (fun _ _ _ _ _ => pg_name (i := 3) scPowers.nd rfl (.inl rfl))
          (fun _ _ _ _ _ => pts_one (pt_cmpR op_ne (pe_dget hu (pv 1) (pv 3) (fun _ _ => rfl)) pe_int (nomark _))) (fun _ _ _ _ _ => pe_tup (pa_cons (pv 3) (pa_cons (pe_dget hu (pv 1) (pv 3) (fun _ _ => rfl)) pa_nil)))) pa_nil))))), ?_⟩
    refine fun d nd => ?_
    have s0 : Same H (upd H d (.dK [])) := same_new nd
    have hd0 : (upd H d (.dK [])) d = some (.dK (kvO [])) := upd_same
    generalize upd H d (.dK []) = H0 at s0 hd0 ⊢
    refine ⟨_, rfl, l, rfl, ⟨_, sqL (s0 _ _ hl)⟩, for_it (walk_list (xs := ts.map V.ref)) (fun i σ H1 => ∃ (al : Pows) (y2 y3 y4 : Option V), σ = [some (.ref l), some (.ref d), y2, y3, y4] ∧ Same H H1 ∧ H1 d = some (.dK (kvO al)) ∧ DV (12 * (tot (pss.take i) : Nat)) (tot (pss.take i)) al)
      ⟨[], none, none, none, rfl, s0, hd0, .nil _ _⟩ (fun i σ H1 _ z => ?_) ?_ ?_⟩
    · obtain ⟨_, _, _, _, _, s1, _⟩ := z
      exact sqL (s1 _ _ hl)
    · rintro i x σ H1 H2 hi ⟨al, y2, y3, y4, rfl, s1, hd1, dv⟩ ⟨rfl, hx⟩
      rw [List.getElem?_map] at hx
      obtain ⟨t, ht, rfl⟩ := Option.map_eq_some_iff.mp hx
      obtain ⟨ps, hps, qs, hq, hqp⟩ := paired_at hts ht
      have ent := hE ps (List.mem_of_getElem? hps)
      have ts1 := tot_step hps
      have le := tot_le pss (i + 1)
      have lq : qs.length = ps.length := paired_len hqp
      refine ⟨_, rfl, t, rfl, ⟨_, sqT (s1 _ _ hq)⟩, for_it (walk_tup (xs := qs.map V.ref)) (fun j σ H3 => ∃ (al : Pows) (y3 y4 : Option V), σ = [some (.ref l), some (.ref d), some (.ref t), y3, y4] ∧ Same H H3 ∧ H3 d = some (.dK (kvO al)) ∧ DV (12 * ((tot (pss.take i) + j : Nat) : Int)) (tot (pss.take i) + j) al)
        ⟨al, y3, y4, rfl, s1, hd1, dv⟩ (fun j σ H3 _ z => ?_) ?_ ?_⟩
      · obtain ⟨_, _, _, _, s3, _⟩ := z
        exact sqT (s3 _ _ hq)
      · rintro j x σ H3 H4 hj ⟨al, y3, y4, rfl, s3, hd3, dv3⟩ ⟨rfl, hx⟩
        rw [List.getElem?_map] at hx
        obtain ⟨q, hqj, rfl⟩ := Option.map_eq_some_iff.mp hx
        obtain ⟨⟨st, pw⟩, hkv, hqq⟩ := paired_at hqp hqj
        have hqq : H q = some (.tup [.int st, .int pw]) := hqq
        have bd := ent _ (List.mem_of_getElem? hkv)
        have bd1 : 1 ≤ st := bd.1
        have bd2 : st ≤ 30 := bd.2.1
        have bd3 : -12 ≤ pw := bd.2.2.1
        have bd4 : pw ≤ 12 := bd.2.2.2
        have lj := (List.getElem?_eq_some_iff.mp hkv).1
        have lb := dv3.lk (by omega) st
        have dv4 : DV (12 * ((tot (pss.take i) + j : Nat) : Int) + 12) (tot (pss.take i) + j) al := dv3.mono (by omega) (Nat.le_refl _)
        refine ⟨q, _, rfl, sqT (s3 _ _ hqq), rfl, _, _, rfl, _, _, rfl, rfl, ?_⟩
        refine ⟨_, rfl, d, rfl, .inl ⟨_, .inl hd3⟩, _, rfl, _, DGet.k (k := Sum.inl st) hd3, _, rfl, lk al st, pw, kvO_val al st, rfl, ?_⟩
        refine ⟨_, rfl, _, rfl, d, _, rfl, DPut.k (k := Sum.inl st) hd3 (okSize (by rw [kvO_len]; have := dv3.len; omega)), ?_⟩
        refine ⟨putA al st (lk al st + pw), _, _, rfl, fun b o e => ?_, ?_, (dv4.put bd1 bd2 (by omega) (by omega)).mono (by omega) (by omega)⟩
        · rw [upd_ne (ne_of_none e nd)]
          exact s3 b o e
        · rw [upd_same, ← putA_kvO]
      · rintro σ H3 ⟨al, y3, y4, rfl, s3, hd3, dv3⟩
        rw [List.length_map, lq] at dv3
        exact ⟨al, _, _, _, rfl, s3, hd3, dv3.mono (by omega) (by omega)⟩
    · rintro σ H3 ⟨al, y2, y3, y4, rfl, s3, hd, dv⟩
      have lts : (ts.map V.ref).length = pss.length := by rw [List.length_map, paired_len hts]
      rw [lts, List.take_length] at dv
      have c12 : tot pss ≤ 12 := by omega
      have fin : ∀ H' t ks, Same H3 H' → PwAt H' t (pickP al ks) → ks.Perm (al.map (·.1)) → ks.Pairwise (· ≤ ·) → Q (.ref t) H' := fun H' t ks s4 ht p1 p2 => k H' t _ (s3.trans s4) ht (pick_ok dv (by omega) (by omega) c12 p1 p2).1
      refine ⟨_, rfl, d, _, rfl, .inl hd, fun l1 n1 => ?_⟩
      have u1 : Same H3 (upd H3 l1 (.lst ((kvO al).map fun kv => kV kv.1))) := same_new n1
      have e1 : (upd H3 l1 (.lst ((kvO al).map fun kv => kV kv.1))) l1 = some (.lst ((al.map (·.1)).map V.int)) := by rw [upd_same, kvO_keys]
      generalize upd H3 l1 (.lst ((kvO al).map fun kv => kV kv.1)) = H4 at u1 e1 ⊢
      have few : al.length ≤ 12 := Nat.le_trans dv.len c12
      refine ⟨l1, al.map (·.1), rfl, sqL e1, by rw [List.length_map]; omega, fun ks l4 perm sorted n4 => ?_⟩
      have u4 : Same H4 (upd H4 l4 (.lst (ks.map V.int))) := same_new n4
      have e4 : (upd H4 l4 (.lst (ks.map V.int))) l4 = some (.lst (ks.map V.int)) := upd_same
      have hd5 := u4 _ _ (u1 _ _ hd)
      have s35 := u1.trans u4
      generalize upd H4 l4 (.lst (ks.map V.int)) = H5 at e4 hd5 s35 ⊢
      have kl : ks.length ≤ 12 := by
        rw [perm.length_eq, List.length_map]
        exact few
      refine ⟨l4, rfl, ⟨_, sqL e4⟩, fun L nL => lc_it (walk_list (xs := ks.map V.int)) (fun i H6 => Same H5 H6 ∧ ∃ rs : List Addr, H6 L = some (.lst (rs.map V.ref)) ∧ Paired (fun (r : Addr) (kv : Int × Int) => H6 r = some (.tup [.int kv.1, .int kv.2])) rs (pickP al (ks.take i)))
        ⟨same_new nL, [], upd_same, .nil⟩ (fun i H6 _ z => sqL (z.1 _ _ e4)) ?_ ?_⟩
      · rintro i x H6 H7 hi ⟨s6, rs, eL, hrs⟩ ⟨rfl, hx⟩
        rw [List.getElem?_map] at hx
        obtain ⟨n, hn, rfl⟩ := Option.map_eq_some_iff.mp hx
        have hd6 := s6 _ _ hd5
        have mem : n ∈ al.map (·.1) := perm.mem_iff.mp (List.mem_of_getElem? hn)
        have tk : pickP al (ks.take (i + 1)) = pickP al (ks.take i) ++ pickP al [n] := by
          rw [List.take_add_one, hn]
          unfold pickP
          rw [← List.map_append, ← List.filter_append]
          rfl
        refine ⟨rfl, _, rfl, _, rfl, d, .int (lk al n), rfl, .inl ⟨_, Sum.inl n, .inl hd6, rfl, (valV_key mem).symm⟩, rfl, _, rfl, ?_⟩
        by_cases z : lk al n = 0
        · rw [z]
          refine iteNS rfl ⟨s6, rs, eL, ?_⟩
          rw [tk, show pickP al [n] = [] by unfold pickP; simp [z], List.append_nil]
          exact hrs
        · refine ifND (fun q => z (V.int.inj q)) ⟨_, rfl, _, rfl, _, rfl, d, .int (lk al n), rfl, .inl ⟨_, Sum.inl n, .inl hd6, rfl, (valV_key mem).symm⟩, by show 2 ≤ sizeLine; decide, fun p np => ?_⟩
          have up : Same _ (upd _ p (.tup [.int n, .int (lk al n)])) := same_new np
          have nLp : L ≠ p := ne_of_none eL np
          refine ⟨_, up _ _ eL, okSize ?_, fun b o e => ?_, rs ++ [p], ?_, ?_⟩
          · rw [List.length_map, paired_len hrs]
            have : (pickP al (ks.take i)).length ≤ (ks.take i).length := by
              unfold pickP
              rw [List.length_map]
              exact List.length_filter_le _ _
            rw [List.length_take] at this
            omega
          · rw [upd_ne (ne_of_none e nL)]
            exact up _ _ (s6 b o e)
          · rw [upd_same, List.map_append]
            rfl
          · rw [tk, show pickP al [n] = [(n, lk al n)] by unfold pickP; simp [z]]
            refine paired_app ?_ (paired_imp (fun r kv h => ?_) hrs)
            · rw [upd_ne nLp.symm, upd_same]
            · rw [upd_ne (ne_of (up _ _ h) (up _ _ eL) (by intro z; cases z))]
              exact up _ _ h
      · rintro H6 ⟨s6, rs, eL, hrs⟩
        rw [List.length_map, List.take_length] at hrs
        refine ⟨L, _, rfl, .inl ⟨sqL eL, fun t nt => ?_⟩⟩
        have u7 : Same H6 (upd H6 t (.tup (rs.map V.ref))) := same_new nt
        exact fin _ t ks (s35.trans (s6.trans u7)) ⟨rs, upd_same, paired_imp (fun r kv h => u7 _ _ h) hrs⟩ perm sorted
/-- what a draw of powers may be -/
structure Drawn (ps : Pows) : Prop where
  val : Valid 30 ps
  pow : ∀ x ∈ ps, -12 ≤ x.2 ∧ x.2 ≤ 12
  few : ps.length ≤ 4
def spDrawn : Sp := fun vs H Q _ => ∃ p : Addr, vs = [.ref p, .int 4, .int 12] ∧ PotAt H p ∧ ∀ H' t ps, But p H H' → PotAt H' p → PwAt H' t ps → Drawn ps → Q (.ref t) H'
theorem But.put {p d : Addr} {H H' : Hp} {o : HO} (b : But p H H') (n : H d = none) : But p H (L2.upd H' d o) := fun c u e ne => by
  rw [upd_ne (ne_of_none e n)]
  exact b c u e ne
theorem cl_drawn (D : Df K mg "_law_drawn" sDrawn ["_law_pot_here", "_law_many", "_law_most"]) (W : Cl P w K mg base 1 "_law_draw" spDraw) (C : Cl P w K mg base 2 "_law_pick" spPick) (B : Bt mg) : Cl P w K mg base 3 "_law_drawn" spDrawn := by
  refine D.cl scDrawn (fun vs H Q E h => ?_) (fun fa cdv A outer s H vs Q E hr h => ?_)
  · obtain ⟨p, rfl, _⟩ := h
    rfl
  · obtain ⟨p, rfl, hp, k⟩ := h
    have hu := hu_of hr
    refine ⟨_, pss_cons (ps_set (i := 3) scDrawn.nd rfl (.inr rfl) pe_dnewK)
      (pss_cons (ps_for PassesOwn.never rfl (pi_range1 (by rfl) B.range (pa_cons (pe_cl W hr (by decide) (by rfl) (pa_cons (pv 0) (pa_cons (pe_op op_add (pv 1) pe_int) pa_nil))) pa_nil)) (pg_name (i := 4) scDrawn.nd rfl (.inl rfl))
        (pss_cons (ps_set (i := 5) scDrawn.nd rfl (.inl rfl) (pe_cl C hr (by decide) (by rfl) (pa_cons (pv 0) (pa_cons (pe_lst (pa_cons pe_int (pa_cons pe_int (pa_cons pe_int (pa_cons pe_int (pa_cons pe_int (pa_cons pe_int (pa_cons pe_int (pa_cons pe_int (pa_cons pe_int (pa_cons pe_int pa_nil))))))))))) pa_nil))))
        (pss_one (ps_asg (pe_op op_sub (pe_cl W hr (by decide) (by rfl) (pa_cons (pv 0) (pa_cons (pe_op op_add (pe_op op_mul pe_int (pv 2)) pe_int) pa_nil))) (pv 2)) (pg_sub (pv 3) (pv 5) (set_dict hu))))))
      (pss_one (ps_ret (pe_callTy call_tuple_of (by rfl) B.tuple boot_tuple (pa_cons
        (pe_lc (own := [("_law_step", 5)]) (g := gName 5) (tt := tTest (tOp rNe (tDGet (tVar 3) (tVar 5)) (tC (.int 0)))) (te := tTup (tCons (tVar 5) (tCons (tDGet (tVar 3) (tVar 5)) tNil))) (by rfl) scDrawn.nd
          (pi_list (pe_callB cr_sorted (by rfl) B.sorted boot_sorted (pa_cons (pe_callTy (call_listD rfl) (by rfl) B.list boot_list (pa_cons (pv 3) pa_nil)) pa_nil)))
          (blkOk_by (own := [("_law_step", 5)]) (N := nDrawn) (sc := defScope sDrawn) (by decide +kernel)) (fun _ _ _ _ _ => pg_name (i := 5) scDrawn.nd rfl (.inl rfl))
          (fun _ _ _ _ _ => pts_one (pt_cmpR op_ne (pe_dget hu (pv 3) (pv 5) (fun _ _ => rfl)) pe_int (nomark _))) (fun _ _ _ _ _ => pe_tup (pa_cons (pv 5) (pa_cons (pe_dget hu (pv 3) (pv 5) (fun _ _ => rfl)) pa_nil)))) pa_nil))))), ?_⟩
    refine fun d nd => ?_
    have s0 : Same H (upd H d (.dK [])) := same_new nd
    have hd0 : (upd H d (.dK [])) d = some (.dK (kvO [])) := upd_same
    generalize upd H d (.dK []) = H0 at s0 hd0 ⊢
    obtain ⟨op, eop⟩ := hp.some
    have dp : d ≠ p := (ne_of_none eop nd).symm
    refine ⟨_, rfl, _, rfl, 4, 1, rfl, rfl, p, 5, rfl, hp.same s0, by decide, by decide, fun H1 r b1 hp1 r0 r5 => ?_⟩
    refine ⟨r, rfl, by omega, by omega, for_it walk_range (fun i σ H2 => ∃ (al : Pows) (y4 y5 : Option V), σ = [some (.ref p), some (.int 4), some (.int 12), some (.ref d), y4, y5] ∧ But p H H2 ∧ PotAt H2 p ∧ H2 d = some (.dK (kvO al)) ∧ DV 12 i al)
      ⟨[], none, none, rfl, (But.of s0).trans b1, hp1, b1 _ _ hd0 dp, .nil _ _⟩ (fun _ _ _ _ _ => trivial) ?_ ?_⟩
    · rintro i x σ H2 H3 hi ⟨al, y4, y5, rfl, b2, hp2, hd2, dv⟩ ⟨rfl, rfl⟩
      refine ⟨_, rfl, by show 10 ≤ sizeLine; decide, fun l nl => ?_⟩
      have s3 : Same H3 (upd H3 l (.lst ([1, 1, 2, 2, 3, 4, 5, 6, 7, 10].map V.int))) := same_new nl
      have hl3 : (upd H3 l (.lst ([1, 1, 2, 2, 3, 4, 5, 6, 7, 10].map V.int))) l = some (.lst ([1, 1, 2, 2, 3, 4, 5, 6, 7, 10].map V.int)) := upd_same
      obtain ⟨op, eop⟩ := hp2.some
      have lp : l ≠ p := (ne_of_none eop nl).symm
      refine ⟨p, l, [1, 1, 2, 2, 3, 4, 5, 6, 7, 10], rfl, hp2.same s3, hl3, lp, by decide, by decide, fun H4 st b4 hp4 mem => ?_⟩
      have hst : 1 ≤ st ∧ st ≤ 30 := by
        simp at mem
        omega
      have hd4 := b4 _ _ (s3 _ _ hd2) dp
      refine ⟨_, rfl, _, rfl, 2, 12, rfl, rfl, .inl ⟨by decide, by decide⟩, _, 1, rfl, rfl, p, 25, rfl, hp4, by decide, by decide, fun H5 v b5 hp5 v0 v1 => ?_⟩
      have hd5 := b5 _ _ hd4 dp
      refine ⟨_, rfl, v, 12, rfl, rfl, _, rfl, _, rfl, d, _, rfl, DPut.k (k := Sum.inl st) hd5 (okSize (by rw [kvO_len]; have := dv.len; omega)), ?_⟩
      have b25 := b2.trans ((But.of s3).trans (b4.trans b5))
      refine ⟨putA al st (v - 12), _, _, rfl, b25.put nd, ?_, ?_, dv.put hst.1 hst.2 (by omega) (by omega)⟩
      · obtain ⟨x, y, e, z⟩ := hp5
        exact ⟨x, y, by rw [upd_ne dp.symm]; exact e, z⟩
      · rw [upd_same, ← putA_kvO]
    · rintro σ H3 ⟨al, y4, y5, rfl, b3, hp3, hd, dv⟩
      have c12 : r.toNat ≤ 12 := by omega
      have fin : ∀ H' t ks, Same H3 H' → PwAt H' t (pickP al ks) → ks.Perm (al.map (·.1)) → ks.Pairwise (· ≤ ·) → Q (.ref t) H' := fun H' t ks s4 ht p1 p2 => by
        obtain ⟨v1, v2, v3⟩ := pick_ok dv (by decide) (by decide) c12 p1 p2
        exact k H' t _ (b3.trans (.of s4)) (hp3.same s4) ht ⟨v1, v2, by omega⟩
      refine ⟨_, rfl, d, _, rfl, .inl hd, fun l1 n1 => ?_⟩
      have u1 : Same H3 (upd H3 l1 (.lst ((kvO al).map fun kv => kV kv.1))) := same_new n1
      have e1 : (upd H3 l1 (.lst ((kvO al).map fun kv => kV kv.1))) l1 = some (.lst ((al.map (·.1)).map V.int)) := by rw [upd_same, kvO_keys]
      generalize upd H3 l1 (.lst ((kvO al).map fun kv => kV kv.1)) = H4 at u1 e1 ⊢
      have few : al.length ≤ 12 := Nat.le_trans dv.len c12
      refine ⟨l1, al.map (·.1), rfl, sqL e1, by rw [List.length_map]; omega, fun ks l4 perm sorted n4 => ?_⟩
      have u4 : Same H4 (upd H4 l4 (.lst (ks.map V.int))) := same_new n4
      have e4 : (upd H4 l4 (.lst (ks.map V.int))) l4 = some (.lst (ks.map V.int)) := upd_same
      have hd5 := u4 _ _ (u1 _ _ hd)
      have s35 := u1.trans u4
      generalize upd H4 l4 (.lst (ks.map V.int)) = H5 at e4 hd5 s35 ⊢
      have kl : ks.length ≤ 12 := by
        rw [perm.length_eq, List.length_map]
        exact few
      refine ⟨l4, rfl, ⟨_, sqL e4⟩, fun L nL => lc_it (walk_list (xs := ks.map V.int)) (fun i H6 => Same H5 H6 ∧ ∃ rs : List Addr, H6 L = some (.lst (rs.map V.ref)) ∧ Paired (fun (r : Addr) (kv : Int × Int) => H6 r = some (.tup [.int kv.1, .int kv.2])) rs (pickP al (ks.take i)))
        ⟨same_new nL, [], upd_same, .nil⟩ (fun i H6 _ z => sqL (z.1 _ _ e4)) ?_ ?_⟩
      · rintro i x H6 H7 hi ⟨s6, rs, eL, hrs⟩ ⟨rfl, hx⟩
        rw [List.getElem?_map] at hx
        obtain ⟨n, hn, rfl⟩ := Option.map_eq_some_iff.mp hx
        have hd6 := s6 _ _ hd5
        have mem : n ∈ al.map (·.1) := perm.mem_iff.mp (List.mem_of_getElem? hn)
        have tk : pickP al (ks.take (i + 1)) = pickP al (ks.take i) ++ pickP al [n] := by
          rw [List.take_add_one, hn]
          unfold pickP
          rw [← List.map_append, ← List.filter_append]
          rfl
        refine ⟨rfl, _, rfl, _, rfl, d, .int (lk al n), rfl, .inl ⟨_, Sum.inl n, .inl hd6, rfl, (valV_key mem).symm⟩, rfl, _, rfl, ?_⟩
        by_cases z : lk al n = 0
        · rw [z]
          refine iteNS rfl ⟨s6, rs, eL, ?_⟩
          rw [tk, show pickP al [n] = [] by unfold pickP; simp [z], List.append_nil]
          exact hrs
        · refine ifND (fun q => z (V.int.inj q)) ⟨_, rfl, _, rfl, _, rfl, d, .int (lk al n), rfl, .inl ⟨_, Sum.inl n, .inl hd6, rfl, (valV_key mem).symm⟩, by show 2 ≤ sizeLine; decide, fun p np => ?_⟩
          have up : Same _ (upd _ p (.tup [.int n, .int (lk al n)])) := same_new np
          have nLp : L ≠ p := ne_of_none eL np
          refine ⟨_, up _ _ eL, okSize ?_, fun b o e => ?_, rs ++ [p], ?_, ?_⟩
          · rw [List.length_map, paired_len hrs]
            have : (pickP al (ks.take i)).length ≤ (ks.take i).length := by
              unfold pickP
              rw [List.length_map]
              exact List.length_filter_le _ _
            rw [List.length_take] at this
            omega
          · rw [upd_ne (ne_of_none e nL)]
            exact up _ _ (s6 b o e)
          · rw [upd_same, List.map_append]
            rfl
          · rw [tk, show pickP al [n] = [(n, lk al n)] by unfold pickP; simp [z]]
            refine paired_app ?_ (paired_imp (fun r kv h => ?_) hrs)
            · rw [upd_ne nLp.symm, upd_same]
            · rw [upd_ne (ne_of (up _ _ h) (up _ _ eL) (by intro z; cases z))]
              exact up _ _ h
      · rintro H6 ⟨s6, rs, eL, hrs⟩
        rw [List.length_map, List.take_length] at hrs
        refine ⟨L, _, rfl, .inl ⟨sqL eL, fun t nt => ?_⟩⟩
        have u7 : Same H6 (upd H6 t (.tup (rs.map V.ref))) := same_new nt
        exact fin _ t ks (s35.trans (s6.trans u7)) ⟨rs, upd_same, paired_imp (fun r kv h => u7 _ _ h) hrs⟩ perm sorted
end
end K19
/-! K19L: _law_other, _law_parted. -/
namespace K19
open PySem PySem.Spec PyProof.Rows L2 RZ
abbrev sParted : Stmt := topS 42
abbrev nParted : List Str := ["_law_one", "_law_other_here", "_law_near", "_law_far", "_law_some", "_law_step"]
theorem scParted : FnScope nParted ["_law_one", "_law_other_here"] (defScope sParted) := ⟨rfl, rfl, rfl, by decide +kernel, rfl, by decide +kernel, by decide +kernel⟩
theorem kv_paired {K : PySem.W.Frag} {H : Hp} : ∀ {l : List Addr} {m : Pows}, Paired (fun (r : Addr) (kv : Int × Int) => H r = some (.tup [.int kv.1, .int kv.2])) l m → Paired (fun p (kv : Key × V) => SqT K H p [kV kv.1, kv.2]) l (kvO m)
  | _, _, .nil => .nil
  | _, _, .cons a r => .cons (sqT a) (kv_paired r)
section
variable {P : Program} {w : World} {K : PySem.W.Frag} {mg : Str → Option Value} {base : Heap}
def spOther : Sp := fun vs H Q _ => ∃ (p t : Addr) (ps : Pows), vs = [.ref p, .ref t] ∧ PotAt H p ∧ PwAt H t ps ∧ Drawn ps ∧ ∀ H' t' qs, But p H H' → PotAt H' p → PwAt H' t' qs → Valid 30 qs → Q (.ref t') H'
theorem cl_other (D : Df K mg "_law_other" sOther ["_law_pot_here", "_law_one"]) (W : Cl P w K mg base 1 "_law_draw" spDraw) (C : Cl P w K mg base 2 "_law_pick" spPick) (N : Cl P w K mg base 3 "_law_drawn" spDrawn) (O : Cl P w K mg base 1 "_law_powers" spPowers) (B : Bt mg) :
    Cl P w K mg base 4 "_law_other" spOther := by
  refine D.cl scOther (fun vs H Q E h => ?_) (fun fa cdv A outer s H vs Q E hr h => ?_)
  · obtain ⟨p, t, ps, rfl, _⟩ := h
    rfl
  · obtain ⟨p, t, ps, rfl, hp, ht, dr, k⟩ := h
    refine ⟨_, pss_cons (ps_set (i := 2) scOther.nd rfl (.inl rfl) (pe_cl W hr (by decide) (by rfl) (pa_cons (pv 0) (pa_cons pe_int pa_nil))))
      (pss_cons (ps_if (pt_cmpR op_eq (pv 2) pe_int (nomark _)) (pss_one (ps_ret (pv 1))) pss_nil)
      (pss_cons (ps_if (pt_cmpR op_eq (pv 2) pe_int (nomark _)) (pss_one (ps_ret (pe_cl N hr (by decide) (by rfl) (pa_cons (pv 0) (pa_cons pe_int (pa_cons pe_int pa_nil)))))) pss_nil)
      (pss_cons (ps_set (i := 3) scOther.nd rfl (.inl rfl) (pe_cl C hr (by decide) (by rfl) (pa_cons (pv 0) (pa_cons (pe_lst (pa_cons pe_int (pa_cons pe_int (pa_cons pe_int (pa_cons pe_int (pa_cons pe_int (pa_cons pe_int (pa_cons pe_int pa_nil)))))))) pa_nil))))
      (pss_one (ps_ret (pe_cl O hr (by decide) (by rfl) (pa_cons (pe_lst (pa_cons (pv 1) (pa_cons (pe_tup (pa_cons (pe_tup (pa_cons (pv 3) (pa_cons (pe_cl C hr (by decide) (by rfl) (pa_cons (pv 0) (pa_cons (pe_lst (pa_cons pe_int (pa_cons (pe_un un_neg pe_int) (pa_cons pe_int (pa_cons (pe_un un_neg pe_int) pa_nil))))) pa_nil))) pa_nil))) pa_nil)) pa_nil))) pa_nil))))))), ?_⟩
    refine ⟨_, rfl, p, 5, rfl, hp, by decide, by decide, fun H1 wy b1 hp1 w0 w5 => ?_⟩
    have ht1 := ht.but b1 hp.noTup
    refine ⟨_, rfl, rfl, _, rfl, ?_⟩
    by_cases z0 : wy = 0
    · exact ifD (congrArg V.int z0) ⟨_, rfl, k H1 t ps b1 hp1 ht1 dr.val⟩
    refine ifDN (fun q => z0 (V.int.inj q)) ?_
    refine ⟨_, rfl, rfl, _, rfl, ?_⟩
    by_cases z1 : wy = 1
    · exact ifD (congrArg V.int z1) ⟨_, rfl, p, rfl, hp1, fun H2 t2 qs b2 hp2 ht2 dr2 => k H2 t2 qs (b1.trans b2) hp2 ht2 dr2.val⟩
    refine ifDN (fun q => z1 (V.int.inj q)) ?_
    refine ⟨_, rfl, by show 7 ≤ sizeLine; decide, fun l nl => ?_⟩
    have s2 : Same H1 (upd H1 l (.lst ([1, 2, 3, 6, 10, 12, 30].map V.int))) := same_new nl
    have hl2 : (upd H1 l (.lst ([1, 2, 3, 6, 10, 12, 30].map V.int))) l = some (.lst ([1, 2, 3, 6, 10, 12, 30].map V.int)) := upd_same
    obtain ⟨op, eop⟩ := hp1.some
    refine ⟨p, l, [1, 2, 3, 6, 10, 12, 30], rfl, hp1.same s2, hl2, (ne_of_none eop nl).symm, by decide, by decide, fun H3 st b3 hp3 mem => ?_⟩
    have hst : 1 ≤ st ∧ st ≤ 30 := by
      simp at mem
      omega
    have b13 := b1.trans ((But.of s2).trans b3)
    refine ⟨_, rfl, _, rfl, _, rfl, 1, rfl, 12, rfl, by show 4 ≤ sizeLine; decide, fun m nm => ?_⟩
    have s4 : Same H3 (upd H3 m (.lst ([1, -1, 3, -12].map V.int))) := same_new nm
    have hm4 : (upd H3 m (.lst ([1, -1, 3, -12].map V.int))) m = some (.lst ([1, -1, 3, -12].map V.int)) := upd_same
    obtain ⟨op, eop⟩ := hp3.some
    refine ⟨p, m, [1, -1, 3, -12], rfl, hp3.same s4, hm4, (ne_of_none eop nm).symm, by decide, by decide, fun H5 pw b5 hp5 mem5 => ?_⟩
    have hpw : -12 ≤ pw ∧ pw ≤ 12 := by
      simp at mem5
      omega
    have b15 := b13.trans ((But.of s4).trans b5)
    have ht5 := ht.but b15 hp.noTup
    refine ⟨by show 2 ≤ sizeLine; decide, fun q nq => ⟨by show 1 ≤ sizeLine; decide, fun u nu => ⟨by show 2 ≤ sizeLine; decide, fun L nL => ?_⟩⟩⟩
    have s6 : Same H5 (upd H5 q (.tup [.int st, .int pw])) := same_new nq
    have hq6 : (upd H5 q (.tup [.int st, .int pw])) q = some (.tup [.int st, .int pw]) := upd_same
    generalize upd H5 q (.tup [.int st, .int pw]) = H6 at s6 hq6 nu nL ⊢
    have s7 : Same H6 (upd H6 u (.tup [.ref q])) := same_new nu
    have hu7 : (upd H6 u (.tup [.ref q])) u = some (.tup [.ref q]) := upd_same
    generalize upd H6 u (.tup [.ref q]) = H7 at s7 hu7 nL ⊢
    have s8 : Same H7 (upd H7 L (.lst [.ref t, .ref u])) := same_new nL
    have hL8 : (upd H7 L (.lst [.ref t, .ref u])) L = some (.lst [.ref t, .ref u]) := upd_same
    generalize upd H7 L (.lst [.ref t, .ref u]) = H8 at s8 hL8 ⊢
    have s58 := s6.trans (s7.trans s8)
    refine ⟨L, [t, u], [ps, [(st, pw)]], rfl, hL8, .cons (ht5.same s58) (.cons ⟨[q], s8 _ _ hu7, .cons (s8 _ _ (s7 _ _ hq6)) .nil⟩ .nil), fun xs hxs x hx => ?_, ?_, fun H9 t9 qs s9 ht9 v9 => k H9 t9 qs (b15.trans (.of (s58.trans s9))) (hp5.same (s58.trans s9)) ht9 v9⟩
    · rcases List.mem_cons.mp hxs with z | z
      · subst z
        have h1 := dr.val.bnd x hx
        have h2 := dr.pow x hx
        omega
      · have z2 : xs = [(st, pw)] := by simpa using z
        subst z2
        have z3 : x = (st, pw) := by simpa using hx
        rw [z3]
        exact ⟨hst.1, hst.2, hpw.1, hpw.2⟩
    · show ps.length + (1 + 0) ≤ 5
      have := dr.few
      omega
def spParted : Sp := fun vs H Q _ => ∃ (t u : Addr) (ps qs : Pows), vs = [.ref t, .ref u] ∧ PwAt H t ps ∧ PwAt H u qs ∧ Valid 60 ps ∧ Valid 60 qs ∧ ∀ H' r, Same H H' → IsDue (lk ps) (lk qs) r → Q (oV r) H'
theorem cl_parted (D : Df K mg "_law_parted" sParted ["_law_one", "_law_other_here"]) (B : Bt mg) : Cl P w K mg base 1 "_law_parted" spParted := by
  refine D.cl scParted (fun vs H Q E h => ?_) (fun f cdv A outer s H vs Q E hr h => ?_)
  · obtain ⟨a, b, ps, qs, rfl, _⟩ := h
    rfl
  · obtain ⟨a, b, ps, qs, rfl, ⟨as, ha, hap⟩, ⟨bs, hb, hbp⟩, vp, vq, k⟩ := h
    have hu := hu_of hr
    refine ⟨_, pss_cons (ps_asg (pe_tup (pa_cons (pe_callTy (call_dictP rfl) (by rfl) B.dict boot_dict (pa_cons (pe_callTy call_list_of (by rfl) B.list boot_list (pa_cons (pv 0) pa_nil)) pa_nil))
          (pa_cons (pe_callTy (call_dictP rfl) (by rfl) B.dict boot_dict (pa_cons (pe_callTy call_list_of (by rfl) B.list boot_list (pa_cons (pv 1) pa_nil)) pa_nil)) pa_nil)))
        (pg_tup rfl (pgs_cons (pg_name (i := 2) scParted.nd rfl (.inr rfl)) (pgs_cons (pg_name (i := 3) scParted.nd rfl (.inr rfl)) pgs_nil))))
      (pss_cons (ps_setLc (i := 4) (own := [("_law_step", 5)]) (g := gName 5) (tt := tTest (tOp rNe (tDGet2 (tVar 2) (tVar 5) (tC (.int 0))) (tDGet2 (tVar 3) (tVar 5) (tC (.int 0))))) (te := tVar 5) rfl scParted.nd rfl rfl (sw_true rfl rfl rfl (by decide +kernel))
        (pi_list (pe_callB cr_sorted (by rfl) B.sorted boot_sorted (pa_cons (pe_op op_cat (pe_callTy (call_listD rfl) (by rfl) B.list boot_list (pa_cons (pv 2) pa_nil)) (pe_callTy (call_listD rfl) (by rfl) B.list boot_list (pa_cons (pv 3) pa_nil))) pa_nil)))
        (blkOk_by (own := [("_law_step", 5)]) (N := nParted) (sc := defScope sParted) (by decide +kernel)) (fun _ _ _ _ _ => pg_name (i := 5) scParted.nd rfl (.inl rfl))
        (fun _ _ _ _ _ => pts_one (pt_cmpR op_ne (pe_dget2 hu (pv 2) (pv 5) pe_int ⟨rfl, rfl, rfl, rfl⟩) (pe_dget2 hu (pv 3) (pv 5) pe_int ⟨rfl, rfl, rfl, rfl⟩) (nomark _))) (fun _ _ _ _ _ => pv 5))
      (pss_one (ps_ret (pe_ifExp (pt_cmpR (op_neD hr.units) (pv 4) (pe_lst pa_nil) (nomark _)) (pe_ix ix_list (pv 4) pe_int (fun _ _ => rfl)) pe_non)))), ?_⟩
    refine ⟨_, rfl, a, _, rfl, .inr (sqT ha), fun l1 nl1 => ?_⟩
    have s1 : Same H (upd H l1 (.lst (as.map V.ref))) := same_new nl1
    have hl1 : (upd H l1 (.lst (as.map V.ref))) l1 = some (.lst (as.map V.ref)) := upd_same
    generalize upd H l1 (.lst (as.map V.ref)) = H1 at s1 hl1 ⊢
    refine ⟨l1, as, kvO ps, rfl, sqL hl1, kv_paired (paired_imp (fun _ _ h => s1 _ _ h) hap), fun d1 nd1 => ?_⟩
    rw [kvO_merge vp]
    have s2 : Same H1 (upd H1 d1 (.dK (kvO ps))) := same_new nd1
    have f1 : (upd H1 d1 (.dK (kvO ps))) d1 = some (.dK (kvO ps)) := upd_same
    generalize upd H1 d1 (.dK (kvO ps)) = H2 at s2 f1 ⊢
    have s02 := s1.trans s2
    refine ⟨_, rfl, b, _, rfl, .inr (sqT (s02 _ _ hb)), fun l2 nl2 => ?_⟩
    have s3 : Same H2 (upd H2 l2 (.lst (bs.map V.ref))) := same_new nl2
    have hl2 : (upd H2 l2 (.lst (bs.map V.ref))) l2 = some (.lst (bs.map V.ref)) := upd_same
    generalize upd H2 l2 (.lst (bs.map V.ref)) = Ha at s3 hl2 ⊢
    refine ⟨l2, bs, kvO qs, rfl, sqL hl2, kv_paired (paired_imp (fun _ _ h => s3 _ _ (s02 _ _ h)) hbp), fun d2 nd2 => ?_⟩
    rw [kvO_merge vq]
    have s4 : Same Ha (upd Ha d2 (.dK (kvO qs))) := same_new nd2
    have f2 : (upd Ha d2 (.dK (kvO qs))) d2 = some (.dK (kvO qs)) := upd_same
    generalize upd Ha d2 (.dK (kvO qs)) = Hb at s4 f2 ⊢
    refine ⟨by show 2 ≤ sizeLine; decide, fun t nt => ?_⟩
    have s5 : Same Hb (upd Hb t (.tup [.ref d1, .ref d2])) := same_new nt
    refine ⟨t, [.ref d1, .ref d2], rfl, sqT upd_same, rfl, _, _, rfl, _, _, rfl, rfl, ?_⟩
    have s03 := s02.trans (s3.trans (s4.trans s5))
    have e1 := s5 _ _ (s4 _ _ (s3 _ _ f1))
    have e2 := s5 _ _ f2
    generalize upd Hb t (.tup [.ref d1, .ref d2]) = H3 at s03 e1 e2
    refine ⟨_, rfl, d1, _, rfl, .inl e1, fun l1 n1 => ?_⟩
    have u1 : Same H3 (upd H3 l1 (.lst ((kvO ps).map fun kv => kV kv.1))) := same_new n1
    refine ⟨_, rfl, d2, _, rfl, .inl (u1 _ _ e2), fun l2 n2 => ?_⟩
    have u2 : Same (upd H3 l1 (.lst ((kvO ps).map fun kv => kV kv.1))) (upd (upd H3 l1 (.lst ((kvO ps).map fun kv => kV kv.1))) l2 (.lst ((kvO qs).map fun kv => kV kv.1))) := same_new n2
    refine ⟨l1, l2, _, _, rfl, rfl, u2 _ _ upd_same, upd_same, Nat.le_of_lt (okSize ?_), fun l3 n3 => ?_⟩
    · rw [List.length_map, List.length_map, kvO_len, kvO_len]
      have := vp.len
      have := vq.len
      omega
    have u3 : Same (upd (upd H3 l1 (.lst ((kvO ps).map fun kv => kV kv.1))) l2 (.lst ((kvO qs).map fun kv => kV kv.1))) (upd (upd (upd H3 l1 (.lst ((kvO ps).map fun kv => kV kv.1))) l2 (.lst ((kvO qs).map fun kv => kV kv.1))) l3 (.lst (((kvO ps).map fun kv => kV kv.1) ++ ((kvO qs).map fun kv => kV kv.1)))) := same_new n3
    refine ⟨l3, ps.map (·.1) ++ qs.map (·.1), rfl, sqL ?_, ?_, fun ks l4 perm sorted n4 => ?_⟩
    · rw [upd_same, kvO_keys, kvO_keys, ← List.map_append]
    · rw [List.length_append, List.length_map, List.length_map]
      have := vp.len
      have := vq.len
      omega
    have u4 : Same (upd (upd (upd H3 l1 (.lst ((kvO ps).map fun kv => kV kv.1))) l2 (.lst ((kvO qs).map fun kv => kV kv.1))) l3 (.lst (((kvO ps).map fun kv => kV kv.1) ++ ((kvO qs).map fun kv => kV kv.1)))) (upd (upd (upd (upd H3 l1 (.lst ((kvO ps).map fun kv => kV kv.1))) l2 (.lst ((kvO qs).map fun kv => kV kv.1))) l3 (.lst (((kvO ps).map fun kv => kV kv.1) ++ ((kvO qs).map fun kv => kV kv.1)))) l4 (.lst (ks.map V.int))) := same_new n4
    have s34 := u1.trans (u2.trans (u3.trans u4))
    generalize hH4 : upd (upd (upd (upd H3 l1 (.lst ((kvO ps).map fun kv => kV kv.1))) l2 (.lst ((kvO qs).map fun kv => kV kv.1))) l3 (.lst (((kvO ps).map fun kv => kV kv.1) ++ ((kvO qs).map fun kv => kV kv.1)))) l4 (.lst (ks.map V.int)) = H4 at s34 ⊢
    have e4 : H4 l4 = some (.lst (ks.map V.int)) := by rw [← hH4, upd_same]
    have few : ks.length ≤ 24 := by
      rw [perm.length_eq, List.length_append, List.length_map, List.length_map]
      have := vp.len
      have := vq.len
      omega
    refine ⟨l4, rfl, ⟨_, sqL e4⟩, fun L nL => lc_it (walk_list (xs := ks.map V.int)) (fun i H5 => Same H4 H5 ∧ H5 L = some (.lst (((ks.take i).filter fun s => decide (lk ps s ≠ lk qs s)).map V.int))) ⟨same_new nL, upd_same⟩ (fun i H5 _ z => sqL (z.1 _ _ e4)) ?_ ?_⟩
    · rintro i x H5 H6 hi ⟨s5, eL⟩ ⟨rfl, hx⟩
      rw [List.getElem?_map] at hx
      obtain ⟨n, hn, rfl⟩ := Option.map_eq_some_iff.mp hx
      have f1 := s5 _ _ (s34 _ _ e1)
      have f2 := s5 _ _ (s34 _ _ e2)
      refine ⟨rfl, _, rfl, d1, rfl, .inl ⟨_, .inl f1⟩, _, rfl, _, DGet.k (k := Sum.inl n) f1, _, rfl, d2, rfl, .inl ⟨_, .inl f2⟩, _, rfl, _, DGet.k (k := Sum.inl n) f2, ?_⟩
      rw [kvO_val, kvO_val]
      refine ⟨rfl, _, rfl, ?_⟩
      have tk : ks.take (i + 1) = ks.take i ++ [n] := by
        rw [List.take_add_one, hn]
        rfl
      by_cases e : lk ps n = lk qs n
      · rw [e]
        refine iteNS rfl ⟨s5, ?_⟩
        rw [eL, tk, List.filter_append]
        simp [e]
      · refine ifND (fun z => e (V.int.inj z)) ⟨_, rfl, _, eL, okSize ?_, fun b o q => ?_, ?_⟩
        · rw [List.length_map]
          have := List.length_filter_le (fun s => decide (lk ps s ≠ lk qs s)) (ks.take i)
          rw [List.length_take] at this
          omega
        · rw [upd_ne (ne_of_none q nL)]
          exact s5 b o q
        · rw [upd_same, tk, List.filter_append]
          simp [e]
    · rintro H5 ⟨s5, eL⟩
      rw [List.length_map, List.take_length] at eL
      have due := due_of_filter sorted (ps := ps) (qs := qs) fun s => by
        rw [perm.mem_iff, List.mem_append, List.mem_map, List.mem_map]
      generalize hF : ks.filter (fun s => decide (lk ps s ≠ lk qs s)) = F at eL due
      refine ⟨_, rfl, by show 0 ≤ sizeLine; exact Nat.zero_le _, fun z nz => ?_⟩
      have s6 : Same H5 (upd H5 z (.lst [])) := same_new nz
      refine ⟨.list (F.map PyData.int), .list (([] : List Int).map PyData.int), .lst (sqL (s6 _ _ eL)) (dpInts F), .lst (sqL upd_same) (dpInts []), shaped_ints F, shaped_ints [], _, rfl, ?_⟩
      rw [eqv_ints]
      have s7 := s03.trans (s34.trans (s5.trans s6))
      cases F with
      | nil => exact iteNS rfl (k _ none s7 due)
      | cons d r => exact ifND (by simp) ⟨_, rfl, L, _, 0, .int d, rfl, rfl, sqL (s6 _ _ eL), atI_nat (j := 0) rfl, k _ (some d) s7 due⟩
end
end K19
/-! K19M: _law_right, law. -/
namespace K19
open PySem PySem.Spec PyProof.Rows L2 RZ
abbrev sRight : Stmt := topS 43
abbrev sLaw : Stmt := topS 44
abbrev nRight : List Str := ["_law_pot_here", "_law_one", "_law_other_here", "_law_near", "_law_far", "_law_due", "_law_row_here", "_law_late"]
theorem scRight : FnScope nRight ["_law_pot_here"] (defScope sRight) := ⟨rfl, rfl, rfl, by decide +kernel, rfl, by decide +kernel, by decide +kernel⟩
theorem scLaw : FnScope ["_law_script"] ["_law_script"] (defScope sLaw) := ⟨rfl, rfl, rfl, by decide +kernel, rfl, by decide +kernel, by decide +kernel⟩
/-! ### data: what a pair of due steps shows, tuples of pairs -/
def dO : Option Int → PyData
  | none => .none
  | some d => .int d
theorem dp_oV {K : PySem.W.Frag} {H : Hp} : ∀ r : Option Int, Dp K H (oV r) (dO r)
  | none => .non
  | some d => .int d
def dTwo (r : Option Int) : PyData := .list [dO r, dO r]
theorem two_small : ∀ d : Fin 61, (dTwo (some (d.val : Int))).showable = true ∧ (dTwo (some (d.val : Int))).hasDict = false ∧ (dTwo (some (d.val : Int))).depth ≤ 8 ∧ (dTwo (some (d.val : Int))).shown.length ≤ 1000 := by decide +kernel
theorem two_none : (dTwo none).showable = true ∧ (dTwo none).hasDict = false ∧ (dTwo none).depth ≤ 8 ∧ (dTwo none).shown.length ≤ 1000 := by decide +kernel
def dPs (ps : Pows) : PyData := .tuple (ps.map fun x => .tuple [.int x.1, .int x.2])
theorem dp_all {K : PySem.W.Frag} {H : Hp} : ∀ {l : List Addr} {m : Pows}, Paired (fun (r : Addr) (kv : Int × Int) => H r = some (.tup [.int kv.1, .int kv.2])) l m → DpAll K H (l.map V.ref) (m.map fun x => .tuple [.int x.1, .int x.2])
  | _, _, .nil => .nil
  | _, _, .cons a r => .cons (.tup (sqT a) (.cons (.int _) (.cons (.int _) .nil))) (dp_all r)
theorem dp_ps {K : PySem.W.Frag} {H : Hp} {t : Addr} {ps : Pows} (h : PwAt H t ps) : Dp K H (.ref t) (dPs ps) := by
  obtain ⟨qs, h1, h2⟩ := h
  exact .tup (sqT h1) (dp_all h2)
theorem lay_ps : ∀ ps : Pows, PyData.canLayAll0 (ps.map fun x => .tuple [.int x.1, .int x.2]) = true
  | [] => by simp [PyData.canLayAll0]
  | x :: ps => by
    rw [List.map_cons, PyData.canLayAll0, lay_ps ps]
    simp [PyData.canLay0, PyData.canLayAll0]
theorem depth_ps : ∀ ps : Pows, PyData.depthAll (ps.map fun x => .tuple [.int x.1, .int x.2]) ≤ 2
  | [] => by simp [PyData.depthAll]
  | x :: ps => by
    have := depth_ps ps
    rw [List.map_cons, PyData.depthAll]
    simp [PyData.depth, PyData.depthAll] at this ⊢
    omega
theorem shaped_ps (ps : Pows) : SeqAt.shaped (dPs ps) = true := by
  have h1 := lay_ps ps
  have h2 := depth_ps ps
  unfold SeqAt.shaped dPs
  rw [PyData.canLay0, PyData.depth, h1]
  simp
  omega
/-! ### plain -/
theorem due_small {ps qs : Pows} {d : Int} (vp : Valid 30 ps) (vq : Valid 30 qs) (h : IsDue (lk ps) (lk qs) (some d)) : 1 ≤ d ∧ d ≤ 30 := by
  by_cases e : lk ps d = 0
  · obtain ⟨y, hy, rfl⟩ := lk_mem (ps := qs) (x := d) fun z => h.1 (by rw [e, z])
    have := vq.bnd y hy
    exact ⟨this.1, this.2.1⟩
  · obtain ⟨y, hy, rfl⟩ := lk_mem e
    have := vp.bnd y hy
    exact ⟨this.1, this.2.1⟩
theorem two_ok {ps qs : Pows} {r : Option Int} (vp : Valid 30 ps) (vq : Valid 30 qs) (h : IsDue (lk ps) (lk qs) r) : (dTwo r).showable = true ∧ (dTwo r).hasDict = false ∧ (dTwo r).depth ≤ 8 ∧ (dTwo r).shown.length ≤ 1000 := by
  cases r with
  | none => exact two_none
  | some d =>
    obtain ⟨h1, h2⟩ := due_small vp vq h
    have := two_small ⟨d.toNat, by omega⟩
    have e : ((d.toNat : Nat) : Int) = d := by omega
    rw [← e]
    exact this
theorem sixty_due : IsDue (lk [(60, 1)]) (lk []) (some 60) := by
  refine ⟨by decide, fun s hs => ?_⟩
  show (if (60 : Int) = s then (1 : Int) else 0) = 0
  rw [if_neg (by omega)]
theorem sixty_valid : Valid 60 [(60, 1)] := ⟨List.pairwise_singleton _ _, fun x hx => by
  have : x = (60, 1) := by simpa using hx
  rw [this]
  decide, by decide⟩
theorem nil_valid {m : Int} : Valid m [] := ⟨.nil, fun x hx => (nomatch hx), by decide⟩
theorem cut_take {L : List Int} (d : Nat) : cutV (L.map V.int) none (some (d : Int)) = (L.take d).map V.int := by
  unfold cutV
  rw [HT.sIx_none, HT.sIx_nat, List.length_map, List.drop_zero, Nat.sub_zero, ← List.map_take]
  congr 1
  by_cases h : d ≤ L.length
  · rw [Nat.min_eq_left h]
  · rw [Nat.min_eq_right (by omega), List.take_of_length_le (by omega), List.take_of_length_le (by omega)]
section
variable {P : Program} {w : World} {K : PySem.W.Frag} {mg : Str → Option Value} {base : Heap}
def spRight : Sp := fun vs H Q _ => ∃ p : Addr, vs = [.ref p] ∧ PotAt H p ∧ ∀ H', Q (.bl true) H'
theorem fn_right {f : Addr} {fd : FuncData} (F : Fun K "_law_right" "_law_right" sRight f fd) (PP : Cl P w K mg base 5 "parting_place" spUnlike) (PK : ClK P w K mg base 5 "parting_place" ["other", "product"] spUnlike) (N : Cl P w K mg base 3 "_law_drawn" spDrawn)
    (O : Cl P w K mg base 4 "_law_other" spOther) (D : Cl P w K mg base 1 "_law_parted" spParted) (U : Cl P w K mg base 3 "first_unlike" spFirst) (R : Cl P w K mg base 5 "product_row" spNumbers) (L : Cl P w K mg base 2 "_law_row" spRow) (B : Bt mg) :
    FnG P w K mg base 6 f fd ["_law_pot_here"] spRight := by
  refine okG F scRight (fun vs H Q E h => ?_) (fun cdv A callers s H vs Q E hgd hr h => ?_)
  · obtain ⟨p, rfl, _⟩ := h
    rfl
  · obtain ⟨p, rfl, hp, k⟩ := h
    have hu := hu_of hr
    refine ⟨_, pss_cons (ps_if (pt_cmpR op_ne (pe_cl PP hr (by decide) (by rfl) (pa_cons (pe_tup (pa_cons pe_str (pa_cons (pe_tup (pa_cons (pe_tup (pa_cons pe_int (pa_cons pe_int pa_nil))) pa_nil)) pa_nil))) (pa_cons (pe_tup (pa_cons pe_str (pa_cons (pe_tup pa_nil) pa_nil))) pa_nil))) pe_int (nomark _)) (pss_one (ps_ret pe_bl)) pss_nil)
      (pss_cons (ps_set (i := 1) scRight.nd rfl (.inl rfl) (pe_cl N hr (by decide) (by rfl) (pa_cons (pv 0) (pa_cons pe_int (pa_cons pe_int pa_nil)))))
      (pss_cons (ps_set (i := 2) scRight.nd rfl (.inl rfl) (pe_cl O hr (by decide) (by rfl) (pa_cons (pv 0) (pa_cons (pv 1) pa_nil))))
      (pss_cons (ps_par (i := 3) (j := 4) rfl scRight.nd rfl rfl (by decide) rfl rfl (pa_cons (pe_tup (pa_cons pe_str (pa_cons (pv 1) pa_nil))) (pa_cons (pe_tup (pa_cons pe_str (pa_cons (pv 2) pa_nil))) pa_nil)) (by rfl))
      (pss_cons (ps_set (i := 5) scRight.nd rfl (.inl rfl) (pe_cl D hr (by decide) (by rfl) (pa_cons (pv 1) (pa_cons (pv 2) pa_nil))))
      (pss_cons (ps_if (pt_cmpR op_ne (pe_callB (cr_repr hgd hr) (by rfl) B.repr boot_repr (pa_cons (pe_lst (pa_cons (pe_cl PP hr (by decide) (by rfl) (pa_cons (pv 3) (pa_cons (pv 4) pa_nil))) (pa_cons (pe_clK PK hr (by decide) (by rfl) (pk_cons (pv 3) (pk_cons (pv 4) pk_nil))) pa_nil))) pa_nil))
          (pe_callB (cr_repr hgd hr) (by rfl) B.repr boot_repr (pa_cons (pe_lst (pa_cons (pv 5) (pa_cons (pv 5) pa_nil))) pa_nil)) (nomark _)) (pss_one (ps_ret pe_bl)) pss_nil)
      (pss_cons (ps_if (pt_cmpR op_isN (pv 5) pe_non (nomark _)) (pss_one (ps_ret (pe_and (pe_cmpR (op_eqD hr.units) (pv 1) (pv 2) (nomark _)) (pe_one (pe_cmpR op_isN (pe_cl U hr (by decide) (by rfl) (pa_cons (pe_cl R hr (by decide) (by rfl) (pa_cons (pv 3) (pa_cons pe_int pa_nil))) (pa_cons (pe_cl R hr (by decide) (by rfl) (pa_cons (pv 4) (pa_cons pe_int pa_nil))) pa_nil))) pe_non (nomark _)))))) pss_nil)
      (pss_cons (ps_par (i := 6) (j := 7) rfl scRight.nd rfl rfl (by decide) rfl rfl (pa_cons (pe_cl L hr (by decide) (by rfl) (pa_cons (pv 1) (pa_cons (pe_op op_add (pv 5) pe_int) pa_nil))) (pa_cons (pe_cl L hr (by decide) (by rfl) (pa_cons (pv 2) (pa_cons (pe_op op_add (pv 5) pe_int) pa_nil))) pa_nil)) (by rfl))
      (pss_cons (ps_if (PW.pt (pw_or (pt_cmpR (op_neD hr.units) (pe_slice sl_list (pv 6) po_none (po_some (pv 5))) (pe_slice sl_list (pv 7) po_none (po_some (pv 5))) (nomark _))
          (pw_or1 (pt_cmpR op_ne (pe_op op_sub (pe_ix ix_list (pv 6) (pv 5) (fun _ _ => rfl)) (pe_ix ix_list (pv 7) (pv 5) (fun _ _ => rfl)))
            (pe_op op_sub (pe_dget2 hu (pe_callTy (call_dictP rfl) (by rfl) B.dict boot_dict (pa_cons (pe_callTy call_list_of (by rfl) B.list boot_list (pa_cons (pv 2) pa_nil)) pa_nil)) (pv 5) pe_int ⟨rfl, rfl, rfl, rfl⟩)
              (pe_dget2 hu (pe_callTy (call_dictP rfl) (by rfl) B.dict boot_dict (pa_cons (pe_callTy call_list_of (by rfl) B.list boot_list (pa_cons (pv 1) pa_nil)) pa_nil)) (pv 5) pe_int ⟨rfl, rfl, rfl, rfl⟩)) (nomark _))))) (pss_one (ps_ret pe_bl)) pss_nil)
      (pss_one (ps_ret (pe_cmpR op_eq (pe_cl U hr (by decide) (by rfl) (pa_cons (pe_cl R hr (by decide) (by rfl) (pa_cons (pv 3) (pa_cons (pe_op op_add (pv 5) pe_int) pa_nil))) (pa_cons (pe_cl R hr (by decide) (by rfl) (pa_cons (pv 4) (pa_cons (pe_op op_add (pv 5) pe_int) pa_nil))) pa_nil))) (pv 5) (nomark _)))))))))))), ?_⟩
    -- a product of step 60 against one of no steps
    refine ⟨by show 2 ≤ sizeLine; decide, fun q nq => ⟨by show 1 ≤ sizeLine; decide, fun u nu => ⟨by show 2 ≤ sizeLine; decide, fun a na => ⟨by show 0 ≤ sizeLine; exact Nat.zero_le _, fun e ne => ⟨by show 2 ≤ sizeLine; decide, fun b nb => ?_⟩⟩⟩⟩⟩
    have s1 : Same H (upd H q (.tup [.int 60, .int 1])) := same_new nq
    have hq : (upd H q (.tup [.int 60, .int 1])) q = some (.tup [.int 60, .int 1]) := upd_same
    generalize upd H q (.tup [.int 60, .int 1]) = H1 at s1 hq nu na ne nb ⊢
    have s2 : Same H1 (upd H1 u (.tup [.ref q])) := same_new nu
    have hu2 : (upd H1 u (.tup [.ref q])) u = some (.tup [.ref q]) := upd_same
    generalize upd H1 u (.tup [.ref q]) = H2 at s2 hu2 na ne nb ⊢
    have s3 : Same H2 (upd H2 a (.tup [.str "product", .ref u])) := same_new na
    have ha3 : (upd H2 a (.tup [.str "product", .ref u])) a = some (.tup [.str "product", .ref u]) := upd_same
    generalize upd H2 a (.tup [.str "product", .ref u]) = H3 at s3 ha3 ne nb ⊢
    have s4 : Same H3 (upd H3 e (.tup [])) := same_new ne
    have he4 : (upd H3 e (.tup [])) e = some (.tup []) := upd_same
    generalize upd H3 e (.tup []) = H4 at s4 he4 nb ⊢
    have s5 : Same H4 (upd H4 b (.tup [.str "product", .ref e])) := same_new nb
    have hb5 : (upd H4 b (.tup [.str "product", .ref e])) b = some (.tup [.str "product", .ref e]) := upd_same
    generalize upd H4 b (.tup [.str "product", .ref e]) = H5 at s5 hb5 ⊢
    have s25 := s3.trans (s4.trans s5)
    refine ⟨a, b, [(60, 1)], [], rfl, ⟨u, s5 _ _ (s4 _ _ ha3), [q], s25 _ _ hu2, .cons (s25 _ _ (s2 _ _ hq)) .nil⟩, ⟨e, hb5, [], s5 _ _ he4, .nil⟩, sixty_valid, nil_valid, fun H6 r s6 due => ?_⟩
    cases due.uniq sixty_due
    have s06 := s1.trans (s2.trans (s25.trans s6))
    have hp6 := hp.same s06
    refine ⟨rfl, _, rfl, iteNS rfl ?_⟩
    clear s1 hq s2 hu2 s3 ha3 s4 he4 s5 hb5 s25 s6 due nq nu na ne nb
    refine ⟨_, rfl, p, rfl, hp6, fun H7 t ps b7 hp7 ht dr => ?_⟩
    refine ⟨_, rfl, _, rfl, p, t, ps, rfl, hp7, ht, dr, fun H8 t2 qs b8 hp8 ht2 vq => ?_⟩
    have ht8 := ht.but b8 hp7.noTup
    have vp := dr.val
    have vp60 := vp.mono (show (30 : Int) ≤ 60 by decide)
    have vq60 := vq.mono (show (30 : Int) ≤ 60 by decide)
    refine ⟨_, rfl, by show 2 ≤ sizeLine; decide, fun a na => ⟨_, rfl, by show 2 ≤ sizeLine; decide, fun b nb => ⟨_, _, rfl, ?_⟩⟩⟩
    have s9 : Same H8 (upd H8 a (.tup [.str "product", .ref t])) := same_new na
    have ha9 : (upd H8 a (.tup [.str "product", .ref t])) a = some (.tup [.str "product", .ref t]) := upd_same
    generalize upd H8 a (.tup [.str "product", .ref t]) = H9 at s9 ha9 nb ⊢
    have s10 : Same H9 (upd H9 b (.tup [.str "product", .ref t2])) := same_new nb
    have hb10 : (upd H9 b (.tup [.str "product", .ref t2])) b = some (.tup [.str "product", .ref t2]) := upd_same
    generalize upd H9 b (.tup [.str "product", .ref t2]) = H10 at s10 hb10 ⊢
    have s810 := s9.trans s10
    have t10 := ht8.same s810
    have u10 := ht2.same s810
    have pa : PrAt H10 a ps := ⟨t, s10 _ _ ha9, t10⟩
    have pb : PrAt H10 b qs := ⟨t2, hb10, u10⟩
    clear s9 ha9 s10 hb10 s810 na nb
    refine ⟨_, rfl, _, rfl, t, t2, ps, qs, rfl, t10, u10, vp60, vq60, fun H11 r s11 due => ?_⟩
    -- what both calls show
    refine ⟨_, rfl, _, rfl, a, b, ps, qs, rfl, pa.same s11, pb.same s11, vp60, vq60, fun H12 r1 s12 due1 => ?_⟩
    cases due1.uniq due
    have s1012 := s11.trans s12
    refine ⟨_, rfl, _, rfl, b, a, qs, ps, rfl, pb.same s1012, pa.same s1012, vq60, vp60, fun H13 r2 s13 due2 => ?_⟩
    cases due2.uniq due.symm
    obtain ⟨w1, w2, w3, w4⟩ := two_ok vp vq due
    have w5 : (dTwo r).shown.length ≤ sizeLine := Nat.le_of_lt (okSize (by omega))
    refine ⟨by show 2 ≤ sizeLine; decide, fun L nL => ⟨L, dTwo r, rfl, .lst (sqL upd_same) (.cons (dp_oV r) (.cons (dp_oV r) .nil)), w1, w2, w3, w5, ?_⟩⟩
    have s14 : Same H13 (upd H13 L (.lst [oV r, oV r])) := same_new nL
    generalize upd H13 L (.lst [oV r, oV r]) = H14 at s14 ⊢
    refine ⟨_, rfl, _, rfl, by show 2 ≤ sizeLine; decide, fun M nM => ⟨M, dTwo r, rfl, .lst (sqL upd_same) (.cons (dp_oV r) (.cons (dp_oV r) .nil)), w1, w2, w3, w5, ?_⟩⟩
    have s15 : Same H14 (upd H14 M (.lst [oV r, oV r])) := same_new nM
    generalize upd H14 M (.lst [oV r, oV r]) = H15 at s15 ⊢
    refine ⟨rfl, _, rfl, iteNS rfl ?_⟩
    have s1015 := s1012.trans (s13.trans (s14.trans s15))
    have pa15 := pa.same s1015
    have pb15 := pb.same s1015
    have t15 := t10.same s1015
    have u15 := u10.same s1015
    clear s1012 s13 s14 s15 s1015 pa pb t10 u10 s11 s12 nL nM due1 due2
    refine ⟨_, rfl, rfl, _, rfl, ?_⟩
    cases r with
    | none =>
      refine ifD rfl ?_
      have same : ps = qs := canon vp60 vq60 due
      subst same
      refine ⟨_, rfl, _, rfl, dPs ps, dPs ps, dp_ps t15, dp_ps u15, shaped_ps ps, shaped_ps ps, _, rfl, ?_⟩
      rw [SeqAt.eqv_refl _ (SeqAt.canLay_of_shaped (shaped_ps ps))]
      refine iteT ?_
      refine ⟨_, rfl, a, ps, 40, rfl, pa15, vp60, by decide, by decide, fun H16 l s16 nl el => ?_⟩
      refine ⟨_, rfl, b, ps, 40, rfl, pb15.same s16, vp60, by decide, by decide, fun H17 m s17 nm em => ?_⟩
      refine ⟨l, m, _, _, rfl, s17 _ _ el, em, rfl, by rw [rowOf_len ps (by decide)]; decide, fun H18 x s18 first => ?_⟩
      cases first.uniq (show IsFirst (rowOf ps 40) (rowOf ps 40) none from fun _ => rfl)
      exact ⟨rfl, k H18⟩
    | some d =>
      refine ifDN (by intro z; cases z) ?_
      obtain ⟨d1, d2⟩ := due_small vp vq due
      obtain ⟨n, rfl⟩ : ∃ n : Nat, d = (n : Int) := ⟨d.toNat, by omega⟩
      have n0 : 0 < n := by omega
      obtain ⟨lp1, lp2⟩ := lawRow_part vp vq n0 due.2
      have lx : (lawRow (n + 1) ps).length = n + 1 := lawRow_len _ _
      have ly : (lawRow (n + 1) qs).length = n + 1 := lawRow_len _ _
      refine ⟨_, rfl, _, rfl, (n : Int), 1, rfl, rfl, t, ps, n + 1, rfl, t15, vp60, by omega, fun H16 x s16 nx ex => ?_⟩
      refine ⟨_, rfl, _, rfl, (n : Int), 1, rfl, rfl, t2, qs, n + 1, rfl, u15.same s16, vq60, by omega, fun H17 y s17 ny ey => ⟨_, _, rfl, ?_⟩⟩
      have ex17 := s17 _ _ ex
      have s1517 := s16.trans s17
      have t17 := t15.same s1517
      have u17 := u15.same s1517
      have pa17 := pa15.same s1517
      have pb17 := pb15.same s1517
      refine ⟨_, rfl, _, rfl, (n : Int), rfl, x, _, rfl, sqL ex17, fun c1 nc1 => ?_⟩
      rw [cut_take]
      have s18 : Same H17 (upd H17 c1 (.lst (((lawRow (n + 1) ps).take n).map V.int))) := same_new nc1
      have hc1 : (upd H17 c1 (.lst (((lawRow (n + 1) ps).take n).map V.int))) c1 = some (.lst (((lawRow (n + 1) ps).take n).map V.int)) := upd_same
      generalize upd H17 c1 (.lst (((lawRow (n + 1) ps).take n).map V.int)) = H18 at s18 hc1 ⊢
      refine ⟨_, rfl, _, rfl, (n : Int), rfl, y, _, rfl, sqL (s18 _ _ ey), fun c2 nc2 => ?_⟩
      rw [cut_take]
      have s19 : Same H18 (upd H18 c2 (.lst (((lawRow (n + 1) qs).take n).map V.int))) := same_new nc2
      have hc2 : (upd H18 c2 (.lst (((lawRow (n + 1) qs).take n).map V.int))) c2 = some (.lst (((lawRow (n + 1) qs).take n).map V.int)) := upd_same
      generalize upd H18 c2 (.lst (((lawRow (n + 1) qs).take n).map V.int)) = H19 at s19 hc2 ⊢
      refine ⟨.list (((lawRow (n + 1) ps).take n).map PyData.int), .list (((lawRow (n + 1) qs).take n).map PyData.int), .lst (sqL (s19 _ _ hc1)) (dpInts _), .lst (sqL hc2) (dpInts _), shaped_ints _, shaped_ints _, _, rfl, ?_⟩
      rw [eqv_ints]
      refine iteNS lp1 ?_
      have s1719 := s18.trans s19
      have gx : ((lawRow (n + 1) ps).map V.int)[n]? = some (.int ((lawRow (n + 1) ps).getD n 0)) := by
        rw [getD_of (List.getElem?_eq_getElem (by omega))]
        exact ints_at (List.getElem?_eq_getElem (by omega))
      have gy : ((lawRow (n + 1) qs).map V.int)[n]? = some (.int ((lawRow (n + 1) qs).getD n 0)) := by
        rw [getD_of (List.getElem?_eq_getElem (by omega))]
        exact ints_at (List.getElem?_eq_getElem (by omega))
      refine ⟨_, rfl, _, rfl, x, _, (n : Int), _, rfl, rfl, sqL (s1719 _ _ ex17), atI_nat gx, _, rfl, _, rfl, y, _, (n : Int), _, rfl, rfl, sqL (s1719 _ _ ey), atI_nat gy, _, _, rfl, rfl, ?_⟩
      have t19 := t17.same s1719
      have u19 := u17.same s1719
      have pa19 := pa17.same s1719
      have pb19 := pb17.same s1719
      clear s16 s17 s1517 s18 hc1 s19 hc2 s1719 ex ey ex17 t15 u15 pa15 pb15 t17 u17 pa17 pb17 gx gy nc1 nc2
      have t19' := t19
      have u19' := u19
      obtain ⟨as, ha, hap⟩ := t19'
      obtain ⟨bs, hb, hbp⟩ := u19'
      refine ⟨_, rfl, t2, _, rfl, .inr (sqT hb), fun l1 nl1 => ?_⟩
      have v1 : Same H19 (upd H19 l1 (.lst (bs.map V.ref))) := same_new nl1
      have hl1 : (upd H19 l1 (.lst (bs.map V.ref))) l1 = some (.lst (bs.map V.ref)) := upd_same
      generalize upd H19 l1 (.lst (bs.map V.ref)) = H20 at v1 hl1 ⊢
      refine ⟨l1, bs, kvO qs, rfl, sqL hl1, kv_paired (paired_imp (fun _ _ h => v1 _ _ h) hbp), fun g1 ng1 => ?_⟩
      rw [kvO_merge vq60]
      have v2 : Same H20 (upd H20 g1 (.dK (kvO qs))) := same_new ng1
      have f1 : (upd H20 g1 (.dK (kvO qs))) g1 = some (.dK (kvO qs)) := upd_same
      generalize upd H20 g1 (.dK (kvO qs)) = H21 at v2 f1 ⊢
      have v02 := v1.trans v2
      refine ⟨g1, rfl, .inl ⟨_, .inl f1⟩, _, rfl, _, DGet.k (k := Sum.inl (n : Int)) f1, ?_⟩
      refine ⟨_, rfl, t, _, rfl, .inr (sqT (v02 _ _ ha)), fun l2 nl2 => ?_⟩
      have v3 : Same H21 (upd H21 l2 (.lst (as.map V.ref))) := same_new nl2
      have hl2 : (upd H21 l2 (.lst (as.map V.ref))) l2 = some (.lst (as.map V.ref)) := upd_same
      generalize upd H21 l2 (.lst (as.map V.ref)) = H22 at v3 hl2 ⊢
      refine ⟨l2, as, kvO ps, rfl, sqL hl2, kv_paired (paired_imp (fun _ _ h => v3 _ _ (v02 _ _ h)) hap), fun g2 ng2 => ?_⟩
      rw [kvO_merge vp60]
      have v4 : Same H22 (upd H22 g2 (.dK (kvO ps))) := same_new ng2
      have f2 : (upd H22 g2 (.dK (kvO ps))) g2 = some (.dK (kvO ps)) := upd_same
      generalize upd H22 g2 (.dK (kvO ps)) = H23 at v4 f2 ⊢
      refine ⟨g2, rfl, .inl ⟨_, .inl f2⟩, _, rfl, _, DGet.k (k := Sum.inl (n : Int)) f2, ?_⟩
      refine ⟨lk qs n, lk ps n, kvO_val qs n, kvO_val ps n, rfl, _, rfl, iteNS (congrArg V.int lp2) ?_⟩
      have v04 := v02.trans (v3.trans v4)
      obtain ⟨r1, r2⟩ := rowOf_part (n := n + 3) vp vq (by omega) due (by omega)
      have nx : (rowOf ps (n + 3)).length = n + 3 := rowOf_len ps (by omega)
      have ny : (rowOf qs (n + 3)).length = n + 3 := rowOf_len qs (by omega)
      refine ⟨_, rfl, _, rfl, (n : Int), 3, rfl, rfl, a, ps, n + 3, rfl, pa19.same v04, vp60, by omega, by omega, fun H24 l s24 nl el => ?_⟩
      refine ⟨_, rfl, _, rfl, (n : Int), 3, rfl, rfl, b, qs, n + 3, rfl, (pb19.same v04).same s24, vq60, by omega, by omega, fun H25 m s25 nm em => ?_⟩
      refine ⟨l, m, _, _, rfl, s25 _ _ el, em, by omega, by omega, fun H26 z s26 first => ?_⟩
      cases first.uniq (show IsFirst (rowOf ps (n + 3)) (rowOf qs (n + 3)) (some n) from ⟨r2, r1⟩)
      refine ⟨_, rfl, rfl, ?_⟩
      show Q (.bl (decide (V.int (n : Int) = V.int (n : Int)))) H26
      rw [decide_eq_true rfl]
      exact k H26
def spLaw (K : PySem.W.Frag) : Sp := fun vs H Q _ => ∃ (a : Addr) (ns : List Int), vs = [.ref a] ∧ SqL K H a (ns.map V.int) ∧ ∀ H', Q (.bl true) H'
theorem fn_law {f g : Addr} {fd gd : FuncData} (F : Fun K "law" "law" sLaw f fd) (G : FnG P w K mg base 6 g gd ["_law_pot_here"] spRight) (hg : mg "_law_right" = some (.ref g)) (kp : PySem.W.keepIn K (.ref g) = true) (bi : Binds K gd ["_law_pot_here"] [])
    (T : Cl P w K mg base 1 "_law_pot" (spPot K)) : FnG P w K mg base 7 f fd ["_law_script"] (spLaw K) := by
  refine okG F scLaw (fun vs H Q E h => ?_) (fun cdv A callers s H vs Q E hgd hr h => ?_)
  · obtain ⟨a, ns, rfl, _⟩ := h
    rfl
  · obtain ⟨a, ns, rfl, ha, k⟩ := h
    refine ⟨_, pss_one (ps_ret (pe_callG G hgd hr (by rfl) hg kp bi (pa_cons (pe_cl T hr (by decide) (by rfl) (pa_cons (pv 0) (pa_cons pe_int pa_nil))) pa_nil))), ?_⟩
    exact ⟨_, rfl, a, ns, rfl, ha, fun H1 p s1 np hp => ⟨p, rfl, hp, k⟩⟩
end
end K19
/-! K19N: the facts put together. -/
namespace K19
open PySem PySem.Spec PyProof.Rows L2 RZ
section
variable {w : World} {K : PySem.W.Frag} {h : Heap} {mg : Str → Option Value}
theorem df_mk {x : Str} {st : Stmt} {ps : List Str} {f : Addr} {od an : Option Addr} {sl : Array (Option Value)} {oc kV dc pm cd ct : Value} (X : K.In h) (G : h.Ns mainGlobals mg) (a : PySem.W.nsIn K mainGlobals x = some (some (.ref f)))
    (l : K.lookup f = some ⟨oc, od, .func (PySem.W.fnOf x x (defArgs st) (defBody st) (defScope st) .none kV dc pm an cd ct), sl⟩) (c : PySem.W.codeIn K cd x = true) (k : PySem.W.keepIn K (.ref f) = true) (b : ∀ {g : Addr} {fd : FuncData}, Fun K x x st g fd → Binds K fd ps []) : Df K mg x st ps :=
  ⟨f, _, fun_mk l c k, b (fun_mk l c k), PySem.W.mg_of X G a⟩
theorem df_Integer {f : Addr} {od an : Option Addr} {sl : Array (Option Value)} {oc kV dc pm cd ct : Value} (X : K.In h) (G : h.Ns mainGlobals mg) (a : PySem.W.nsIn K mainGlobals "is_integer" = some (some (.ref f)))
    (l : K.lookup f = some ⟨oc, od, .func (PySem.W.fnOf "is_integer" "is_integer" (defArgs sInteger) (defBody sInteger) (defScope sInteger) .none kV dc pm an cd ct), sl⟩) (c : PySem.W.codeIn K cd "is_integer" = true) (k : PySem.W.keepIn K (.ref f) = true) : Df K mg "is_integer" sInteger ["value"] :=
  df_mk X G a l c k fun F => F.binds (ps := ["value"]) fun _ _ _ _ _ _ us hl => match us, hl with | [_], _ => rfl
theorem df_Count {f : Addr} {od an : Option Addr} {sl : Array (Option Value)} {oc kV dc pm cd ct : Value} (X : K.In h) (G : h.Ns mainGlobals mg) (a : PySem.W.nsIn K mainGlobals "is_count" = some (some (.ref f)))
    (l : K.lookup f = some ⟨oc, od, .func (PySem.W.fnOf "is_count" "is_count" (defArgs sCount) (defBody sCount) (defScope sCount) .none kV dc pm an cd ct), sl⟩) (c : PySem.W.codeIn K cd "is_count" = true) (k : PySem.W.keepIn K (.ref f) = true) : Df K mg "is_count" sCount ["value"] :=
  df_mk X G a l c k fun F => F.binds (ps := ["value"]) fun _ _ _ _ _ _ us hl => match us, hl with | [_], _ => rfl
theorem df_IsList {f : Addr} {od an : Option Addr} {sl : Array (Option Value)} {oc kV dc pm cd ct : Value} (X : K.In h) (G : h.Ns mainGlobals mg) (a : PySem.W.nsIn K mainGlobals "is_list" = some (some (.ref f)))
    (l : K.lookup f = some ⟨oc, od, .func (PySem.W.fnOf "is_list" "is_list" (defArgs sIsList) (defBody sIsList) (defScope sIsList) .none kV dc pm an cd ct), sl⟩) (c : PySem.W.codeIn K cd "is_list" = true) (k : PySem.W.keepIn K (.ref f) = true) : Df K mg "is_list" sIsList ["value"] :=
  df_mk X G a l c k fun F => F.binds (ps := ["value"]) fun _ _ _ _ _ _ us hl => match us, hl with | [_], _ => rfl
theorem df_Pair {f : Addr} {od an : Option Addr} {sl : Array (Option Value)} {oc kV dc pm cd ct : Value} (X : K.In h) (G : h.Ns mainGlobals mg) (a : PySem.W.nsIn K mainGlobals "is_power_pair" = some (some (.ref f)))
    (l : K.lookup f = some ⟨oc, od, .func (PySem.W.fnOf "is_power_pair" "is_power_pair" (defArgs sPair) (defBody sPair) (defScope sPair) .none kV dc pm an cd ct), sl⟩) (c : PySem.W.codeIn K cd "is_power_pair" = true) (k : PySem.W.keepIn K (.ref f) = true) : Df K mg "is_power_pair" sPair ["value"] :=
  df_mk X G a l c k fun F => F.binds (ps := ["value"]) fun _ _ _ _ _ _ us hl => match us, hl with | [_], _ => rfl
theorem df_IsProd {f : Addr} {od an : Option Addr} {sl : Array (Option Value)} {oc kV dc pm cd ct : Value} (X : K.In h) (G : h.Ns mainGlobals mg) (a : PySem.W.nsIn K mainGlobals "is_product_value" = some (some (.ref f)))
    (l : K.lookup f = some ⟨oc, od, .func (PySem.W.fnOf "is_product_value" "is_product_value" (defArgs sIsProd) (defBody sIsProd) (defScope sIsProd) .none kV dc pm an cd ct), sl⟩) (c : PySem.W.codeIn K cd "is_product_value" = true) (k : PySem.W.keepIn K (.ref f) = true) : Df K mg "is_product_value" sIsProd ["value"] :=
  df_mk X G a l c k fun F => F.binds (ps := ["value"]) fun _ _ _ _ _ _ us hl => match us, hl with | [_], _ => rfl
theorem df_Want {f : Addr} {od an : Option Addr} {sl : Array (Option Value)} {oc kV dc pm cd ct : Value} (X : K.In h) (G : h.Ns mainGlobals mg) (a : PySem.W.nsIn K mainGlobals "want_product" = some (some (.ref f)))
    (l : K.lookup f = some ⟨oc, od, .func (PySem.W.fnOf "want_product" "want_product" (defArgs sWant) (defBody sWant) (defScope sWant) .none kV dc pm an cd ct), sl⟩) (c : PySem.W.codeIn K cd "want_product" = true) (k : PySem.W.keepIn K (.ref f) = true) : Df K mg "want_product" sWant ["value"] :=
  df_mk X G a l c k fun F => F.binds (ps := ["value"]) fun _ _ _ _ _ _ us hl => match us, hl with | [_], _ => rfl
theorem df_PowersOf {f : Addr} {od an : Option Addr} {sl : Array (Option Value)} {oc kV dc pm cd ct : Value} (X : K.In h) (G : h.Ns mainGlobals mg) (a : PySem.W.nsIn K mainGlobals "powers_of" = some (some (.ref f)))
    (l : K.lookup f = some ⟨oc, od, .func (PySem.W.fnOf "powers_of" "powers_of" (defArgs sPowersOf) (defBody sPowersOf) (defScope sPowersOf) .none kV dc pm an cd ct), sl⟩) (c : PySem.W.codeIn K cd "powers_of" = true) (k : PySem.W.keepIn K (.ref f) = true) : Df K mg "powers_of" sPowersOf ["product"] :=
  df_mk X G a l c k fun F => F.binds (ps := ["product"]) fun _ _ _ _ _ _ us hl => match us, hl with | [_], _ => rfl
theorem df_Unlike {f : Addr} {od an : Option Addr} {sl : Array (Option Value)} {oc kV dc pm cd ct : Value} (X : K.In h) (G : h.Ns mainGlobals mg) (a : PySem.W.nsIn K mainGlobals "unlike_step" = some (some (.ref f)))
    (l : K.lookup f = some ⟨oc, od, .func (PySem.W.fnOf "unlike_step" "unlike_step" (defArgs sUnlike) (defBody sUnlike) (defScope sUnlike) .none kV dc pm an cd ct), sl⟩) (c : PySem.W.codeIn K cd "unlike_step" = true) (k : PySem.W.keepIn K (.ref f) = true) : Df K mg "unlike_step" sUnlike ["product", "other"] :=
  df_mk X G a l c k fun F => F.binds (ps := ["product", "other"]) fun _ _ _ _ _ _ us hl => match us, hl with | [_, _], _ => rfl
theorem df_Parting {f : Addr} {od an : Option Addr} {sl : Array (Option Value)} {oc kV dc pm cd ct : Value} (X : K.In h) (G : h.Ns mainGlobals mg) (a : PySem.W.nsIn K mainGlobals "parting_place" = some (some (.ref f)))
    (l : K.lookup f = some ⟨oc, od, .func (PySem.W.fnOf "parting_place" "parting_place" (defArgs sParting) (defBody sParting) (defScope sParting) .none kV dc pm an cd ct), sl⟩) (c : PySem.W.codeIn K cd "parting_place" = true) (k : PySem.W.keepIn K (.ref f) = true) : Df K mg "parting_place" sParting ["product", "other"] :=
  df_mk X G a l c k fun F => F.binds (ps := ["product", "other"]) fun _ _ _ _ _ _ us hl => match us, hl with | [_, _], _ => rfl
theorem df_WantRow {f : Addr} {od an : Option Addr} {sl : Array (Option Value)} {oc kV dc pm cd ct : Value} (X : K.In h) (G : h.Ns mainGlobals mg) (a : PySem.W.nsIn K mainGlobals "want_row" = some (some (.ref f)))
    (l : K.lookup f = some ⟨oc, od, .func (PySem.W.fnOf "want_row" "want_row" (defArgs sWantRow) (defBody sWantRow) (defScope sWantRow) .none kV dc pm an cd ct), sl⟩) (c : PySem.W.codeIn K cd "want_row" = true) (k : PySem.W.keepIn K (.ref f) = true) : Df K mg "want_row" sWantRow ["value"] :=
  df_mk X G a l c k fun F => F.binds (ps := ["value"]) fun _ _ _ _ _ _ us hl => match us, hl with | [_], _ => rfl
theorem df_WantPlaces {f : Addr} {od an : Option Addr} {sl : Array (Option Value)} {oc kV dc pm cd ct : Value} (X : K.In h) (G : h.Ns mainGlobals mg) (a : PySem.W.nsIn K mainGlobals "want_places" = some (some (.ref f)))
    (l : K.lookup f = some ⟨oc, od, .func (PySem.W.fnOf "want_places" "want_places" (defArgs sWantPlaces) (defBody sWantPlaces) (defScope sWantPlaces) .none kV dc pm an cd ct), sl⟩) (c : PySem.W.codeIn K cd "want_places" = true) (k : PySem.W.keepIn K (.ref f) = true) : Df K mg "want_places" sWantPlaces ["value", "most"] :=
  df_mk X G a l c k fun F => F.binds (ps := ["value", "most"]) fun _ _ _ _ _ _ us hl => match us, hl with | [_, _], _ => rfl
theorem df_WantDigits {f : Addr} {od an : Option Addr} {sl : Array (Option Value)} {oc kV dc pm cd ct : Value} (X : K.In h) (G : h.Ns mainGlobals mg) (a : PySem.W.nsIn K mainGlobals "want_digits" = some (some (.ref f)))
    (l : K.lookup f = some ⟨oc, od, .func (PySem.W.fnOf "want_digits" "want_digits" (defArgs sWantDigits) (defBody sWantDigits) (defScope sWantDigits) .none kV dc pm an cd ct), sl⟩) (c : PySem.W.codeIn K cd "want_digits" = true) (k : PySem.W.keepIn K (.ref f) = true) : Df K mg "want_digits" sWantDigits ["row"] :=
  df_mk X G a l c k fun F => F.binds (ps := ["row"]) fun _ _ _ _ _ _ us hl => match us, hl with | [_], _ => rfl
theorem df_StepSums {f : Addr} {od an : Option Addr} {sl : Array (Option Value)} {oc kV dc pm cd ct : Value} (X : K.In h) (G : h.Ns mainGlobals mg) (a : PySem.W.nsIn K mainGlobals "step_sums" = some (some (.ref f)))
    (l : K.lookup f = some ⟨oc, od, .func (PySem.W.fnOf "step_sums" "step_sums" (defArgs sStepSums) (defBody sStepSums) (defScope sStepSums) .none kV dc pm an cd ct), sl⟩) (c : PySem.W.codeIn K cd "step_sums" = true) (k : PySem.W.keepIn K (.ref f) = true) : Df K mg "step_sums" sStepSums ["product", "many"] :=
  df_mk X G a l c k fun F => F.binds (ps := ["product", "many"]) fun _ _ _ _ _ _ us hl => match us, hl with | [_, _], _ => rfl
theorem df_Numbers {f : Addr} {od an : Option Addr} {sl : Array (Option Value)} {oc kV dc pm cd ct : Value} (X : K.In h) (G : h.Ns mainGlobals mg) (a : PySem.W.nsIn K mainGlobals "numbers_of" = some (some (.ref f)))
    (l : K.lookup f = some ⟨oc, od, .func (PySem.W.fnOf "numbers_of" "numbers_of" (defArgs sNumbers) (defBody sNumbers) (defScope sNumbers) .none kV dc pm an cd ct), sl⟩) (c : PySem.W.codeIn K cd "numbers_of" = true) (k : PySem.W.keepIn K (.ref f) = true) : Df K mg "numbers_of" sNumbers ["product", "many"] :=
  df_mk X G a l c k fun F => F.binds (ps := ["product", "many"]) fun _ _ _ _ _ _ us hl => match us, hl with | [_, _], _ => rfl
theorem df_ProductRow {f : Addr} {od an : Option Addr} {sl : Array (Option Value)} {oc kV dc pm cd ct : Value} (X : K.In h) (G : h.Ns mainGlobals mg) (a : PySem.W.nsIn K mainGlobals "product_row" = some (some (.ref f)))
    (l : K.lookup f = some ⟨oc, od, .func (PySem.W.fnOf "product_row" "product_row" (defArgs sProductRow) (defBody sProductRow) (defScope sProductRow) .none kV dc pm an cd ct), sl⟩) (c : PySem.W.codeIn K cd "product_row" = true) (k : PySem.W.keepIn K (.ref f) = true) : Df K mg "product_row" sProductRow ["product", "many"] :=
  df_mk X G a l c k fun F => F.binds (ps := ["product", "many"]) fun _ _ _ _ _ _ us hl => match us, hl with | [_, _], _ => rfl
theorem df_First {f : Addr} {od an : Option Addr} {sl : Array (Option Value)} {oc kV dc pm cd ct : Value} (X : K.In h) (G : h.Ns mainGlobals mg) (a : PySem.W.nsIn K mainGlobals "first_unlike" = some (some (.ref f)))
    (l : K.lookup f = some ⟨oc, od, .func (PySem.W.fnOf "first_unlike" "first_unlike" (defArgs sFirst) (defBody sFirst) (defScope sFirst) .none kV dc pm an cd ct), sl⟩) (c : PySem.W.codeIn K cd "first_unlike" = true) (k : PySem.W.keepIn K (.ref f) = true) : Df K mg "first_unlike" sFirst ["row", "other"] :=
  df_mk X G a l c k fun F => F.binds (ps := ["row", "other"]) fun _ _ _ _ _ _ us hl => match us, hl with | [_, _], _ => rfl
theorem df_Pot {f : Addr} {od an : Option Addr} {sl : Array (Option Value)} {oc kV dc pm cd ct : Value} (X : K.In h) (G : h.Ns mainGlobals mg) (a : PySem.W.nsIn K mainGlobals "_law_pot" = some (some (.ref f)))
    (l : K.lookup f = some ⟨oc, od, .func (PySem.W.fnOf "_law_pot" "_law_pot" (defArgs sPot) (defBody sPot) (defScope sPot) .none kV dc pm an cd ct), sl⟩) (c : PySem.W.codeIn K cd "_law_pot" = true) (k : PySem.W.keepIn K (.ref f) = true) : Df K mg "_law_pot" sPot ["_law_script", "_law_k"] :=
  df_mk X G a l c k fun F => F.binds (ps := ["_law_script", "_law_k"]) fun _ _ _ _ _ _ us hl => match us, hl with | [_, _], _ => rfl
theorem df_Draw {f : Addr} {od an : Option Addr} {sl : Array (Option Value)} {oc kV dc pm cd ct : Value} (X : K.In h) (G : h.Ns mainGlobals mg) (a : PySem.W.nsIn K mainGlobals "_law_draw" = some (some (.ref f)))
    (l : K.lookup f = some ⟨oc, od, .func (PySem.W.fnOf "_law_draw" "_law_draw" (defArgs sDraw) (defBody sDraw) (defScope sDraw) .none kV dc pm an cd ct), sl⟩) (c : PySem.W.codeIn K cd "_law_draw" = true) (k : PySem.W.keepIn K (.ref f) = true) : Df K mg "_law_draw" sDraw ["_law_pot_here", "_law_room"] :=
  df_mk X G a l c k fun F => F.binds (ps := ["_law_pot_here", "_law_room"]) fun _ _ _ _ _ _ us hl => match us, hl with | [_, _], _ => rfl
theorem df_Pick {f : Addr} {od an : Option Addr} {sl : Array (Option Value)} {oc kV dc pm cd ct : Value} (X : K.In h) (G : h.Ns mainGlobals mg) (a : PySem.W.nsIn K mainGlobals "_law_pick" = some (some (.ref f)))
    (l : K.lookup f = some ⟨oc, od, .func (PySem.W.fnOf "_law_pick" "_law_pick" (defArgs sPick) (defBody sPick) (defScope sPick) .none kV dc pm an cd ct), sl⟩) (c : PySem.W.codeIn K cd "_law_pick" = true) (k : PySem.W.keepIn K (.ref f) = true) : Df K mg "_law_pick" sPick ["_law_pot_here", "_law_some"] :=
  df_mk X G a l c k fun F => F.binds (ps := ["_law_pot_here", "_law_some"]) fun _ _ _ _ _ _ us hl => match us, hl with | [_, _], _ => rfl
theorem df_Factor {f : Addr} {od an : Option Addr} {sl : Array (Option Value)} {oc kV dc pm cd ct : Value} (X : K.In h) (G : h.Ns mainGlobals mg) (a : PySem.W.nsIn K mainGlobals "_law_by_factor" = some (some (.ref f)))
    (l : K.lookup f = some ⟨oc, od, .func (PySem.W.fnOf "_law_by_factor" "_law_by_factor" (defArgs sFactor) (defBody sFactor) (defScope sFactor) .none kV dc pm an cd ct), sl⟩) (c : PySem.W.codeIn K cd "_law_by_factor" = true) (k : PySem.W.keepIn K (.ref f) = true) : Df K mg "_law_by_factor" sFactor ["_law_row_here", "_law_place", "_law_power"] :=
  df_mk X G a l c k fun F => F.binds (ps := ["_law_row_here", "_law_place", "_law_power"]) fun _ _ _ _ _ _ us hl => match us, hl with | [_, _, _], _ => rfl
theorem df_Row {f : Addr} {od an : Option Addr} {sl : Array (Option Value)} {oc kV dc pm cd ct : Value} (X : K.In h) (G : h.Ns mainGlobals mg) (a : PySem.W.nsIn K mainGlobals "_law_row" = some (some (.ref f)))
    (l : K.lookup f = some ⟨oc, od, .func (PySem.W.fnOf "_law_row" "_law_row" (defArgs sRow) (defBody sRow) (defScope sRow) .none kV dc pm an cd ct), sl⟩) (c : PySem.W.codeIn K cd "_law_row" = true) (k : PySem.W.keepIn K (.ref f) = true) : Df K mg "_law_row" sRow ["_law_powers_here", "_law_many"] :=
  df_mk X G a l c k fun F => F.binds (ps := ["_law_powers_here", "_law_many"]) fun _ _ _ _ _ _ us hl => match us, hl with | [_, _], _ => rfl
theorem df_Powers {f : Addr} {od an : Option Addr} {sl : Array (Option Value)} {oc kV dc pm cd ct : Value} (X : K.In h) (G : h.Ns mainGlobals mg) (a : PySem.W.nsIn K mainGlobals "_law_powers" = some (some (.ref f)))
    (l : K.lookup f = some ⟨oc, od, .func (PySem.W.fnOf "_law_powers" "_law_powers" (defArgs sPowers) (defBody sPowers) (defScope sPowers) .none kV dc pm an cd ct), sl⟩) (c : PySem.W.codeIn K cd "_law_powers" = true) (k : PySem.W.keepIn K (.ref f) = true) : Df K mg "_law_powers" sPowers ["_law_some"] :=
  df_mk X G a l c k fun F => F.binds (ps := ["_law_some"]) fun _ _ _ _ _ _ us hl => match us, hl with | [_], _ => rfl
theorem df_Drawn {f : Addr} {od an : Option Addr} {sl : Array (Option Value)} {oc kV dc pm cd ct : Value} (X : K.In h) (G : h.Ns mainGlobals mg) (a : PySem.W.nsIn K mainGlobals "_law_drawn" = some (some (.ref f)))
    (l : K.lookup f = some ⟨oc, od, .func (PySem.W.fnOf "_law_drawn" "_law_drawn" (defArgs sDrawn) (defBody sDrawn) (defScope sDrawn) .none kV dc pm an cd ct), sl⟩) (c : PySem.W.codeIn K cd "_law_drawn" = true) (k : PySem.W.keepIn K (.ref f) = true) : Df K mg "_law_drawn" sDrawn ["_law_pot_here", "_law_many", "_law_most"] :=
  df_mk X G a l c k fun F => F.binds (ps := ["_law_pot_here", "_law_many", "_law_most"]) fun _ _ _ _ _ _ us hl => match us, hl with | [_, _, _], _ => rfl
theorem df_Other {f : Addr} {od an : Option Addr} {sl : Array (Option Value)} {oc kV dc pm cd ct : Value} (X : K.In h) (G : h.Ns mainGlobals mg) (a : PySem.W.nsIn K mainGlobals "_law_other" = some (some (.ref f)))
    (l : K.lookup f = some ⟨oc, od, .func (PySem.W.fnOf "_law_other" "_law_other" (defArgs sOther) (defBody sOther) (defScope sOther) .none kV dc pm an cd ct), sl⟩) (c : PySem.W.codeIn K cd "_law_other" = true) (k : PySem.W.keepIn K (.ref f) = true) : Df K mg "_law_other" sOther ["_law_pot_here", "_law_one"] :=
  df_mk X G a l c k fun F => F.binds (ps := ["_law_pot_here", "_law_one"]) fun _ _ _ _ _ _ us hl => match us, hl with | [_, _], _ => rfl
theorem df_Parted {f : Addr} {od an : Option Addr} {sl : Array (Option Value)} {oc kV dc pm cd ct : Value} (X : K.In h) (G : h.Ns mainGlobals mg) (a : PySem.W.nsIn K mainGlobals "_law_parted" = some (some (.ref f)))
    (l : K.lookup f = some ⟨oc, od, .func (PySem.W.fnOf "_law_parted" "_law_parted" (defArgs sParted) (defBody sParted) (defScope sParted) .none kV dc pm an cd ct), sl⟩) (c : PySem.W.codeIn K cd "_law_parted" = true) (k : PySem.W.keepIn K (.ref f) = true) : Df K mg "_law_parted" sParted ["_law_one", "_law_other_here"] :=
  df_mk X G a l c k fun F => F.binds (ps := ["_law_one", "_law_other_here"]) fun _ _ _ _ _ _ us hl => match us, hl with | [_, _], _ => rfl
theorem df_Right {f : Addr} {od an : Option Addr} {sl : Array (Option Value)} {oc kV dc pm cd ct : Value} (X : K.In h) (G : h.Ns mainGlobals mg) (a : PySem.W.nsIn K mainGlobals "_law_right" = some (some (.ref f)))
    (l : K.lookup f = some ⟨oc, od, .func (PySem.W.fnOf "_law_right" "_law_right" (defArgs sRight) (defBody sRight) (defScope sRight) .none kV dc pm an cd ct), sl⟩) (c : PySem.W.codeIn K cd "_law_right" = true) (k : PySem.W.keepIn K (.ref f) = true) : Df K mg "_law_right" sRight ["_law_pot_here"] :=
  df_mk X G a l c k fun F => F.binds (ps := ["_law_pot_here"]) fun _ _ _ _ _ _ us hl => match us, hl with | [_], _ => rfl
theorem df_Law {f : Addr} {od an : Option Addr} {sl : Array (Option Value)} {oc kV dc pm cd ct : Value} (X : K.In h) (G : h.Ns mainGlobals mg) (a : PySem.W.nsIn K mainGlobals "law" = some (some (.ref f)))
    (l : K.lookup f = some ⟨oc, od, .func (PySem.W.fnOf "law" "law" (defArgs sLaw) (defBody sLaw) (defScope sLaw) .none kV dc pm an cd ct), sl⟩) (c : PySem.W.codeIn K cd "law" = true) (k : PySem.W.keepIn K (.ref f) = true) : Df K mg "law" sLaw ["_law_script"] :=
  df_mk X G a l c k fun F => F.binds (ps := ["_law_script"]) fun _ _ _ _ _ _ us hl => match us, hl with | [_], _ => rfl
theorem bt_mk {t0 t1 t2 t3 t4 : Tok} (X : K.In h) (G : h.Ns mainGlobals mg) (bd : ∃ t, mg "BOUND_OF_DIGITS" = some (.int (10 ^ 400) t)) (z0 : PySem.W.nsIn K mainGlobals "isinstance" = some none) (z1 : PySem.W.nsIn K mainGlobals "int" = some none) (z2 : PySem.W.nsIn K mainGlobals "bool" = some none) (z3 : PySem.W.nsIn K mainGlobals "list" = some none) (z4 : PySem.W.nsIn K mainGlobals "tuple" = some none) (z5 : PySem.W.nsIn K mainGlobals "len" = some none) (z6 : PySem.W.nsIn K mainGlobals "all" = some none) (z7 : PySem.W.nsIn K mainGlobals "abs" = some none) (z8 : PySem.W.nsIn K mainGlobals "str" = some none) (z9 : PySem.W.nsIn K mainGlobals "zip" = some none) (z10 : PySem.W.nsIn K mainGlobals "dict" = some none) (z11 : PySem.W.nsIn K mainGlobals "sorted" = some none) (z12 : PySem.W.nsIn K mainGlobals "range" = some none) (z13 : PySem.W.nsIn K mainGlobals "sum" = some none) (z14 : PySem.W.nsIn K mainGlobals "enumerate" = some none) (z15 : PySem.W.nsIn K mainGlobals "max" = some none) (z16 : PySem.W.nsIn K mainGlobals "divmod" = some none) (z17 : PySem.W.nsIn K mainGlobals "repr" = some none)
    (c0 : PySem.W.nsIn K mainGlobals "WORD" = some (some (.str "product" t0))) (c1 : PySem.W.nsIn K mainGlobals "MOST_STEPS" = some (some (.int 12 t1))) (c2 : PySem.W.nsIn K mainGlobals "MOST_STEP" = some (some (.int 60 t2))) (c3 : PySem.W.nsIn K mainGlobals "MOST_POWER" = some (some (.int 60 t3))) (c4 : PySem.W.nsIn K mainGlobals "MOST_PLACES" = some (some (.int 3000 t4))) : Bt mg :=
  ⟨PySem.W.mg_none_of X G z0, PySem.W.mg_none_of X G z1, PySem.W.mg_none_of X G z2, PySem.W.mg_none_of X G z3, PySem.W.mg_none_of X G z4, PySem.W.mg_none_of X G z5, PySem.W.mg_none_of X G z6, PySem.W.mg_none_of X G z7, PySem.W.mg_none_of X G z8, PySem.W.mg_none_of X G z9, PySem.W.mg_none_of X G z10, PySem.W.mg_none_of X G z11, PySem.W.mg_none_of X G z12, PySem.W.mg_none_of X G z13, PySem.W.mg_none_of X G z14, PySem.W.mg_none_of X G z15, PySem.W.mg_none_of X G z16, PySem.W.mg_none_of X G z17, ⟨_, PySem.W.mg_of X G c0⟩, ⟨_, PySem.W.mg_of X G c1⟩, ⟨_, PySem.W.mg_of X G c2⟩, ⟨_, PySem.W.mg_of X G c3⟩, ⟨_, PySem.W.mg_of X G c4⟩, bd⟩
theorem bound_mk {q : Program} {i : Int} (V : PySem.W.XL q [("BOUND_OF_DIGITS", .int i)] mg h) (e : i = 10 ^ 400) : ∃ t, mg "BOUND_OF_DIGITS" = some (.int (10 ^ 400) t) := by
  obtain ⟨v, a, r⟩ := V.2.val _ List.mem_cons_self
  subst e
  cases r with
  | int i t => exact ⟨t, a⟩
theorem all_end {P : Program} {fa : Addr} (hfa : mg "law" = some (.ref fa)) (B : Bt mg) (DInteger : Df K mg "is_integer" sInteger ["value"]) (DCount : Df K mg "is_count" sCount ["value"]) (DIsList : Df K mg "is_list" sIsList ["value"]) (DPair : Df K mg "is_power_pair" sPair ["value"]) (DIsProd : Df K mg "is_product_value" sIsProd ["value"]) (DWant : Df K mg "want_product" sWant ["value"]) (DPowersOf : Df K mg "powers_of" sPowersOf ["product"]) (DUnlike : Df K mg "unlike_step" sUnlike ["product", "other"]) (DParting : Df K mg "parting_place" sParting ["product", "other"]) (DWantRow : Df K mg "want_row" sWantRow ["value"]) (DWantPlaces : Df K mg "want_places" sWantPlaces ["value", "most"]) (DWantDigits : Df K mg "want_digits" sWantDigits ["row"]) (DStepSums : Df K mg "step_sums" sStepSums ["product", "many"]) (DNumbers : Df K mg "numbers_of" sNumbers ["product", "many"]) (DProductRow : Df K mg "product_row" sProductRow ["product", "many"]) (DFirst : Df K mg "first_unlike" sFirst ["row", "other"]) (DPot : Df K mg "_law_pot" sPot ["_law_script", "_law_k"]) (DDraw : Df K mg "_law_draw" sDraw ["_law_pot_here", "_law_room"]) (DPick : Df K mg "_law_pick" sPick ["_law_pot_here", "_law_some"]) (DFactor : Df K mg "_law_by_factor" sFactor ["_law_row_here", "_law_place", "_law_power"]) (DRow : Df K mg "_law_row" sRow ["_law_powers_here", "_law_many"]) (DPowers : Df K mg "_law_powers" sPowers ["_law_some"]) (DDrawn : Df K mg "_law_drawn" sDrawn ["_law_pot_here", "_law_many", "_law_most"]) (DOther : Df K mg "_law_other" sOther ["_law_pot_here", "_law_one"]) (DParted : Df K mg "_law_parted" sParted ["_law_one", "_law_other_here"]) (DRight : Df K mg "_law_right" sRight ["_law_pot_here"]) (DLaw : Df K mg "law" sLaw ["_law_script"]) :
    ∃ fd : FuncData, (∀ (s : Shared) (v : Value), BindsTo s fd ⟨[v], []⟩ [("_law_script", v)]) ∧ ∀ base : Heap, K.In base → base.Ns mainGlobals mg → FnG P w K mg base 7 fa fd ["_law_script"] (spLaw K) := by
  obtain ⟨f, fd, F, b, g⟩ := DLaw.ex
  obtain ⟨fr, gd, FR, bR, gR⟩ := DRight.ex
  cases hfa.symm.trans g
  refine ⟨fd, fun s v => ?_, fun base _ _ => ?_⟩
  · obtain ⟨oc, od, kV, doc, pm, an, cdv, ct, osl, rfl, lk, hcd⟩ := F.ex
    exact .of_eq rfl
  · have Integer := cl_integer (P := P) (w := w) (base := base) DInteger B
    have Count := cl_count DCount Integer B
    have IsList := cl_isList (P := P) (w := w) (base := base) DIsList B
    have Pair := cl_pair DPair Integer B
    have IsProd := cl_isProd DIsProd Pair B
    have Want := cl_want DWant IsProd
    have PowersOf := cl_powersOf (P := P) (w := w) (base := base) DPowersOf B
    have Unlike := cl_unlike DUnlike PowersOf B
    have Parting := cl_parting DParting Unlike Want
    have PartingK := clk_parting DParting Unlike Want
    have WantRow := cl_wantRow DWantRow IsList Integer B
    have WantPlaces := cl_wantPlaces DWantPlaces Count
    have WantDigits := cl_wantDigits (P := P) (w := w) (base := base) DWantDigits B
    have StepSums := cl_stepSums DStepSums PowersOf B
    have Numbers := cl_numbers DNumbers StepSums B
    have PRow := cl_row DProductRow Want Numbers WantPlaces WantDigits B
    have First := cl_first DFirst WantRow B
    have Pot := cl_pot (P := P) (w := w) (base := base) DPot B
    have Draw := cl_draw (P := P) (w := w) (base := base) DDraw B
    have Pick := cl_pick DPick Draw B
    have Factor := cl_factor (P := P) (w := w) (base := base) DFactor B
    have LRow := cl_lawRow DRow Factor B
    have Powers := cl_powers (P := P) (w := w) (base := base) DPowers B
    have Drawn := cl_drawn DDrawn Draw Pick B
    have Other := cl_other DOther Draw Pick Drawn Powers B
    have Parted := cl_parted (P := P) (w := w) (base := base) DParted B
    exact fn_law F (fn_right FR Parting PartingK Drawn Other Parted First PRow LRow B) gR FR.kp bR Pot
end
end K19
open PySem PySem.W PyProof.Rows
set_option maxHeartbeats 0 in
theorem PySem.Challenge.cw_etaparts_k19_whole_same_numbers_for_ever_holds : PySem.Challenge.rw_etaparts_k19_whole_same_numbers_for_ever.Holds := by
  w_on; o_law; k_head; (case hw => w_witness2)
  k_fill
  refine K19.endG (l := PySem.Challenge.rw_etaparts_k19_whole_same_numbers_for_ever) (n := 63) (k := 7) (x := "_law_script") (sp := fun K => K19.spLaw K) rfl (by decide) rfl ⟨rfl, by decide, by decide⟩ (fun w h Y => PySem.W.kIn_of Y) ?F (fun _ _ a ns _ hS => ⟨a, ns, rfl, hS, fun _ => rfl⟩)
  case F =>
    intro w mg fa h KX G XV hmg
    have bd := K19.bound_mk XV (by decide +kernel)
    refine' K19.all_end hmg ?B ?DInteger ?DCount ?DIsList ?DPair ?DIsProd ?DWant ?DPowersOf ?DUnlike ?DParting ?DWantRow ?DWantPlaces ?DWantDigits ?DStepSums ?DNumbers ?DProductRow ?DFirst ?DPot ?DDraw ?DPick ?DFactor ?DRow ?DPowers ?DDrawn ?DOther ?DParted ?DRight ?DLaw
    (case B => refine' K19.bt_mk KX G bd ?z0 ?z1 ?z2 ?z3 ?z4 ?z5 ?z6 ?z7 ?z8 ?z9 ?z10 ?z11 ?z12 ?z13 ?z14 ?z15 ?z16 ?z17 ?c0 ?c1 ?c2 ?c3 ?c4; (case z0 => k_is); (case z1 => k_is); (case z2 => k_is); (case z3 => k_is); (case z4 => k_is); (case z5 => k_is); (case z6 => k_is); (case z7 => k_is); (case z8 => k_is); (case z9 => k_is); (case z10 => k_is); (case z11 => k_is); (case z12 => k_is); (case z13 => k_is); (case z14 => k_is); (case z15 => k_is); (case z16 => k_is); (case z17 => k_is); (case c0 => k_is); (case c1 => k_is); (case c2 => k_is); (case c3 => k_is); (case c4 => k_is))
    (case DInteger => refine' K19.df_Integer KX G ?a ?l ?c ?k; (case a => k_is); (case l => k_is); (case c => k_is); (case k => k_is))
    (case DCount => refine' K19.df_Count KX G ?a ?l ?c ?k; (case a => k_is); (case l => k_is); (case c => k_is); (case k => k_is))
    (case DIsList => refine' K19.df_IsList KX G ?a ?l ?c ?k; (case a => k_is); (case l => k_is); (case c => k_is); (case k => k_is))
    (case DPair => refine' K19.df_Pair KX G ?a ?l ?c ?k; (case a => k_is); (case l => k_is); (case c => k_is); (case k => k_is))
    (case DIsProd => refine' K19.df_IsProd KX G ?a ?l ?c ?k; (case a => k_is); (case l => k_is); (case c => k_is); (case k => k_is))
    (case DWant => refine' K19.df_Want KX G ?a ?l ?c ?k; (case a => k_is); (case l => k_is); (case c => k_is); (case k => k_is))
    (case DPowersOf => refine' K19.df_PowersOf KX G ?a ?l ?c ?k; (case a => k_is); (case l => k_is); (case c => k_is); (case k => k_is))
    (case DUnlike => refine' K19.df_Unlike KX G ?a ?l ?c ?k; (case a => k_is); (case l => k_is); (case c => k_is); (case k => k_is))
    (case DParting => refine' K19.df_Parting KX G ?a ?l ?c ?k; (case a => k_is); (case l => k_is); (case c => k_is); (case k => k_is))
    (case DWantRow => refine' K19.df_WantRow KX G ?a ?l ?c ?k; (case a => k_is); (case l => k_is); (case c => k_is); (case k => k_is))
    (case DWantPlaces => refine' K19.df_WantPlaces KX G ?a ?l ?c ?k; (case a => k_is); (case l => k_is); (case c => k_is); (case k => k_is))
    (case DWantDigits => refine' K19.df_WantDigits KX G ?a ?l ?c ?k; (case a => k_is); (case l => k_is); (case c => k_is); (case k => k_is))
    (case DStepSums => refine' K19.df_StepSums KX G ?a ?l ?c ?k; (case a => k_is); (case l => k_is); (case c => k_is); (case k => k_is))
    (case DNumbers => refine' K19.df_Numbers KX G ?a ?l ?c ?k; (case a => k_is); (case l => k_is); (case c => k_is); (case k => k_is))
    (case DProductRow => refine' K19.df_ProductRow KX G ?a ?l ?c ?k; (case a => k_is); (case l => k_is); (case c => k_is); (case k => k_is))
    (case DFirst => refine' K19.df_First KX G ?a ?l ?c ?k; (case a => k_is); (case l => k_is); (case c => k_is); (case k => k_is))
    (case DPot => refine' K19.df_Pot KX G ?a ?l ?c ?k; (case a => k_is); (case l => k_is); (case c => k_is); (case k => k_is))
    (case DDraw => refine' K19.df_Draw KX G ?a ?l ?c ?k; (case a => k_is); (case l => k_is); (case c => k_is); (case k => k_is))
    (case DPick => refine' K19.df_Pick KX G ?a ?l ?c ?k; (case a => k_is); (case l => k_is); (case c => k_is); (case k => k_is))
    (case DFactor => refine' K19.df_Factor KX G ?a ?l ?c ?k; (case a => k_is); (case l => k_is); (case c => k_is); (case k => k_is))
    (case DRow => refine' K19.df_Row KX G ?a ?l ?c ?k; (case a => k_is); (case l => k_is); (case c => k_is); (case k => k_is))
    (case DPowers => refine' K19.df_Powers KX G ?a ?l ?c ?k; (case a => k_is); (case l => k_is); (case c => k_is); (case k => k_is))
    (case DDrawn => refine' K19.df_Drawn KX G ?a ?l ?c ?k; (case a => k_is); (case l => k_is); (case c => k_is); (case k => k_is))
    (case DOther => refine' K19.df_Other KX G ?a ?l ?c ?k; (case a => k_is); (case l => k_is); (case c => k_is); (case k => k_is))
    (case DParted => refine' K19.df_Parted KX G ?a ?l ?c ?k; (case a => k_is); (case l => k_is); (case c => k_is); (case k => k_is))
    (case DRight => refine' K19.df_Right KX G ?a ?l ?c ?k; (case a => k_is); (case l => k_is); (case c => k_is); (case k => k_is))
    (case DLaw => refine' K19.df_Law KX G ?a ?l ?c ?k; (case a => k_is); (case l => k_is); (case c => k_is); (case k => k_is))
