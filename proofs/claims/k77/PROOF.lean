import PyProof.Rows.All
import Wide.All
import OpenK.AllK
import Wide.FinOn
import OpenK.XHead
import HandS.ForMost
import HandS.Conv
import HandS.Zip
import HandS.Walk
import HandS.Style
import HandS.Flow
import HandS.Wide
import HandS.IsInst
import HandS.Exc
import HandS.WordsExc
import KE.DataMinMax
import HandS.Evl
import PySem.Challenge.RW_dialyard_k77_whole_lit_by_parts
set_option Elab.async false
set_option linter.all false
set_option maxRecDepth 100000
/-! Plane geometry of closed polygons over the rationals: the crossings of a ray, cutting by a half plane. No program here. -/
namespace Dial
abbrev Pt := Rat × Rat
/-- above 0 where x lies to the left of the way from o to p -/
def turn (o p x : Pt) : Rat := (p.1 - o.1) * (x.2 - o.2) - (p.2 - o.2) * (x.1 - o.1)
/-- the edge from a to b, as the ray up from x crosses it: 1 from right to left, -1 from left to right -/
def ray (x a b : Pt) : Rat :=
  if x.1 < a.1 then (if x.1 < b.1 then 0 else if 0 < turn a b x then 1 else 0)
  else (if x.1 < b.1 then (if turn a b x < 0 then -1 else 0) else 0)
theorem turn_flip (a b x : Pt) : turn b a x = - turn a b x := by unfold turn; grind
theorem turn_rot (a b c : Pt) : turn b c a = turn a b c := by unfold turn; grind
theorem turn_self (a x : Pt) : turn a a x = 0 := by unfold turn; grind
theorem turn_end (a b : Pt) : turn a b b = 0 := by unfold turn; grind
theorem turn_start (a b : Pt) : turn a b a = 0 := by unfold turn; grind
theorem ray_anti (x a b : Pt) : ray x b a = - ray x a b := by
  have e := turn_flip a b x
  unfold ray
  by_cases h1 : x.1 < a.1 <;> by_cases h2 : x.1 < b.1
  · rw [if_pos h1, if_pos h2, if_pos h2, if_pos h1]; grind
  · rw [if_neg h2, if_pos h1, if_pos h1, if_neg h2, e]
    by_cases h3 : 0 < turn a b x
    · rw [if_pos h3, if_pos (by grind)]
    · rw [if_neg h3, if_neg (by grind)]; grind
  · rw [if_pos h2, if_neg h1, if_neg h1, if_pos h2, e]
    by_cases h3 : turn a b x < 0
    · rw [if_pos h3, if_pos (by grind)]; grind
    · rw [if_neg h3, if_neg (by grind)]; grind
  · rw [if_neg h1, if_neg h2, if_neg h2, if_neg h1]; grind
theorem ray_self (x a : Pt) : ray x a a = 0 := by
  have := ray_anti x a a
  grind
/-- an affine function -/
structure Aff where
  al : Rat
  be : Rat
  ga : Rat
def Aff.at (h : Aff) (p : Pt) : Rat := h.al * p.1 + h.be * p.2 + h.ga
def Aff.neg (h : Aff) : Aff := ⟨-h.al, -h.be, -h.ga⟩
theorem Aff.at_neg (h : Aff) (p : Pt) : h.neg.at p = - h.at p := by unfold Aff.at Aff.neg; grind
def lineOf (o p : Pt) : Aff := ⟨-(p.2 - o.2), p.1 - o.1, (p.2 - o.2) * o.1 - (p.1 - o.1) * o.2⟩
theorem lineOf_at (o p x : Pt) : (lineOf o p).at x = turn o p x := by unfold lineOf Aff.at turn; grind
def rt (x p : Pt) : Rat := if x.1 < p.1 then 1 else 0
theorem aff_turn (h : Aff) (a b x : Pt) : h.be * turn a b x = (x.1 - b.1) * h.at a + (a.1 - x.1) * h.at b + (a.1 - b.1) * (- h.at x) := by
  unfold Aff.at turn; grind
theorem mulp {a b : Rat} (h : 0 ≤ a) (k : 0 ≤ b) : 0 ≤ a * b := Rat.mul_nonneg h k
theorem mulpp {a b : Rat} (h : 0 < a) (k : 0 < b) : 0 < a * b := Rat.mul_pos h k
theorem mul_neg_of {a b : Rat} (h : a ≤ 0) (k : 0 ≤ b) : a * b ≤ 0 := by
  have := mulp (a := -a) (b := b) (by grind) k
  grind
/-- seen from a point outside a half plane the crossings within it come from a potential -/
theorem ray_half (h : Aff) (x a b : Pt) (hx : h.at x < 0) (ha : 0 ≤ h.at a) (hb : 0 ≤ h.at b) : ray x a b = if 0 < h.be then rt x a - rt x b else 0 := by
  have e := aff_turn h a b x
  unfold ray rt
  by_cases h1 : x.1 < a.1 <;> by_cases h2 : x.1 < b.1
  · rw [if_pos h1, if_pos h2]; rw [if_pos h1, if_pos h2]; split <;> grind
  · rw [if_pos h1, if_neg h2]; rw [if_pos h1, if_neg h2]
    have k : 0 < h.be * turn a b x := by
      have k1 := mulp (a := x.1 - b.1) (b := h.at a) (by grind) ha
      have k2 := mulp (a := a.1 - x.1) (b := h.at b) (by grind) hb
      have k3 := mulpp (a := a.1 - b.1) (b := - h.at x) (by grind) (by grind)
      grind
    by_cases hb0 : 0 < h.be
    · rw [if_pos hb0]
      have : 0 < turn a b x := by
        by_cases c : 0 < turn a b x
        · exact c
        · exfalso
          have := mulp (a := h.be) (b := - turn a b x) (by grind) (by grind)
          grind
      rw [if_pos this]; grind
    · rw [if_neg hb0]
      have : ¬ 0 < turn a b x := fun c => by
        have := mulp (a := - h.be) (b := turn a b x) (by grind) (by grind)
        grind
      rw [if_neg this]
  · rw [if_neg h1, if_pos h2]; rw [if_neg h1, if_pos h2]
    have k : h.be * turn a b x < 0 := by
      have k1 := mulp (a := b.1 - x.1) (b := h.at a) (by grind) ha
      have k2 := mulp (a := x.1 - a.1) (b := h.at b) (by grind) hb
      have k3 := mulpp (a := b.1 - a.1) (b := - h.at x) (by grind) (by grind)
      grind
    by_cases hb0 : 0 < h.be
    · rw [if_pos hb0]
      have : turn a b x < 0 := by
        by_cases c : turn a b x < 0
        · exact c
        · exfalso
          have := mulp (a := h.be) (b := turn a b x) (by grind) (by grind)
          grind
      rw [if_pos this]; grind
    · rw [if_neg hb0]
      have : ¬ turn a b x < 0 := fun c => by
        have := mulp (a := - h.be) (b := - turn a b x) (by grind) (by grind)
        grind
      rw [if_neg this]
  · rw [if_neg h1, if_neg h2]; rw [if_neg h1, if_neg h2]; split <;> grind
theorem ray_tri (h : Aff) (x a b c : Pt) (hx : h.at x < 0) (ha : 0 ≤ h.at a) (hb : 0 ≤ h.at b) (hc : 0 ≤ h.at c) : ray x a b + ray x b c + ray x c a = 0 := by
  rw [ray_half h x a b hx ha hb, ray_half h x b c hx hb hc, ray_half h x c a hx hc ha]
  split <;> grind
theorem ray_tri_neg (h : Aff) (x a b c : Pt) (hx : 0 < h.at x) (ha : h.at a ≤ 0) (hb : h.at b ≤ 0) (hc : h.at c ≤ 0) : ray x a b + ray x b c + ray x c a = 0 :=
  ray_tri h.neg x a b c (by rw [Aff.at_neg]; grind) (by rw [Aff.at_neg]; grind) (by rw [Aff.at_neg]; grind) (by rw [Aff.at_neg]; grind)
/-- three points on one line, x not on it -/
theorem ray_line {x u v w : Pt} (hl : turn u v w = 0) (hx : turn v w x ≠ 0) : ray x u v + ray x v w = ray x u w := by
  have e := ray_anti x w u
  have h0 : (lineOf v w).at u = 0 := by rw [lineOf_at, turn_rot]; exact hl
  have h1 : (lineOf v w).at v = 0 := by rw [lineOf_at, turn_start]
  have h2 : (lineOf v w).at w = 0 := by rw [lineOf_at, turn_end]
  have h3 : (lineOf v w).at x = turn v w x := lineOf_at v w x
  by_cases c : turn v w x < 0
  · have := ray_tri (lineOf v w) x u v w (by grind) (by grind) (by grind) (by grind)
    grind
  · have := ray_tri_neg (lineOf v w) x u v w (by grind) (by grind) (by grind) (by grind)
    grind
/-! ### a point between two -/
/-- the point of the way from a to b at the share s -/
def along (s : Rat) (a b : Pt) : Pt := (a.1 + s * (b.1 - a.1), a.2 + s * (b.2 - a.2))
theorem along_at (h : Aff) (s : Rat) (a b : Pt) : h.at (along s a b) = (1 - s) * h.at a + s * h.at b := by unfold Aff.at along; grind
theorem pos_scale {s t : Rat} (h : 0 < s) : (0 < s * t) ↔ 0 < t := by
  constructor
  · intro k
    by_cases c : 0 < t
    · exact c
    · exfalso
      have := mulp (a := s) (b := -t) (by grind) (by grind)
      grind
  · intro k; exact mulpp h k
theorem neg_scale {s t : Rat} (h : 0 < s) : (s * t < 0) ↔ t < 0 := by
  have := pos_scale (s := s) (t := -t) h
  grind
theorem ray_scale1 {x a b m : Pt} {s : Rat} (h : 0 < s) (e : turn a m x = s * turn a b x) (k : x.1 < a.1 ∧ ¬ x.1 < m.1) : ray x a m = if 0 < turn a b x then 1 else 0 := by
  unfold ray
  rw [if_pos k.1, if_neg k.2, e]
  by_cases c : 0 < turn a b x
  · rw [if_pos c, if_pos ((pos_scale h).mpr c)]
  · rw [if_neg c, if_neg (fun z => c ((pos_scale h).mp z))]
theorem ray_up {x a b : Pt} (k : x.1 < a.1) (k2 : ¬ x.1 < b.1) : ray x a b = if 0 < turn a b x then 1 else 0 := by
  unfold ray; rw [if_pos k, if_neg k2]
theorem ray_dn {x a b : Pt} (k : ¬ x.1 < a.1) (k2 : x.1 < b.1) : ray x a b = if turn a b x < 0 then -1 else 0 := by
  unfold ray; rw [if_neg k, if_pos k2]
theorem ray_rr {x a b : Pt} (k : x.1 < a.1) (k2 : x.1 < b.1) : ray x a b = 0 := by
  unfold ray; rw [if_pos k, if_pos k2]
theorem ray_ll {x a b : Pt} (k : ¬ x.1 < a.1) (k2 : ¬ x.1 < b.1) : ray x a b = 0 := by
  unfold ray; rw [if_neg k, if_neg k2]
theorem if_pos_scale {s t : Rat} (h : 0 < s) : (if 0 < s * t then (1 : Rat) else 0) = if 0 < t then 1 else 0 := by
  have := pos_scale (s := s) (t := t) h
  by_cases c : 0 < t
  · rw [if_pos c, if_pos (this.mpr c)]
  · rw [if_neg c, if_neg (fun z => c (this.mp z))]
theorem if_neg_scale {s t : Rat} (h : 0 < s) : (if s * t < 0 then (-1 : Rat) else 0) = if t < 0 then -1 else 0 := by
  have := neg_scale (s := s) (t := t) h
  by_cases c : t < 0
  · rw [if_pos c, if_pos (this.mpr c)]
  · rw [if_neg c, if_neg (fun z => c (this.mp z))]
theorem ray_along {x a b : Pt} {s : Rat} (h0 : 0 < s) (h1 : s < 1) : ray x a (along s a b) + ray x (along s a b) b = ray x a b := by
  have e1 : turn a (along s a b) x = s * turn a b x := by unfold turn along; grind
  have e2 : turn (along s a b) b x = (1 - s) * turn a b x := by unfold turn along; grind
  have em : (along s a b).1 = (1 - s) * a.1 + s * b.1 := by unfold along; grind
  have hs : 0 < 1 - s := by grind
  by_cases c1 : x.1 < a.1 <;> by_cases c2 : x.1 < b.1
  · have c3 : x.1 < (along s a b).1 := by
      have k1 := mulpp (a := 1 - s) (b := a.1 - x.1) hs (by grind)
      have k2 := mulpp (a := s) (b := b.1 - x.1) h0 (by grind)
      grind
    rw [ray_rr c1 c3, ray_rr c3 c2, ray_rr c1 c2]; grind
  · rw [ray_up c1 c2]
    by_cases c3 : x.1 < (along s a b).1
    · rw [ray_rr c1 c3, ray_up c3 c2, e2, if_pos_scale hs]; grind
    · rw [ray_up c1 c3, ray_ll c3 c2, e1, if_pos_scale h0]; grind
  · rw [ray_dn c1 c2]
    by_cases c3 : x.1 < (along s a b).1
    · rw [ray_dn c1 c3, ray_rr c3 c2, e1, if_neg_scale h0]; grind
    · rw [ray_ll c1 c3, ray_dn c3 c2, e2, if_neg_scale hs]; grind
  · have c3 : ¬ x.1 < (along s a b).1 := by
      have k1 := mulp (a := 1 - s) (b := x.1 - a.1) (by grind) (by grind)
      have k2 := mulp (a := s) (b := x.1 - b.1) (by grind) (by grind)
      grind
    rw [ray_ll c1 c3, ray_ll c3 c2, ray_ll c1 c2]; grind
end Dial

/-! Sums over closed ways, and what cutting by a half plane does to them. No program here. -/
namespace Dial
/-- the sum over a way from a through a list -/
def path (c : Pt → Pt → Rat) : Pt → List Pt → Rat
  | _, [] => 0
  | a, b :: t => c a b + path c b t
/-- the sum over a closed way -/
def cyc (c : Pt → Pt → Rat) : List Pt → Rat
  | [] => 0
  | a :: t => path c a (t ++ [a])
def lastD {α : Type} : α → List α → α
  | a, [] => a
  | _, b :: t => lastD b t
theorem lastD_append {α : Type} : ∀ (l : List α) (a z : α), lastD a (l ++ [z]) = z
  | [], _, _ => rfl
  | b :: t, _, z => lastD_append t b z
theorem path_append (c : Pt → Pt → Rat) : ∀ (l : List Pt) (a : Pt) (k : List Pt), path c a (l ++ k) = path c a l + path c (lastD a l) k
  | [], a, k => by simp only [List.nil_append, path, lastD]; grind
  | b :: t, a, k => by
    simp only [List.cons_append, path, lastD]
    rw [path_append c t b k]; grind
/-- the triangles over o -/
def fan (c : Pt → Pt → Rat) (o u v : Pt) : Rat := c o u + c u v + c v o
theorem path_fan (c : Pt → Pt → Rat) (an : ∀ a b, c b a = - c a b) (o : Pt) : ∀ (l : List Pt) (a : Pt), path (fan c o) a l = path c a l + c o a - c o (lastD a l)
  | [], a => by simp only [path, lastD]; grind
  | b :: t, a => by
    simp only [path, lastD]
    rw [path_fan c an o t b]
    have := an o b
    unfold fan; grind
theorem cyc_fan (c : Pt → Pt → Rat) (an : ∀ a b, c b a = - c a b) (o : Pt) : ∀ P : List Pt, cyc (fan c o) P = cyc c P
  | [] => rfl
  | a :: t => by
    simp only [cyc]
    rw [path_fan c an o, lastD_append]; grind
/-! ### cutting -/
section
variable {α : Type} (m : α → α → Rat → Rat → α)
def mids (a b : α × Rat) : List α := if a.2 * b.2 < 0 then [m a.1 b.1 a.2 b.2] else []
def here (a : α × Rat) : List α := if ¬ a.2 < 0 then [a.1] else []
/-- along a way: each point that is not below 0, each crossing -/
def keptP : α × Rat → List (α × Rat) → List α
  | _, [] => []
  | a, b :: t => here a ++ mids m a b ++ keptP b t
def keptC : List (α × Rat) → List α
  | [] => []
  | a :: t => keptP m a (t ++ [a])
/-- the same, a point told behind the edge that leads to it -/
def keptA : α × Rat → List (α × Rat) → List α
  | _, [] => []
  | a, b :: t => mids m a b ++ here b ++ keptA b t
theorem keptP_A : ∀ (l : List (α × Rat)) (a : α × Rat), keptP m a l ++ here (lastD a l) = here a ++ keptA m a l
  | [], a => by simp [keptP, keptA, lastD]
  | b :: t, a => by
    simp only [keptP, keptA, lastD, List.append_assoc]
    rw [keptP_A t b]
end
def zipH (h : Pt → Rat) (P : List Pt) : List (Pt × Rat) := P.map fun p => (p, h p)
/-- the point at which a height is 0 between two -/
def cross (a b : Pt) (x y : Rat) : Pt := along (x / (x - y)) a b
theorem sgn_cases {x y : Rat} (h : x * y < 0) : (0 < x ∧ y < 0) ∨ (x < 0 ∧ 0 < y) := by
  by_cases c1 : 0 < x
  · refine .inl ⟨c1, ?_⟩
    by_cases c2 : y < 0
    · exact c2
    · have := mulp (a := x) (b := y) (by grind) (by grind)
      grind
  · by_cases c2 : x < 0
    · refine .inr ⟨c2, ?_⟩
      by_cases c3 : 0 < y
      · exact c3
      · have := mulp (a := -x) (b := -y) (by grind) (by grind)
        grind
    · have : x = 0 := by grind
      subst this
      grind
theorem div_between {x y : Rat} (h : x * y < 0) : 0 < x / (x - y) ∧ x / (x - y) < 1 := by
  rcases sgn_cases h with ⟨h1, h2⟩ | ⟨h1, h2⟩
  · have e : x / (x - y) * (x - y) = x := by grind
    have e2 : (1 - x / (x - y)) * (x - y) = - y := by grind
    constructor
    · have := pos_scale (s := x - y) (t := x / (x - y)) (by grind)
      grind
    · have := pos_scale (s := x - y) (t := 1 - x / (x - y)) (by grind)
      grind
  · have e : x / (x - y) * (x - y) = x := by grind
    have e2 : (1 - x / (x - y)) * (x - y) = - y := by grind
    constructor
    · have := pos_scale (s := y - x) (t := x / (x - y)) (by grind)
      grind
    · have := pos_scale (s := y - x) (t := 1 - x / (x - y)) (by grind)
      grind
theorem cross_zero (h : Aff) {a b : Pt} (k : h.at a * h.at b < 0) : h.at (cross a b (h.at a) (h.at b)) = 0 := by
  have hd : h.at a - h.at b ≠ 0 := by
    rcases sgn_cases k with z | z <;> grind
  unfold cross
  rw [along_at]
  have : h.at a / (h.at a - h.at b) * (h.at a - h.at b) = h.at a := by grind
  grind
section
variable (h : Aff) (c : Pt → Pt → Rat)
abbrev withH (p : Pt) : Pt × Rat := (p, h.at p)
/-- u stands for a: it is a, or a is cut off and u is on the line -/
def StandsFor (a u : Pt) : Prop := (0 ≤ h.at a ∧ u = a) ∨ (h.at a < 0 ∧ h.at u = 0)
theorem keptA_path (hz : ∀ p q, h.at p ≤ 0 → h.at q ≤ 0 → c p q = 0) (ha : ∀ a b, h.at a * h.at b < 0 → c a b = c a (cross a b (h.at a) (h.at b)) + c (cross a b (h.at a) (h.at b)) b) :
    ∀ (l : List Pt) (a u : Pt), StandsFor h a u → path c u (keptA cross (withH h a) (l.map (withH h))) = path c a l ∧ StandsFor h (lastD a l) (lastD u (keptA cross (withH h a) (l.map (withH h))))
  | [], a, u, s => ⟨rfl, s⟩
  | b :: t, a, u, s => by
    simp only [List.map_cons, keptA, path, lastD]
    have key : ∀ (E : List Pt), E = mids cross (withH h a) (withH h b) ++ here (withH h b) → path c u E = c a b ∧ StandsFor h b (lastD u E) := by
      intro E hE
      subst hE
      unfold mids here
      dsimp only
      rcases s with ⟨s1, rfl⟩ | ⟨s1, s2⟩
      · by_cases hb : h.at b < 0
        · rw [if_neg (show ¬ ¬ (h.at b < 0) from fun z => z hb)]
          by_cases k : h.at u * h.at b < 0
          · rw [if_pos k]
            have z := cross_zero h k
            have q := ha u b k
            have q2 := hz (cross u b (h.at u) (h.at b)) b (by grind (ematch := 0)) (by grind (ematch := 0))
            refine ⟨?_, .inr ⟨hb, z⟩⟩
            simp only [List.append_nil, path]; grind (ematch := 0)
          · rw [if_neg k]
            have u0 : h.at u = 0 := by
              by_cases u1 : 0 < h.at u
              · have := mulpp (a := h.at u) (b := - h.at b) u1 (by grind (ematch := 0))
                grind (ematch := 0)
              · grind (ematch := 0)
            refine ⟨?_, .inr ⟨hb, u0⟩⟩
            have := hz u b (by grind (ematch := 0)) (by grind (ematch := 0))
            simp only [List.append_nil, path]; grind (ematch := 0)
        · rw [if_pos hb]
          rw [if_neg (show ¬ (h.at u * h.at b < 0) by have := mulp (a := h.at u) (b := h.at b) s1 (by grind (ematch := 0)); grind (ematch := 0))]
          refine ⟨?_, .inl ⟨by grind (ematch := 0), rfl⟩⟩
          simp only [List.nil_append, path]; grind (ematch := 0)
      · by_cases hb : h.at b < 0
        · rw [if_neg (show ¬ ¬ (h.at b < 0) from fun z => z hb)]
          rw [if_neg (show ¬ (h.at a * h.at b < 0) by have := mulp (a := - h.at a) (b := - h.at b) (by grind (ematch := 0)) (by grind (ematch := 0)); grind (ematch := 0))]
          refine ⟨?_, .inr ⟨hb, s2⟩⟩
          have := hz a b (by grind (ematch := 0)) (by grind (ematch := 0))
          simp only [List.append_nil, path]; grind (ematch := 0)
        · rw [if_pos hb]
          by_cases k : h.at a * h.at b < 0
          · rw [if_pos k]
            have z := cross_zero h k
            have q := ha a b k
            have q2 := hz a (cross a b (h.at a) (h.at b)) (by grind (ematch := 0)) (by grind (ematch := 0))
            have q3 := hz u (cross a b (h.at a) (h.at b)) (by grind (ematch := 0)) (by grind (ematch := 0))
            refine ⟨?_, .inl ⟨by grind (ematch := 0), rfl⟩⟩
            simp only [List.cons_append, List.nil_append, path]; grind (ematch := 0)
          · rw [if_neg k]
            have b0 : h.at b = 0 := by
              by_cases b1 : 0 < h.at b
              · have := mulpp (a := - h.at a) (b := h.at b) (by grind (ematch := 0)) b1
                grind (ematch := 0)
              · grind (ematch := 0)
            have q := hz u b (by grind (ematch := 0)) (by grind (ematch := 0))
            have q2 := hz a b (by grind (ematch := 0)) (by grind (ematch := 0))
            refine ⟨?_, .inl ⟨by grind (ematch := 0), rfl⟩⟩
            simp only [List.nil_append, path]; grind (ematch := 0)
    obtain ⟨k1, k2⟩ := key _ rfl
    have ih := keptA_path hz ha t b _ k2
    generalize he : mids cross (withH h a) (withH h b) ++ here (withH h b) = E at *
    rw [path_append, k1]
    have el : ∀ (K : List Pt) (L : List Pt) (z : Pt), lastD z (K ++ L) = lastD (lastD z K) L := by
      intro K
      induction K with
      | nil => intro L z; rfl
      | cons y K ih => intro L z; exact ih L y
    rw [el]
    exact ⟨by rw [ih.1], ih.2⟩
/-- what is cut off begins on the line -/
theorem keptA_first : ∀ (l : List Pt) (a : Pt), h.at a < 0 → ∀ z, (keptA cross (withH h a) (l.map (withH h))).head? = some z → h.at z = 0
  | [], _, _, z, e => by simp [keptA] at e
  | b :: t, a, ha, z, e => by
    simp only [List.map_cons, keptA] at e
    unfold mids here at e
    dsimp only at e
    by_cases k : h.at a * h.at b < 0
    · rw [if_pos k] at e
      simp only [List.cons_append, List.head?_cons] at e
      cases e
      exact cross_zero h k
    · rw [if_neg k] at e
      by_cases hb : h.at b < 0
      · rw [if_neg (show ¬ ¬ (h.at b < 0) from fun z => z hb)] at e
        simp only [List.nil_append] at e
        exact keptA_first t b hb z e
      · rw [if_pos hb] at e
        simp only [List.nil_append, List.cons_append, List.head?_cons] at e
        cases e
        by_cases b1 : 0 < h.at b
        · have := mulpp (a := - h.at a) (b := h.at b) (by grind (ematch := 0)) b1
          grind (ematch := 0)
        · grind (ematch := 0)
theorem kept_cyc_pos (hz : ∀ p q, h.at p ≤ 0 → h.at q ≤ 0 → c p q = 0) (ha : ∀ a b, h.at a * h.at b < 0 → c a b = c a (cross a b (h.at a) (h.at b)) + c (cross a b (h.at a) (h.at b)) b) (o : Pt) (ho : h.at o = 0) :
    ∀ P : List Pt, cyc c (keptC cross (P.map (withH h))) = cyc c P
  | [] => rfl
  | a :: t => by
    simp only [List.map_cons, keptC, cyc]
    have e : t.map (withH h) ++ [withH h a] = (t ++ [a]).map (withH h) := by simp
    rw [e]
    have kp := keptP_A cross ((t ++ [a]).map (withH h)) (withH h a)
    have hl : lastD (withH h a) ((t ++ [a]).map (withH h)) = withH h a := by rw [← e]; exact lastD_append _ _ _
    rw [hl] at kp
    by_cases c0 : h.at a < 0
    · have h0 : here (withH h a) = [] := by unfold here; rw [if_neg (show ¬ ¬ (h.at a < 0) from fun z => z c0)]
      rw [h0, List.append_nil, List.nil_append] at kp
      rw [kp]
      have r := keptA_path h c hz ha (t ++ [a]) a o (.inr ⟨c0, ho⟩)
      have f := keptA_first h (t ++ [a]) a c0
      have hla : lastD a (t ++ [a]) = a := lastD_append _ _ _
      generalize keptA cross (withH h a) ((t ++ [a]).map (withH h)) = K at *
      cases K with
      | nil => simp only [path] at r; simp only [cyc]; exact r.1
      | cons k0 K =>
        have z0 := f k0 rfl
        have q := hz o k0 (by grind (ematch := 0)) (by grind (ematch := 0))
        obtain ⟨r1, r2⟩ := r
        rw [hla] at r2
        simp only [path, lastD] at r1 r2
        have hlz : h.at (lastD k0 K) = 0 := by
          rcases r2 with ⟨r2, r3⟩ | ⟨_, r2⟩
          · grind (ematch := 0)
          · exact r2
        have q2 := hz (lastD k0 K) k0 (by grind (ematch := 0)) (by grind (ematch := 0))
        simp only [cyc]
        rw [path_append]
        simp only [path]
        grind (ematch := 0)
    · have h0 : here (withH h a) = [a] := by unfold here; rw [if_pos c0]
      rw [h0] at kp
      have r := keptA_path h c hz ha (t ++ [a]) a a (.inl ⟨by grind (ematch := 0), rfl⟩)
      generalize hK : keptA cross (withH h a) ((t ++ [a]).map (withH h)) = K at *
      generalize hJ : keptP cross (withH h a) ((t ++ [a]).map (withH h)) = J at *
      cases J with
      | nil =>
        simp only [List.nil_append, List.cons_append] at kp
        have : K = [] := by
          have := List.cons.inj kp
          exact this.2.symm
        subst this
        simp only [cyc]
        simp only [path] at r
        exact r.1
      | cons j0 J =>
        simp only [List.cons_append, List.nil_append] at kp
        obtain ⟨e1, e2⟩ := List.cons.inj kp
        subst e1
        simp only [cyc]
        rw [e2]
        exact r.1
theorem kept_mem_ge : ∀ (l : List Pt) (a : Pt) (z : Pt), z ∈ keptP cross (withH h a) (l.map (withH h)) → 0 ≤ h.at z
  | [], _, z, e => by simp [keptP] at e
  | b :: t, a, z, e => by
    simp only [List.map_cons, keptP, List.mem_append] at e
    rcases e with (e | e) | e
    · unfold here at e
      split at e
      · simp only [List.mem_singleton] at e; subst e; grind
      · cases e
    · unfold mids at e
      split at e
      · rename_i k
        simp only [List.mem_singleton] at e
        have := cross_zero h (a := a) (b := b) k
        rw [e, this]; grind
      · cases e
    · exact kept_mem_ge t b z e
theorem keptC_mem_ge {P : List Pt} {z : Pt} (e : z ∈ keptC cross (P.map (withH h))) : 0 ≤ h.at z := by
  cases P with
  | nil => cases e
  | cons a t =>
    simp only [List.map_cons, keptC] at e
    have e2 : t.map (withH h) ++ [withH h a] = (t ++ [a]).map (withH h) := by simp
    rw [e2] at e
    exact kept_mem_ge h (t ++ [a]) a z e
theorem path_zero (hz : ∀ p q, 0 ≤ h.at p → 0 ≤ h.at q → c p q = 0) : ∀ (l : List Pt) (a : Pt), 0 ≤ h.at a → (∀ z ∈ l, 0 ≤ h.at z) → path c a l = 0
  | [], _, _, _ => rfl
  | b :: t, a, h1, h2 => by
    have hb := h2 b (by simp)
    have := path_zero hz t b hb (fun z hm => h2 z (by simp [hm]))
    have := hz a b h1 hb
    simp only [path]; grind (ematch := 0)
theorem cyc_zero (hz : ∀ p q, 0 ≤ h.at p → 0 ≤ h.at q → c p q = 0) (P : List Pt) (hP : ∀ z ∈ P, 0 ≤ h.at z) : cyc c P = 0 := by
  cases P with
  | nil => rfl
  | cons a t =>
    exact path_zero h c hz _ a (hP a (by simp)) fun z hm => by
      rcases List.mem_append.mp hm with hm | hm
      · exact hP z (by simp [hm])
      · simp only [List.mem_singleton] at hm; subst hm; exact hP _ (by simp)
end
/-- a closed way all of whose points lie in a half plane does not go round a point outside -/
theorem cyc_ray_out (h : Aff) (x : Pt) (P : List Pt) (hP : ∀ z ∈ P, 0 ≤ h.at z) (hx : h.at x < 0) : cyc (ray x) P = 0 := by
  cases P with
  | nil => rfl
  | cons a t =>
    rw [← cyc_fan (ray x) (ray_anti x) a]
    have ha := hP a (by simp)
    refine cyc_zero h _ (fun p q hp hq => ?_) _ hP
    exact ray_tri h x a p q hx ha hp hq
/-- cutting keeps how often the way goes round the points of the half plane, and goes round no others -/
theorem kept_ray (h : Aff) (x o : Pt) (ho : h.at o = 0) (hx : h.at x ≠ 0) (P : List Pt) : cyc (ray x) (keptC cross (P.map (withH h))) = if 0 ≤ h.at x then cyc (ray x) P else 0 := by
  by_cases c : 0 ≤ h.at x
  · rw [if_pos c]
    have hx' : 0 < h.at x := by grind
    rw [← cyc_fan (ray x) (ray_anti x) o, ← cyc_fan (ray x) (ray_anti x) o P]
    refine kept_cyc_pos h _ (fun p q hp hq => ray_tri_neg h x o p q hx' (by grind) hp hq) (fun a b k => ?_) o ho P
    have d := div_between k
    have := ray_along (x := x) (a := a) (b := b) d.1 d.2
    have := ray_anti x o (along (h.at a / (h.at a - h.at b)) a b)
    unfold cross; grind
  · rw [if_neg c]
    exact cyc_ray_out h x _ (fun z hz => keptC_mem_ge h hz) (by grind)
end Dial

/-! Tidying a closed way: what it keeps. No program here. -/
namespace Dial
theorem lastD_cat {α : Type} : ∀ (K L : List α) (z : α), lastD z (K ++ L) = lastD (lastD z K) L
  | [], _, _ => rfl
  | y :: K, L, _ => lastD_cat K L y
theorem cyc_last (c : Pt → Pt → Rat) (a : Pt) (t : List Pt) : cyc c (a :: t) = path c (lastD a t) (a :: t) := by
  simp only [cyc, path]
  rw [path_append]
  simp only [path]; grind
theorem path_cyc (c : Pt → Pt → Rat) (z : Pt) (P : List Pt) (h : lastD z P = z) : path c z P = cyc c P := by
  cases P with
  | nil => rfl
  | cons a t =>
    rw [cyc_last]
    simp only [lastD] at h
    rw [h]
/-- X round Y is Y round X -/
theorem cyc_rot (c : Pt → Pt → Rat) (X Y : List Pt) : cyc c (Y ++ X) = cyc c (X ++ Y) := by
  cases X with
  | nil => simp
  | cons x X =>
    cases Y with
    | nil => simp
    | cons y Y =>
      rw [List.cons_append, List.cons_append, cyc_last, cyc_last, ← List.cons_append, ← List.cons_append, path_append, path_append, lastD_cat, lastD_cat]
      simp only [path, lastD, List.append_eq]; grind
theorem path_rev (c : Pt → Pt → Rat) (an : ∀ a b, c b a = - c a b) : ∀ (l : List Pt) (a : Pt), path c (lastD a l) (l.reverse ++ [a]).tail = - path c a l
  | [], a => by simp [path, lastD]
  | b :: t, a => by
    have ih := path_rev c an t b
    simp only [lastD, List.reverse_cons, path]
    have e : (t.reverse ++ [b] ++ [a]).tail = (t.reverse ++ [b]).tail ++ [a] := by
      cases t.reverse <;> rfl
    rw [e, path_append, ih]
    have e2 : lastD (lastD b t) (t.reverse ++ [b]).tail = b := by
      cases h : t.reverse with
      | nil =>
        have : t = [] := by simpa using h
        subst this; rfl
      | cons y Y => exact lastD_append _ _ _
    rw [e2]
    have := an a b
    simp only [path]; grind
theorem cyc_rev (c : Pt → Pt → Rat) (an : ∀ a b, c b a = - c a b) (P : List Pt) : cyc c P.reverse = - cyc c P := by
  cases P with
  | nil => simp [cyc]
  | cons a t =>
    have h := path_rev c an (t ++ [a]) a
    rw [lastD_append] at h
    have e : ((t ++ [a]).reverse ++ [a]).tail = t.reverse ++ [a] := by simp
    rw [e] at h
    rw [List.reverse_cons, cyc_rot, List.singleton_append]
    exact h
/-! ### neighbours that are alike -/
def unlikeP : Pt → List Pt → List Pt
  | _, [] => []
  | p, b :: t => (if b ≠ p then [b] else []) ++ unlikeP b t
def unlikeC (P : List Pt) : List Pt := if P.length = 1 then P else unlikeP (lastD (0, 0) P) P
theorem unlikeP_path (c : Pt → Pt → Rat) (c0 : ∀ a, c a a = 0) : ∀ (l : List Pt) (p : Pt), path c p (unlikeP p l) = path c p l ∧ lastD p (unlikeP p l) = lastD p l
  | [], p => ⟨rfl, rfl⟩
  | b :: t, p => by
    have ih := unlikeP_path c c0 t b
    simp only [unlikeP]
    by_cases k : b = p
    · subst k
      rw [if_neg (by simp)]
      simp only [List.nil_append, path, lastD]
      have := c0 b
      exact ⟨by grind, ih.2⟩
    · rw [if_pos k]
      simp only [List.cons_append, List.nil_append, path, lastD]
      exact ⟨by grind, ih.2⟩
theorem lastD_self {α : Type} (d : α) : ∀ (P : List α), lastD (lastD d P) P = lastD d P
  | [] => rfl
  | _ :: _ => rfl
theorem unlikeC_cyc (c : Pt → Pt → Rat) (c0 : ∀ a, c a a = 0) (P : List Pt) : cyc c (unlikeC P) = cyc c P := by
  unfold unlikeC
  split
  · rfl
  · have h := unlikeP_path c c0 P (lastD (0, 0) P)
    rw [← path_cyc c (lastD (0, 0) P) P (lastD_self _ _), ← h.1]
    exact (path_cyc c _ _ (by rw [h.2]; exact lastD_self _ _)).symm
theorem unlikeP_sub : ∀ (l : List Pt) (p : Pt), (unlikeP p l).Sublist l
  | [], _ => .slnil
  | b :: t, p => by
    simp only [unlikeP]
    split
    · exact (unlikeP_sub t b).cons_cons b
    · exact (unlikeP_sub t b).cons b
theorem unlikeC_sub (P : List Pt) : (unlikeC P).Sublist P := by
  unfold unlikeC
  split
  · exact List.Sublist.refl P
  · exact unlikeP_sub _ _
/-- neighbours differ -/
def Diff : Pt → List Pt → Prop
  | _, [] => True
  | p, b :: t => p ≠ b ∧ Diff b t
theorem unlikeP_diff : ∀ (l : List Pt) (p q : Pt), p = q → Diff p (unlikeP q l)
  | [], _, _, _ => trivial
  | b :: t, p, q, e => by
    simp only [unlikeP]
    by_cases k : b = q
    · rw [if_neg (by simp [k])]
      exact unlikeP_diff t p b (e.trans k.symm)
    · rw [if_pos k]
      exact ⟨fun z => k (by rw [← z, e]), unlikeP_diff t b b rfl⟩
theorem Diff.last : ∀ {l : List Pt} {p z : Pt}, Diff p l → Diff (lastD p l) [z] → Diff p (l ++ [z])
  | [], _, _, _, h => h
  | _ :: _, _, _, h, k => ⟨h.1, Diff.last h.2 k⟩
/-- all round too -/
theorem unlikeC_diff {P : List Pt} {a : Pt} {t : List Pt} (e : unlikeC P = a :: t) (ne : P.length ≠ 1) : Diff (lastD a t) (a :: t ++ [a]) := by
  unfold unlikeC at e
  rw [if_neg ne] at e
  have h := unlikeP_path (fun _ _ => 0) (fun _ => rfl) P (lastD (0, 0) P)
  have d := unlikeP_diff P (lastD (0, 0) P) (lastD (0, 0) P) rfl
  rw [lastD_self] at h
  rw [e] at h d
  simp only [lastD] at h
  rw [h.2]
  exact Diff.last d ⟨fun z => d.1 (by simp only [lastD] at z; rw [h.2] at z; exact z), trivial⟩
/-! ### neighbours on one line -/
theorem line_trans {p b s d : Pt} (h : p ≠ b) (h1 : turn s p b = 0) (h2 : turn p b d = 0) : turn s b d = 0 := by
  have hne : p.1 - b.1 ≠ 0 ∨ p.2 - b.2 ≠ 0 := by
    by_cases c : p.1 = b.1
    · right
      intro z
      exact h (Prod.ext c (by grind))
    · left; grind
  unfold turn at *
  rcases hne with k | k
  · have : (p.1 - b.1) * ((b.1 - s.1) * (d.2 - s.2) - (b.2 - s.2) * (d.1 - s.1)) = 0 := by grind
    rcases Rat.mul_eq_zero.mp this with z | z
    · exact absurd z k
    · exact z
  · have : (p.2 - b.2) * ((b.1 - s.1) * (d.2 - s.2) - (b.2 - s.2) * (d.1 - s.1)) = 0 := by grind
    rcases Rat.mul_eq_zero.mp this with z | z
    · exact absurd z k
    · exact z
def foundP : Pt → List Pt → List Pt
  | p, b :: d :: t => (if turn p b d ≠ 0 then [b] else []) ++ foundP b (d :: t)
  | _, _ => []
def foundC : List Pt → List Pt
  | [] => []
  | a :: t => foundP (lastD a t) (a :: t ++ [a])
/-- what is asked of a sum over edges: it adds up along a line -/
def LineAdd (c : Pt → Pt → Rat) (S : Pt → Prop) : Prop := ∀ u v w, S v → S w → v ≠ w → turn u v w = 0 → c u v + c v w = c u w
theorem foundP_path (c : Pt → Pt → Rat) (S : Pt → Prop) (hc : LineAdd c S) : ∀ (l : List Pt) (s p b : Pt), turn s p b = 0 → p ≠ b → Diff b l → (∀ y ∈ b :: l, S y) →
    path c s (foundP p (b :: l)) + c (lastD s (foundP p (b :: l))) (lastD b l) = c s b + path c b l ∧ ∃ q, turn (lastD s (foundP p (b :: l))) q (lastD b l) = 0 ∧ q = lastD p (b :: l).dropLast
  | [], s, p, b, h, hd, _, _ => by simp only [foundP, path, lastD]; exact ⟨by grind, p, h, rfl⟩
  | d :: t, s, p, b, h, hd, hf, hS => by
    have hS2 : ∀ y ∈ d :: t, S y := fun y hy => hS y (List.mem_cons_of_mem _ hy)
    simp only [foundP, path, lastD]
    have ed : lastD p (b :: d :: t).dropLast = lastD b (d :: t).dropLast := rfl
    rw [ed]
    by_cases k : turn p b d = 0
    · rw [if_neg (by simp [k]), List.nil_append]
      have k2 := line_trans hd h k
      obtain ⟨ih1, ih2⟩ := foundP_path c S hc t s b d k2 hf.1 hf.2 hS2
      have := hc s b d (hS b (by simp)) (hS d (by simp)) hf.1 k2
      exact ⟨by grind, ih2⟩
    · rw [if_pos k]
      obtain ⟨ih1, ih2⟩ := foundP_path c S hc t b b d (turn_self b d) hf.1 hf.2 hS2
      simp only [List.cons_append, List.nil_append, path, lastD]
      exact ⟨by grind, ih2⟩
theorem foundP_sub : ∀ (l : List Pt) (p : Pt), (foundP p l).Sublist l.dropLast
  | [], _ => .slnil
  | [_], _ => .slnil
  | b :: d :: t, p => by
    simp only [foundP, List.dropLast_cons₂]
    split
    · exact (foundP_sub (d :: t) b).cons_cons b
    · exact (foundP_sub (d :: t) b).cons b
theorem foundC_sub (U : List Pt) : (foundC U).Sublist U := by
  cases U with
  | nil => exact .slnil
  | cons a t =>
    have := foundP_sub (a :: t ++ [a]) (lastD a t)
    rw [List.dropLast_concat] at this
    exact this
theorem ne_cases {p b : Pt} (h : p ≠ b) : p.1 - b.1 ≠ 0 ∨ p.2 - b.2 ≠ 0 := by
  by_cases c : p.1 = b.1
  · right
    intro z
    exact h (Prod.ext c (by grind))
  · left; grind
/-- what is 0 at two points is 0 on their line -/
theorem aff_line (f : Aff) {p b d : Pt} (h : p ≠ b) (h1 : f.at p = 0) (h2 : f.at b = 0) (h3 : turn p b d = 0) : f.at d = 0 := by
  unfold turn at h3
  unfold Aff.at at *
  rcases ne_cases h with k | k
  · have : (p.1 - b.1) * (f.al * d.1 + f.be * d.2 + f.ga) = 0 := by grind
    rcases Rat.mul_eq_zero.mp this with z | z
    · exact absurd z k
    · exact z
  · have : (p.2 - b.2) * (f.al * d.1 + f.be * d.2 + f.ga) = 0 := by grind
    rcases Rat.mul_eq_zero.mp this with z | z
    · exact absurd z k
    · exact z
theorem turn_line {z u p b d : Pt} (h : p ≠ b) (h1 : turn z u p = 0) (h2 : turn z u b = 0) (h3 : turn p b d = 0) : turn z u d = 0 := by
  have := aff_line (lineOf z u) h (by rw [lineOf_at]; exact h1) (by rw [lineOf_at]; exact h2) h3
  rwa [lineOf_at] at this
theorem foundP_first : ∀ (l : List Pt) (z u p b : Pt), turn z u p = 0 → turn z u b = 0 → p ≠ b → Diff b l → ∀ f, (foundP p (b :: l)).head? = some f → turn z u f = 0
  | [], _, _, _, _, _, _, _, _, f, e => by simp [foundP] at e
  | d :: t, z, u, p, b, h1, h2, hd, hf, f, e => by
    simp only [foundP] at e
    by_cases k : turn p b d = 0
    · rw [if_neg (by simp [k]), List.nil_append] at e
      exact foundP_first t z u b d h2 (turn_line hd h1 h2 k) hf.1 hf.2 f e
    · rw [if_pos k] at e
      simp only [List.cons_append, List.head?_cons] at e
      cases e
      exact h2
theorem foundC_cyc (c : Pt → Pt → Rat) (an : ∀ a b, c b a = - c a b) (S : Pt → Prop) (hc : LineAdd c S) (u : Pt) (t : List Pt) (hd : Diff (lastD u t) (u :: t ++ [u])) (hS : ∀ y ∈ u :: t, S y) : cyc c (foundC (u :: t)) = cyc c (u :: t) := by
  have c0 : ∀ a, c a a = 0 := fun a => by have := an a a; grind
  have hS2 : ∀ y ∈ u :: (t ++ [u]), S y := fun y hy => by
    rcases List.mem_cons.mp hy with rfl | hy
    · exact hS _ (by simp)
    · rcases List.mem_append.mp hy with hy | hy
      · exact hS _ (by simp [hy])
      · rw [List.mem_singleton] at hy; subst hy; exact hS _ (by simp)
  have hz : S (lastD u t) := by
    have : ∀ (l : List Pt) (a : Pt), lastD a l ∈ a :: l := by
      intro l
      induction l with
      | nil => intro a; simp [lastD]
      | cons b l ih => intro a; exact List.mem_cons_of_mem _ (ih b)
    exact hS _ (this t u)
  have hu : S u := hS _ (by simp)
  have hzu := hd.1
  have A := foundP_path c S hc (t ++ [u]) (lastD u t) (lastD u t) u (turn_self _ _) hzu hd.2 hS2
  have B := foundP_first (t ++ [u]) (lastD u t) u (lastD u t) u (turn_start _ _) (turn_end _ _) hzu hd.2
  have eF : foundC (u :: t) = foundP (lastD u t) (u :: (t ++ [u])) := rfl
  have eq : lastD (lastD u t) (u :: (t ++ [u])).dropLast = lastD u t := by
    rw [← List.cons_append, List.dropLast_concat]; rfl
  rw [lastD_append, eq] at A
  obtain ⟨A1, q, A2, rfl⟩ := A
  have hfS : ∀ f, (foundP (lastD u t) (u :: (t ++ [u]))).head? = some f → S f := fun f e => by
    refine hS f ((foundC_sub (u :: t)).subset ?_)
    rw [eF]
    cases h : foundP (lastD u t) (u :: (t ++ [u])) with
    | nil => rw [h] at e; cases e
    | cons g G => rw [h] at e; cases e; simp
  rw [eF]
  have ecu : cyc c (u :: t) = path c u (t ++ [u]) := rfl
  rw [ecu]
  generalize foundP (lastD u t) (u :: (t ++ [u])) = F at *
  generalize path c u (t ++ [u]) = Z at *
  generalize lastD u t = z at *
  cases F with
  | nil => simp only [path, lastD] at A1; simp only [cyc]; grind (ematch := 0)
  | cons f F =>
    have B1 := B f rfl
    have hf := hfS f rfl
    simp only [path, lastD] at A1 A2
    simp only [cyc]
    rw [path_append]
    simp only [path]
    generalize lastD f F = k at *
    have e1 := hc k z u hz hu hzu A2
    have e2 : turn k z f = 0 := turn_line (p := z) (b := u) hzu (turn_end _ _) A2 B1
    by_cases hzf : z = f
    · subst hzf
      have := c0 z
      grind (ematch := 0)
    · have e3 := hc k z f hz hf hzf e2
      grind (ematch := 0)
end Dial

/-! Ways that bulge everywhere. No program here. -/
namespace Dial
/-- every three in order turn to one side (sg 1: to the left) -/
def CC (sg : Rat) (L : List Pt) : Prop := ∀ a b c, [a, b, c].Sublist L → 0 ≤ sg * turn a b c
/-- no affine function changes its sign more than twice all round -/
def VD (L : List Pt) : Prop := ∀ (g : Aff) a b c d, [a, b, c, d].Sublist L → 0 < g.at a → g.at b < 0 → 0 < g.at c → g.at d < 0 → False
theorem CC.sub {sg : Rat} {L K : List Pt} (h : CC sg L) (s : K.Sublist L) : CC sg K := fun a b c k => h a b c (k.trans s)
theorem VD.sub {L K : List Pt} (h : VD L) (s : K.Sublist L) : VD K := fun g a b c d k => h g a b c d (k.trans s)
theorem VD.flip {L : List Pt} (h : VD L) (g : Aff) (a b c d : Pt) (s : [a, b, c, d].Sublist L) (ha : g.at a < 0) (hb : 0 < g.at b) (hc : g.at c < 0) (hd : 0 < g.at d) : False :=
  h g.neg a b c d s (by rw [Aff.at_neg]; grind) (by rw [Aff.at_neg]; grind) (by rw [Aff.at_neg]; grind) (by rw [Aff.at_neg]; grind)
/-! ### sublists -/
theorem sub_put {α : Type} {S L1 L2 : List α} {m : α} (h : S.Sublist (L1 ++ m :: L2)) : S.Sublist (L1 ++ L2) ∨ ∃ S1 S2, S = S1 ++ m :: S2 ∧ S1.Sublist L1 ∧ S2.Sublist L2 := by
  obtain ⟨S1, S2, rfl, h1, h2⟩ := List.sublist_append_iff.mp h
  rcases List.sublist_cons_iff.mp h2 with h2 | ⟨S3, rfl, h3⟩
  · exact .inl (h1.append h2)
  · exact .inr ⟨S1, S3, rfl, h1, h3⟩
theorem sub_last {α : Type} {S L : List α} {x : α} (h : S.Sublist (L ++ [x])) : S.Sublist L ∨ ∃ S1, S = S1 ++ [x] ∧ S1.Sublist L := by
  rcases sub_put (L2 := []) h with h | ⟨S1, S2, rfl, h1, h2⟩
  · exact .inl (by simpa using h)
  · have : S2 = [] := by simpa using h2
    subst this
    exact .inr ⟨S1, rfl, h1⟩
/-- a list of three or four, split at a place -/
theorem split3 {α : Type} {a b c m : α} {S1 S2 : List α} (h : [a, b, c] = S1 ++ m :: S2) :
    (S1 = [] ∧ m = a ∧ S2 = [b, c]) ∨ (S1 = [a] ∧ m = b ∧ S2 = [c]) ∨ (S1 = [a, b] ∧ m = c ∧ S2 = []) := by
  rcases S1 with _ | ⟨x, _ | ⟨y, _ | ⟨z, S1⟩⟩⟩
  · simp at h; exact .inl ⟨rfl, h.1.symm, h.2.symm⟩
  · simp at h; exact .inr (.inl ⟨by rw [h.1], h.2.1.symm, h.2.2.symm⟩)
  · simp at h; exact .inr (.inr ⟨by rw [h.1, h.2.1], h.2.2.1.symm, by simpa using h.2.2.2⟩)
  · simp at h
theorem split4 {α : Type} {a b c d m : α} {S1 S2 : List α} (h : [a, b, c, d] = S1 ++ m :: S2) :
    (S1 = [] ∧ m = a ∧ S2 = [b, c, d]) ∨ (S1 = [a] ∧ m = b ∧ S2 = [c, d]) ∨ (S1 = [a, b] ∧ m = c ∧ S2 = [d]) ∨ (S1 = [a, b, c] ∧ m = d ∧ S2 = []) := by
  rcases S1 with _ | ⟨x, S1⟩
  · simp at h; exact .inl ⟨rfl, h.1.symm, h.2.symm⟩
  · simp only [List.cons_append, List.cons.injEq] at h
    obtain ⟨rfl, h⟩ := h
    rcases split3 h with ⟨rfl, h2, h3⟩ | ⟨rfl, h2, h3⟩ | ⟨rfl, h2, h3⟩
    · exact .inr (.inl ⟨rfl, h2, h3⟩)
    · exact .inr (.inr (.inl ⟨rfl, h2, h3⟩))
    · exact .inr (.inr (.inr ⟨rfl, h2, h3⟩))
/-! ### a point put between two -/
def Between (x y m : Pt) : Prop := ∃ s : Rat, 0 ≤ s ∧ s ≤ 1 ∧ m = along s x y
theorem turn_mid1 (s : Rat) (x y q r : Pt) : turn (along s x y) q r = (1 - s) * turn x q r + s * turn y q r := by unfold turn along; grind
theorem turn_mid2 (s : Rat) (x y p r : Pt) : turn p (along s x y) r = (1 - s) * turn p x r + s * turn p y r := by unfold turn along; grind
theorem turn_mid3 (s : Rat) (x y p q : Pt) : turn p q (along s x y) = (1 - s) * turn p q x + s * turn p q y := by unfold turn along; grind
theorem mix {sg s t u v : Rat} (h0 : 0 ≤ s) (h1 : s ≤ 1) (e : t = (1 - s) * u + s * v) (hu : 0 ≤ sg * u) (hv : 0 ≤ sg * v) : 0 ≤ sg * t := by
  have k1 := mulp (a := 1 - s) (b := sg * u) (by grind) hu
  have k2 := mulp (a := s) (b := sg * v) h0 hv
  have e2 : sg * t = (1 - s) * (sg * u) + s * (sg * v) := by rw [e]; grind
  grind
theorem zero_ok {sg t : Rat} (h : t = 0) : 0 ≤ sg * t := by rw [h]; grind
theorem CC.put {sg : Rat} {L1 L2 : List Pt} {x y m : Pt} (h : CC sg (L1 ++ x :: y :: L2)) (b : Between x y m) : CC sg (L1 ++ x :: m :: y :: L2) := by
  obtain ⟨s, h0, h1, rfl⟩ := b
  intro p q r hs
  rw [show L1 ++ x :: along s x y :: y :: L2 = (L1 ++ [x]) ++ along s x y :: (y :: L2) by simp] at hs
  have hL : L1 ++ x :: y :: L2 = (L1 ++ [x]) ++ (y :: L2) := by simp
  rcases sub_put hs with hs | ⟨S1, S2, e, h2, h3⟩
  · exact h p q r (by rw [hL]; exact hs)
  · rcases split3 e with ⟨rfl, rfl, rfl⟩ | ⟨rfl, rfl, rfl⟩ | ⟨rfl, rfl, rfl⟩
    · refine mix h0 h1 (turn_mid1 s x y q r) (h _ _ _ ?_) ?_
      · exact (List.Sublist.cons_cons x h3).trans (List.sublist_append_right L1 _)
      · rcases List.sublist_cons_iff.mp h3 with h4 | ⟨S3, e2, h4⟩
        · exact h _ _ _ (((List.Sublist.cons_cons y h4).cons x).trans (List.sublist_append_right L1 _))
        · simp at e2; rw [e2.1]; exact zero_ok (turn_self _ _)
    · refine mix h0 h1 (turn_mid2 s x y p r) ?_ ?_
      · rcases sub_last h2 with h4 | ⟨S3, e2, h4⟩
        · exact h _ _ _ (h4.append (List.Sublist.cons_cons x h3))
        · have : S3 = [] ∧ p = x := by
            rcases S3 with _ | ⟨z, S3⟩
            · simp at e2; exact ⟨rfl, e2⟩
            · simp at e2
          rw [this.2]; exact zero_ok (turn_self _ _)
      · rcases List.sublist_cons_iff.mp h3 with h4 | ⟨S3, e2, h4⟩
        · rw [hL] at h; exact h _ _ _ (h2.append (List.Sublist.cons_cons y h4))
        · simp at e2; rw [e2.1]; exact zero_ok (turn_end _ _)
    · refine mix h0 h1 (turn_mid3 s x y p q) ?_ ?_
      · rcases sub_last h2 with h4 | ⟨S3, e2, h4⟩
        · have : [p, q, x].Sublist (L1 ++ x :: y :: L2) := h4.append ((List.nil_sublist _).cons_cons x)
          exact h _ _ _ this
        · have : q = x := by
            rcases S3 with _ | ⟨z, _ | ⟨z2, S3⟩⟩
            · simp at e2
            · simp at e2; exact e2.2
            · simp at e2
          rw [this]; exact zero_ok (turn_end _ _)
      · rw [hL] at h
        have : [p, q, y].Sublist ((L1 ++ [x]) ++ y :: L2) := h2.append ((List.nil_sublist _).cons_cons y)
        exact h _ _ _ this
/-- a point between the last and the first is put at the end -/
theorem CC.putEnd {sg : Rat} {L1 L2 : List Pt} {z a m : Pt} (h : CC sg (a :: L1)) (e : a :: L1 = L2 ++ [z]) (b : Between z a m) : CC sg (a :: L1 ++ [m]) := by
  obtain ⟨s, h0, h1, rfl⟩ := b
  intro p q r hs
  rcases sub_last hs with hs | ⟨S1, e1, h2⟩
  · exact h p q r hs
  · obtain ⟨rfl, rfl⟩ : S1 = [p, q] ∧ r = along s z a := by
      rcases split3 (m := along s z a) (S2 := []) e1 with ⟨_, _, k⟩ | ⟨_, _, k⟩ | ⟨k1, k2, _⟩
      · cases k
      · cases k
      · exact ⟨k1, k2.symm⟩
    refine mix h0 h1 (turn_mid3 s z a p q) ?_ ?_
    · rw [e] at h h2
      rcases sub_last h2 with h4 | ⟨S3, e2, h4⟩
      · have : [p, q, z].Sublist (L2 ++ [z]) := h4.append (List.Sublist.refl [z])
        exact h _ _ _ this
      · have : q = z := by
          rcases S3 with _ | ⟨z, _ | ⟨z2, S3⟩⟩
          · simp at e2
          · simp at e2; exact e2.2
          · simp at e2
        rw [this]; exact zero_ok (turn_end _ _)
    · rw [turn_rot a p q]
      rcases List.sublist_cons_iff.mp h2 with h4 | ⟨S3, e2, h4⟩
      · exact h _ _ _ (List.Sublist.cons_cons a h4)
      · simp at e2; rw [e2.1]; exact zero_ok (by rw [turn_self])
theorem VD.put {L1 L2 : List Pt} {x y m : Pt} (h : VD (L1 ++ x :: y :: L2)) (b : Between x y m) : VD (L1 ++ x :: m :: y :: L2) := by
  obtain ⟨s, h0, h1, rfl⟩ := b
  intro g p q r t hs gp gq gr gt
  rw [show L1 ++ x :: along s x y :: y :: L2 = (L1 ++ [x]) ++ along s x y :: (y :: L2) by simp] at hs
  have hL : L1 ++ x :: y :: L2 = (L1 ++ [x]) ++ (y :: L2) := by simp
  have em := along_at g s x y
  have pos : 0 < g.at (along s x y) → 0 < g.at x ∨ 0 < g.at y := fun k => by
    by_cases c : 0 < g.at x
    · exact .inl c
    · right
      by_cases c2 : 0 < g.at y
      · exact c2
      · have k1 := mulp (a := 1 - s) (b := - g.at x) (by grind) (by grind)
        have k2 := mulp (a := s) (b := - g.at y) (by grind) (by grind)
        grind
  have neg : g.at (along s x y) < 0 → g.at x < 0 ∨ g.at y < 0 := fun k => by
    by_cases c : g.at x < 0
    · exact .inl c
    · right
      by_cases c2 : g.at y < 0
      · exact c2
      · have k1 := mulp (a := 1 - s) (b := g.at x) (by grind) (by grind)
        have k2 := mulp (a := s) (b := g.at y) (by grind) (by grind)
        grind
  -- y is not the first of what follows, x not the last of what stands ahead, when their signs differ
  have ny : ∀ {S : List Pt} {w : Pt}, (w :: S).Sublist (y :: L2) → w ≠ y → (w :: S).Sublist L2 := fun {S w} k ne => by
    rcases List.sublist_cons_iff.mp k with k | ⟨S3, e2, _⟩
    · exact k
    · exact absurd (List.cons.inj e2).1 ne
  have nx : ∀ {S : List Pt} {w : Pt}, (S ++ [w]).Sublist (L1 ++ [x]) → w ≠ x → (S ++ [w]).Sublist L1 := fun {S w} k ne => by
    rcases sub_last k with k | ⟨S3, e2, _⟩
    · exact k
    · have := congrArg List.getLast? e2
      simp at this
      exact absurd this ne
  rcases sub_put hs with hs | ⟨S1, S2, e, h2, h3⟩
  · exact h g p q r t (by rw [hL]; exact hs) gp gq gr gt
  · rcases split4 e with ⟨rfl, rfl, rfl⟩ | ⟨rfl, rfl, rfl⟩ | ⟨rfl, rfl, rfl⟩ | ⟨rfl, rfl, rfl⟩
    · rcases pos gp with k | k
      · exact h g x q r t ((List.Sublist.cons_cons x h3).trans (List.sublist_append_right L1 _)) k gq gr gt
      · have h4 := ny h3 (by intro z; rw [z] at gq; grind)
        exact h g y q r t (((List.Sublist.cons_cons y h4).cons x).trans (List.sublist_append_right L1 _)) k gq gr gt
    · rcases neg gq with k | k
      · have h4 := nx (S := []) h2 (by intro z; rw [z] at gp; grind)
        exact h g p x r t (h4.append (List.Sublist.cons_cons x h3)) gp k gr gt
      · have h4 := ny h3 (by intro z; rw [z] at gr; grind)
        rw [hL] at h
        exact h g p y r t (h2.append (List.Sublist.cons_cons y h4)) gp k gr gt
    · rcases pos gr with k | k
      · have h4 := nx (S := [p]) h2 (by intro z; rw [z] at gq; grind)
        exact h g p q x t (h4.append (List.Sublist.cons_cons x h3)) gp gq k gt
      · have h4 := ny h3 (by intro z; rw [z] at gt; grind)
        rw [hL] at h
        exact h g p q y t (h2.append (List.Sublist.cons_cons y h4)) gp gq k gt
    · rcases neg gt with k | k
      · have h4 := nx (S := [p, q]) h2 (by intro z; rw [z] at gr; grind)
        have : [p, q, r, x].Sublist (L1 ++ x :: y :: L2) := h4.append ((List.nil_sublist _).cons_cons x)
        exact h g p q r x this gp gq gr k
      · rw [hL] at h
        have : [p, q, r, y].Sublist ((L1 ++ [x]) ++ y :: L2) := h2.append ((List.nil_sublist _).cons_cons y)
        exact h g p q r y this gp gq gr k
theorem VD.putEnd {L1 L2 : List Pt} {z a m : Pt} (h : VD (a :: L1)) (e : a :: L1 = L2 ++ [z]) (b : Between z a m) : VD (a :: L1 ++ [m]) := by
  obtain ⟨s, h0, h1, rfl⟩ := b
  intro g p q r t hs gp gq gr gt
  rcases sub_last hs with hs | ⟨S1, e1, h2⟩
  · exact h g p q r t hs gp gq gr gt
  · obtain ⟨rfl, rfl⟩ : S1 = [p, q, r] ∧ t = along s z a := by
      rcases split4 (m := along s z a) (S2 := []) e1 with ⟨_, _, k⟩ | ⟨_, _, k⟩ | ⟨_, _, k⟩ | ⟨k1, k2, _⟩
      · cases k
      · cases k
      · cases k
      · exact ⟨k1, k2.symm⟩
    have em := along_at g s z a
    have neg : g.at z < 0 ∨ g.at a < 0 := by
      by_cases c : g.at z < 0
      · exact .inl c
      · right
        by_cases c2 : g.at a < 0
        · exact c2
        · have k1 := mulp (a := 1 - s) (b := g.at z) (by grind) (by grind)
          have k2 := mulp (a := s) (b := g.at a) (by grind) (by grind)
          grind
    rcases neg with k | k
    · rw [e] at h h2
      rcases sub_last h2 with h4 | ⟨S3, e2, _⟩
      · have : [p, q, r, z].Sublist (L2 ++ [z]) := h4.append (List.Sublist.refl [z])
        exact h g p q r z this gp gq gr k
      · have := congrArg List.getLast? e2
        simp at this
        rw [this] at gr; grind
    · rcases List.sublist_cons_iff.mp h2 with h4 | ⟨S3, e2, _⟩
      · exact h.flip g a p q r (List.Sublist.cons_cons a h4) k gp gq gr
      · simp at e2
        rw [e2.1] at gp; grind
end Dial

/-! What bulges everywhere stays so when it is cut, tidied, turned round. No program here. -/
namespace Dial
/-! ### cutting -/
abbrev PH := Pt × Rat
def insP : PH → List PH → List Pt
  | _, [] => []
  | a, b :: t => mids cross a b ++ b.1 :: insP b t
theorem mids_between {a b : PH} : mids cross a b = [] ∨ ∃ m, mids cross a b = [m] ∧ Between a.1 b.1 m := by
  unfold mids
  split
  · rename_i k
    have d := div_between k
    exact .inr ⟨_, rfl, _, by grind, by grind, rfl⟩
  · exact .inl rfl
theorem insP_keep (Pr : List Pt → Prop) (put : ∀ {L1 L2 x y m}, Pr (L1 ++ x :: y :: L2) → Between x y m → Pr (L1 ++ x :: m :: y :: L2)) :
    ∀ (t : List PH) (a : PH) (L1 : List Pt), Pr (L1 ++ a.1 :: t.map (·.1)) → Pr (L1 ++ a.1 :: insP a t)
  | [], _, _, h => h
  | b :: t, a, L1, h => by
    simp only [insP]
    rcases mids_between (a := a) (b := b) with e | ⟨m, e, k⟩
    · rw [e]
      have := insP_keep Pr put t b (L1 ++ [a.1]) (by simpa using h)
      simpa using this
    · rw [e]
      have := insP_keep Pr put t b (L1 ++ [a.1, m]) (by
        have := put (L1 := L1) (L2 := t.map (·.1)) h k
        simpa using this)
      simpa using this
theorem keptP_sub : ∀ (t : List PH) (a : PH), (keptP cross a t).Sublist (a.1 :: insP a t)
  | [], a => List.nil_sublist _
  | b :: t, a => by
    have ih := keptP_sub t b
    simp only [keptP, insP]
    have h1 : (here a).Sublist [a.1] := by
      unfold here
      split
      · exact List.Sublist.refl _
      · exact List.nil_sublist _
    rw [List.append_assoc]
    have := h1.append ((List.Sublist.refl (mids cross a b)).append ih)
    simpa using this
/-- the edge that closes the way -/
theorem keptC_sub (a : PH) (t : List PH) : (keptC cross (a :: t)).Sublist (a.1 :: insP a t ++ mids cross (lastD a t) a) := by
  have gen : ∀ (t : List PH) (b : PH), (keptP cross b (t ++ [a])).Sublist (b.1 :: insP b t ++ mids cross (lastD b t) a) := by
    intro t
    induction t with
    | nil =>
      intro b
      simp only [List.nil_append, keptP, insP, lastD, List.append_nil]
      have h1 : (here b).Sublist [b.1] := by
        unfold here
        split
        · exact List.Sublist.refl _
        · exact List.nil_sublist _
      exact h1.append (List.Sublist.refl _)
    | cons d t ih =>
      intro b
      simp only [List.cons_append, keptP, insP, lastD]
      have h1 : (here b).Sublist [b.1] := by
        unfold here
        split
        · exact List.Sublist.refl _
        · exact List.nil_sublist _
      have := h1.append ((List.Sublist.refl (mids cross b d)).append (ih d))
      simpa using this
  exact gen t a
theorem lastD_insP : ∀ (t : List PH) (a : PH), lastD a.1 (insP a t) = (lastD a t).1
  | [], _ => rfl
  | b :: t, a => by
    simp only [insP, lastD]
    rw [lastD_cat]
    simp only [lastD]
    exact lastD_insP t b
theorem lastD_split {α : Type} : ∀ (t : List α) (a : α), ∃ L, a :: t = L ++ [lastD a t]
  | [], a => ⟨[], rfl⟩
  | b :: t, a => by
    obtain ⟨L, e⟩ := lastD_split t b
    exact ⟨a :: L, congrArg (a :: ·) e⟩
theorem lastD_mem {α : Type} : ∀ (l : List α) (a : α), lastD a l ∈ a :: l
  | [], a => by simp [lastD]
  | b :: l, a => List.mem_cons_of_mem _ (lastD_mem l b)
theorem kept_keep (Pr : List Pt → Prop) (put : ∀ {L1 L2 x y m}, Pr (L1 ++ x :: y :: L2) → Between x y m → Pr (L1 ++ x :: m :: y :: L2))
    (putEnd : ∀ {L1 L2 : List Pt} {z a m : Pt}, Pr (a :: L1) → a :: L1 = L2 ++ [z] → Between z a m → Pr (a :: L1 ++ [m])) (sub : ∀ {L K : List Pt}, Pr L → K.Sublist L → Pr K) (L : List PH) (h : Pr (L.map (·.1))) : Pr (keptC cross L) := by
  cases L with
  | nil => exact h
  | cons a t =>
    refine sub ?_ (keptC_sub a t)
    have h1 := insP_keep Pr put t a [] h
    rcases mids_between (a := lastD a t) (b := a) with e | ⟨m, e, k⟩
    · rw [e, List.append_nil]; exact h1
    · rw [e]
      obtain ⟨L2, e2⟩ := lastD_split (insP a t) a.1
      rw [lastD_insP] at e2
      exact putEnd h1 e2 k
theorem CC.kept {sg : Rat} (L : List PH) (h : CC sg (L.map (·.1))) : CC sg (keptC cross L) :=
  kept_keep (CC sg) (fun h b => h.put b) (fun h e b => h.putEnd e b) (fun h s => h.sub s) L h
theorem VD.kept (L : List PH) (h : VD (L.map (·.1))) : VD (keptC cross L) :=
  kept_keep VD (fun h b => h.put b) (fun h e b => h.putEnd e b) (fun h s => h.sub s) L h
/-! ### turned round, the other way round -/
theorem CC.rot {sg : Rat} {X Y : List Pt} (h : CC sg (X ++ Y)) : CC sg (Y ++ X) := by
  intro a b c s
  obtain ⟨S1, S2, e, h1, h2⟩ := List.sublist_append_iff.mp s
  have h3 := h2.append h1
  rcases S1 with _ | ⟨x, _ | ⟨y, _ | ⟨z, _ | ⟨w, S1⟩⟩⟩⟩
  · simp at e; subst e; exact h _ _ _ (by simpa using h3)
  · simp at e; obtain ⟨rfl, rfl⟩ := e
    have := h b c a (by simpa using h3)
    rwa [turn_rot] at this
  · simp at e; obtain ⟨rfl, rfl, rfl⟩ := e
    have := h c a b (by simpa using h3)
    rwa [← turn_rot] at this
  · simp at e; obtain ⟨rfl, rfl, rfl, rfl⟩ := e
    exact h _ _ _ (by simpa using h3)
  · simp at e
theorem VD.rot {X Y : List Pt} (h : VD (X ++ Y)) : VD (Y ++ X) := by
  intro g a b c d s ga gb gc gd
  obtain ⟨S1, S2, e, h1, h2⟩ := List.sublist_append_iff.mp s
  have h3 := h2.append h1
  rcases S1 with _ | ⟨x, _ | ⟨y, _ | ⟨z, _ | ⟨w, _ | ⟨v, S1⟩⟩⟩⟩⟩
  · simp at e; subst e; exact h g a b c d (by simpa using h3) ga gb gc gd
  · simp at e; obtain ⟨rfl, rfl⟩ := e
    exact h.flip g b c d a (by simpa using h3) gb gc gd ga
  · simp at e; obtain ⟨rfl, rfl, rfl⟩ := e
    exact h g c d a b (by simpa using h3) gc gd ga gb
  · simp at e; obtain ⟨rfl, rfl, rfl, rfl⟩ := e
    exact h.flip g d a b c (by simpa using h3) gd ga gb gc
  · simp at e; obtain ⟨rfl, rfl, rfl, rfl, rfl⟩ := e
    exact h g a b c d (by simpa using h3) ga gb gc gd
  · simp at e
theorem CC.rev {sg : Rat} {L : List Pt} (h : CC sg L) : CC (-sg) L.reverse := by
  intro a b c s
  have s2 := s.reverse
  rw [List.reverse_reverse] at s2
  have := h c b a (by simpa using s2)
  have e : turn c b a = - turn a b c := by unfold turn; grind
  rw [e] at this; grind
theorem VD.rev {L : List Pt} (h : VD L) : VD L.reverse := by
  intro g a b c d s ga gb gc gd
  have s2 := s.reverse
  rw [List.reverse_reverse] at s2
  exact h.flip g d c b a (by simpa using s2) gd gc gb ga
/-! ### how much of a plate -/
def crs (u v : Pt) : Rat := u.1 * v.2 - v.1 * u.2
def share (P : List Pt) : Rat := 1 / 2 * cyc crs P
theorem crs_anti (a b : Pt) : crs b a = - crs a b := by unfold crs; grind
theorem crs_line (S : Pt → Prop) : LineAdd crs S := fun u v w _ _ _ h => by unfold turn at h; unfold crs; grind
theorem cyc_put (v m : Pt) (M : List Pt) : cyc crs (v :: m :: M) = cyc crs (m :: M) + turn (lastD m M) v m := by
  rw [cyc_last, cyc_last]
  simp only [path, lastD]
  unfold turn crs; grind
theorem share_mono {sg : Rat} {Q P : List Pt} (s : Q.Sublist P) : ∀ L : List Pt, CC sg (L ++ P) → sg * cyc crs (L ++ Q) ≤ sg * cyc crs (L ++ P) := by
  induction s with
  | slnil => intro L _; grind
  | @cons Q P v s ih =>
    intro L h
    have h1 := ih L (h.sub (List.Sublist.append (List.Sublist.refl L) (List.sublist_cons_self v P)))
    have hr : CC sg (v :: P ++ L) := CC.rot h
    have e1 : cyc crs (L ++ v :: P) = cyc crs (v :: (P ++ L)) := cyc_rot crs (v :: P) L
    have e2 : cyc crs (L ++ P) = cyc crs (P ++ L) := cyc_rot crs P L
    rw [e1]
    rw [e2] at h1
    cases hM : P ++ L with
    | nil =>
      rw [hM] at h1
      have : cyc crs [v] = 0 := by simp only [cyc, path, List.nil_append]; unfold crs; grind
      rw [this]
      simp only [cyc] at h1; exact h1
    | cons m M =>
      rw [hM] at h1
      rw [List.cons_append, hM] at hr
      rw [cyc_put]
      have : 0 ≤ sg * turn (lastD m M) v m := by
        cases M with
        | nil => simp only [lastD]; exact zero_ok (turn_start _ _)
        | cons n M =>
          rw [← turn_rot (lastD m (n :: M)) v m]
          have hl : [lastD m (n :: M)].Sublist (n :: M) := List.singleton_sublist.mpr (lastD_mem M n)
          exact hr _ _ _ ((hl.cons_cons m).cons_cons v)
      grind
  | @cons_cons Q P v s ih =>
    intro L h
    have := ih (L ++ [v]) (by simpa using h)
    simpa using this
theorem cyc3 (a b c : Pt) : cyc crs [a, b, c] = turn a b c := by
  simp only [cyc, path, List.cons_append, List.nil_append]; unfold turn crs; grind
theorem share_ge {sg : Rat} {P : List Pt} (h : CC sg P) : 0 ≤ sg * share P := by
  have := share_mono (List.nil_sublist P) [] h
  simp only [List.nil_append] at this
  have e : cyc crs [] = 0 := rfl
  rw [e] at this
  unfold share
  grind
theorem share_tri {sg : Rat} {P : List Pt} (h : CC sg P) {a b c : Pt} (s : [a, b, c].Sublist P) : sg * turn a b c ≤ sg * (2 * share P) := by
  have := share_mono s [] h
  simp only [List.nil_append] at this
  rw [cyc3] at this
  unfold share
  grind
theorem share_cyc (P : List Pt) : 2 * share P = cyc crs P := by unfold share; grind
/-! ### tidying -/
def before (a b : Pt) : Bool := if a.1 ≠ b.1 then decide (a.1 < b.1) else decide (a.2 < b.2)
def leastTo (G : List Pt) : Nat → Nat
  | 0 => 0
  | k + 1 => if before (G.getD (k + 1) (0, 0)) (G.getD (leastTo G k) (0, 0)) then k + 1 else leastTo G k
def rotA (i : Nat) (G : List Pt) : List Pt := G.drop i ++ G.take i
def fore (F : List Pt) : List Pt := if share F < 0 then F.reverse else F
def tidy (P : List Pt) : List Pt := if (foundC (unlikeC P)).length < 3 then [] else rotA (leastTo (fore (foundC (unlikeC P))) ((fore (foundC (unlikeC P))).length - 1)) (fore (foundC (unlikeC P)))
theorem rotA_cyc (c : Pt → Pt → Rat) (i : Nat) (G : List Pt) : cyc c (rotA i G) = cyc c G := by
  unfold rotA
  rw [cyc_rot, List.take_append_drop]
theorem CC.rotA {sg : Rat} {G : List Pt} (h : CC sg G) (i : Nat) : CC sg (rotA i G) := by
  unfold Dial.rotA
  exact CC.rot (by rw [List.take_append_drop]; exact h)
theorem VD.rotA {G : List Pt} (h : VD G) (i : Nat) : VD (rotA i G) := by
  unfold Dial.rotA
  exact VD.rot (by rw [List.take_append_drop]; exact h)
theorem found_cyc (c : Pt → Pt → Rat) (an : ∀ a b, c b a = - c a b) (P : List Pt) (S : Pt → Prop) (hc : LineAdd c S) (hS : ∀ y ∈ P, S y) : cyc c (foundC (unlikeC P)) = cyc c P := by
  have c0 : ∀ a, c a a = 0 := fun a => by have := an a a; grind (ematch := 0)
  have e := unlikeC_cyc c c0 P
  by_cases h1 : P.length = 1
  · obtain ⟨a, rfl⟩ := List.length_eq_one_iff.mp h1
    have : unlikeC [a] = [a] := rfl
    rw [this]
    have : foundC [a] = [] := by
      simp only [foundC, lastD, foundP, List.cons_append, List.nil_append]
      rw [turn_self]; simp
    rw [this]
    simp only [cyc, path, List.nil_append]
    have := c0 a
    grind (ematch := 0)
  · rw [← e]
    cases hU : unlikeC P with
    | nil => rfl
    | cons u t =>
      refine foundC_cyc c an S hc u t (unlikeC_diff hU h1) fun y hy => hS y ?_
      rw [← hU] at hy
      exact (unlikeC_sub P).subset hy
theorem found_sub (P : List Pt) : (foundC (unlikeC P)).Sublist P := (foundC_sub _).trans (unlikeC_sub _)
theorem cyc_small (c : Pt → Pt → Rat) (an : ∀ a b, c b a = - c a b) {F : List Pt} (h : F.length < 3) : cyc c F = 0 := by
  rcases F with _ | ⟨a, _ | ⟨b, _ | ⟨d, F⟩⟩⟩
  · rfl
  · simp only [cyc, path, List.nil_append]; have := an a a; grind (ematch := 0)
  · simp only [cyc, path, List.nil_append, List.cons_append]; have := an a b; grind (ematch := 0)
  · simp at h; omega
theorem share_found (P : List Pt) : share (foundC (unlikeC P)) = share P := by
  unfold share
  rw [found_cyc crs crs_anti P (fun _ => True) (crs_line _) fun _ _ => trivial]
/-- a way that bulges to the left, tidied: it goes round the same -/
theorem tidy_cyc (c : Pt → Pt → Rat) (an : ∀ a b, c b a = - c a b) (P : List Pt) (hP : CC 1 P) (S : Pt → Prop) (hc : LineAdd c S) (hS : ∀ y ∈ P, S y) : cyc c (tidy P) = cyc c P := by
  have e := found_cyc c an P S hc hS
  unfold tidy
  split
  · rename_i h
    rw [← e, cyc_small c an h]
    rfl
  · rw [rotA_cyc]
    have h := share_ge (hP.sub (found_sub P))
    unfold fore
    rw [if_neg (by grind (ematch := 0))]
    exact e
theorem tidy_CC {P : List Pt} (hP : CC 1 P) : CC 1 (tidy P) := by
  unfold tidy
  split
  · exact hP.sub (List.nil_sublist _)
  · refine CC.rotA ?_ _
    have h := share_ge (hP.sub (found_sub P))
    unfold fore
    rw [if_neg (by grind)]
    exact hP.sub (found_sub P)
/-- one that bulges to the right is turned the other way round -/
theorem tidy_CC_neg {P : List Pt} (hP : CC (-1) P) : CC 1 (tidy P) := by
  unfold tidy
  split
  · exact fun a b c s => by simp at s
  · refine CC.rotA ?_ _
    have hF := hP.sub (found_sub P)
    unfold fore
    split
    · have := hF.rev
      have e : (- -1 : Rat) = 1 := by grind
      rw [e] at this
      exact this
    · intro a b c s
      have := share_tri hF s
      grind
theorem tidy_VD {P : List Pt} (hP : VD P) : VD (tidy P) := by
  unfold tidy
  split
  · exact hP.sub (List.nil_sublist _)
  · refine VD.rotA ?_ _
    unfold fore
    split
    · exact (hP.sub (found_sub P)).rev
    · exact hP.sub (found_sub P)
theorem tidy_mem {P : List Pt} {z : Pt} (h : z ∈ tidy P) : z ∈ P := by
  unfold tidy at h
  split at h
  · cases h
  · have h2 : z ∈ fore (foundC (unlikeC P)) := by
      unfold Dial.rotA at h
      rcases List.mem_append.mp h with h | h
      · exact List.mem_of_mem_drop h
      · exact List.mem_of_mem_take h
    refine (found_sub P).subset ?_
    unfold fore at h2
    split at h2
    · exact List.mem_reverse.mp h2
    · exact h2
theorem pair_sub {α : Type} : ∀ {L : List α} {q r : α}, q ∈ L → r ∈ L → q = r ∨ [q, r].Sublist L ∨ [r, q].Sublist L
  | a :: L, q, r, hq, hr => by
    rcases List.mem_cons.mp hq with e1 | h1
    · rcases List.mem_cons.mp hr with e2 | h2
      · exact .inl (e1.trans e2.symm)
      · rw [e1]; exact .inr (.inl ((List.singleton_sublist.mpr h2).cons_cons a))
    · rcases List.mem_cons.mp hr with e2 | h2
      · rw [e2]; exact .inr (.inr ((List.singleton_sublist.mpr h1).cons_cons a))
      · rcases pair_sub h1 h2 with h | h | h
        · exact .inl h
        · exact .inr (.inl (h.cons a))
        · exact .inr (.inr (h.cons a))
theorem turn_zero_perm {a b c : Pt} (h : turn a b c = 0) : turn a c b = 0 ∧ turn b a c = 0 ∧ turn b c a = 0 ∧ turn c a b = 0 ∧ turn c b a = 0 := by
  unfold turn at *; grind
theorem all_flat : ∀ {L : List Pt}, (∀ a b c, [a, b, c].Sublist L → turn a b c = 0) → ∀ p q r, p ∈ L → q ∈ L → r ∈ L → turn p q r = 0
  | [], _, _, _, _, h, _, _ => by cases h
  | a :: L, hL, p, q, r, hp, hq, hr => by
    have ih := all_flat (L := L) fun x y z s => hL x y z (s.cons a)
    have two : ∀ q r, q ∈ L → r ∈ L → turn a q r = 0 := fun q r hq hr => by
      rcases pair_sub hq hr with rfl | h | h
      · exact turn_end _ _
      · exact hL _ _ _ (h.cons_cons a)
      · exact (turn_zero_perm (hL _ _ _ (h.cons_cons a))).1
    rcases List.mem_cons.mp hp with e1 | h1
    · rw [e1]
      rcases List.mem_cons.mp hq with e2 | h2
      · rw [e2]; exact turn_self _ _
      · rcases List.mem_cons.mp hr with e3 | h3
        · rw [e3]; exact turn_start _ _
        · exact two _ _ h2 h3
    · rcases List.mem_cons.mp hq with e2 | h2
      · rw [e2]
        rcases List.mem_cons.mp hr with e3 | h3
        · rw [e3]; exact turn_end _ _
        · exact (turn_zero_perm (two _ _ h1 h3)).2.1
      · rcases List.mem_cons.mp hr with e3 | h3
        · rw [e3]; exact (turn_zero_perm (two _ _ h1 h2)).2.2.1
        · exact ih _ _ _ h1 h2 h3
theorem foundP_flat : ∀ (l : List Pt) (p : Pt), (∀ x y z, x ∈ p :: l → y ∈ p :: l → z ∈ p :: l → turn x y z = 0) → foundP p l = []
  | [], _, _ => rfl
  | [_], _, _ => rfl
  | b :: d :: t, p, h => by
    simp only [foundP]
    rw [if_neg (by rw [h p b d (by simp) (by simp) (by simp)]; simp), List.nil_append]
    exact foundP_flat (d :: t) b fun x y z hx hy hz => h x y z (List.mem_cons_of_mem _ hx) (List.mem_cons_of_mem _ hy) (List.mem_cons_of_mem _ hz)
/-- what is tidied is no part, or it has a share -/
theorem tidy_pos {P : List Pt} (hP : CC 1 P) (h : tidy P ≠ []) : 0 < share (tidy P) := by
  have h0 : share (tidy P) = share P := by
    unfold share
    rw [tidy_cyc crs crs_anti P hP (fun _ => True) (crs_line _) fun _ _ => trivial]
  rw [h0, ← share_found]
  have hU : CC 1 (unlikeC P) := hP.sub (unlikeC_sub P)
  have g := share_ge (hP.sub (found_sub P))
  by_cases c : 0 < share (foundC (unlikeC P))
  · exact c
  · exfalso
    have z : share (unlikeC P) = 0 := by
      have : share (unlikeC P) = share P := by
        unfold share
        rw [unlikeC_cyc crs (fun a => by have := crs_anti a a; grind)]
      rw [this, ← share_found]; grind
    have fl := all_flat (L := unlikeC P) fun a b c s => by
      have := share_tri hU s
      have := hU a b c s
      grind
    have hF : foundC (unlikeC P) = [] := by
      cases hU2 : unlikeC P with
      | nil => rfl
      | cons u t =>
        have mem : ∀ x, x ∈ lastD u t :: (u :: t ++ [u]) → x ∈ unlikeC P := fun x hx => by
          rw [hU2]
          rcases List.mem_cons.mp hx with e1 | h1
          · rw [e1]; exact lastD_mem t u
          · rcases List.mem_append.mp h1 with h2 | h2
            · exact h2
            · rw [List.mem_singleton.mp h2]; exact List.mem_cons_self
        exact foundP_flat _ _ fun x y z hx hy hz => fl x y z (mem x hx) (mem y hy) (mem z hz)
    apply h
    unfold tidy
    rw [hF]
    rfl
end Dial

/-! Where a bulging way goes round: just the points to the left of all its edges. No program here. -/
namespace Dial
def epath : Pt → List Pt → List (Pt × Pt)
  | _, [] => []
  | a, b :: t => (a, b) :: epath b t
def edges : List Pt → List (Pt × Pt)
  | [] => []
  | a :: t => epath a (t ++ [a])
theorem epath_split : ∀ (l : List Pt) (a : Pt) (u v : Pt), (u, v) ∈ epath a l → ∃ A B, a :: l = A ++ u :: v :: B
  | [], _, _, _, h => by cases h
  | b :: t, a, u, v, h => by
    rcases List.mem_cons.mp h with e | h
    · cases e; exact ⟨[], t, rfl⟩
    · obtain ⟨A, B, e⟩ := epath_split t b u v h
      exact ⟨a :: A, B, by rw [e]; rfl⟩
theorem list_end {α : Type} (B : List α) : B = [] ∨ ∃ B' b, B = B' ++ [b] := by
  cases h : B with
  | nil => exact .inl rfl
  | cons x t => exact .inr ⟨(x :: t).dropLast, (x :: t).getLast (by simp), by rw [List.dropLast_concat_getLast]⟩
/-- each corner stands to the left of each edge -/
theorem CC.edge {p : List Pt} (h : CC 1 p) {u v z : Pt} (he : (u, v) ∈ edges p) (hz : z ∈ p) : 0 ≤ turn u v z := by
  have one : ∀ {t : Rat}, 0 ≤ 1 * t → 0 ≤ t := fun {t} k => by grind
  cases p with
  | nil => cases he
  | cons a t =>
    obtain ⟨A, B, e⟩ := epath_split _ _ _ _ he
    rw [← List.cons_append] at e
    rcases list_end B with rfl | ⟨B', b, rfl⟩
    · have e2 : a :: t ++ [a] = (A ++ [u]) ++ [v] := by rw [e]; simp
      obtain ⟨e3, e4⟩ := List.append_inj' e2 rfl
      have e5 : a = v := by simpa using e4
      subst e5
      rw [e3] at hz
      rcases List.mem_append.mp hz with hz | hz
      · cases A with
        | nil => cases hz
        | cons a2 A =>
          rw [List.cons_append] at e3
          obtain ⟨rfl, e6⟩ := List.cons.inj e3
          rcases List.mem_cons.mp hz with rfl | hz2
          · rw [turn_end]; grind
          · have s : [a, z, u].Sublist (a :: t) := by
              rw [e6]
              have := (List.singleton_sublist.mpr hz2).append (List.Sublist.refl [u])
              exact this.cons_cons a
            have := h _ _ _ s
            rw [← turn_rot a z u, ← turn_rot z u a] at this
            exact one this
      · rw [List.mem_singleton.mp hz, turn_start]; grind
    · have e2 : a :: t ++ [a] = (A ++ u :: v :: B') ++ [b] := by rw [e]; simp
      obtain ⟨e3, _⟩ := List.append_inj' e2 rfl
      rw [e3] at hz h
      rcases List.mem_append.mp hz with hz | hz
      · have s : [z, u, v].Sublist (A ++ u :: v :: B') := (List.singleton_sublist.mpr hz).append (((List.nil_sublist B').cons_cons v).cons_cons u)
        have := h _ _ _ s
        rw [← turn_rot z u v] at this
        exact one this
      · rcases List.mem_cons.mp hz with rfl | hz
        · rw [turn_start]; grind
        · rcases List.mem_cons.mp hz with rfl | hz
          · rw [turn_end]; grind
          · have s : [u, v, z].Sublist (A ++ u :: v :: B') := (((List.singleton_sublist.mpr hz).cons_cons v).cons_cons u).trans (List.sublist_append_right A _)
            exact one (h _ _ _ s)
/-- x lies on no line through two of the points, nor above or below one -/
def Gen (S : Pt → Prop) (x : Pt) : Prop := (∀ v, S v → x.1 ≠ v.1) ∧ ∀ u v, S u → S v → u ≠ v → turn u v x ≠ 0
theorem Gen.mono {S T : Pt → Prop} {x : Pt} (h : Gen T x) (k : ∀ v, S v → T v) : Gen S x := ⟨fun v hv => h.1 v (k v hv), fun u v hu hv => h.2 u v (k u hu) (k v hv)⟩
theorem Gen.line {S : Pt → Prop} {x : Pt} (h : Gen S x) : LineAdd (ray x) S := fun u v w hv hw ne hl => ray_line hl (h.2 v w hv hw ne)
def allLeft (Q : List Pt) (x : Pt) : Bool := (edges Q).all fun e => decide (0 ≤ turn e.1 e.2 x)
def ind (Q : List Pt) (x : Pt) : Rat := if allLeft Q x then 1 else 0
theorem path_congr (c d : Pt → Pt → Rat) : ∀ (l : List Pt) (a : Pt), (∀ e ∈ epath a l, c e.1 e.2 = d e.1 e.2) → path c a l = path d a l
  | [], _, _ => rfl
  | b :: t, a, h => by
    simp only [path]
    rw [path_congr c d t b fun e he => h e (List.mem_cons_of_mem _ he), h (a, b) (by simp [epath])]
theorem cyc_congr (c d : Pt → Pt → Rat) (P : List Pt) (h : ∀ e ∈ edges P, c e.1 e.2 = d e.1 e.2) : cyc c P = cyc d P := by
  cases P with
  | nil => rfl
  | cons a t => exact path_congr c d _ a h
theorem epath_mem : ∀ (l : List Pt) (a : Pt) (e : Pt × Pt), e ∈ epath a l → e.1 ∈ a :: l ∧ e.2 ∈ l
  | [], _, _, h => by cases h
  | b :: t, a, e, h => by
    rcases List.mem_cons.mp h with rfl | h
    · exact ⟨by simp, by simp⟩
    · have := epath_mem t b e h
      exact ⟨List.mem_cons_of_mem _ this.1, List.mem_cons_of_mem _ this.2⟩
theorem edges_mem {P : List Pt} {e : Pt × Pt} (h : e ∈ edges P) : e.1 ∈ P ∧ e.2 ∈ P := by
  cases P with
  | nil => cases h
  | cons a t =>
    have := epath_mem _ _ _ h
    constructor
    · rcases List.mem_cons.mp this.1 with k | k
      · rw [k]; exact List.mem_cons_self
      · rcases List.mem_append.mp k with k | k
        · exact List.mem_cons_of_mem _ k
        · rw [List.mem_singleton.mp k]; exact List.mem_cons_self
    · rcases List.mem_append.mp this.2 with k | k
      · exact List.mem_cons_of_mem _ k
      · rw [List.mem_singleton.mp k]; exact List.mem_cons_self
/-! ### runs of a test along a list -/
theorem runs {α : Type} (R : α → Bool) (L : List α) (h1 : ∀ a b c d, [a, b, c, d].Sublist L → R a = true → R b = false → R c = true → R d = false → False)
    (h2 : ∀ a b c d, [a, b, c, d].Sublist L → R a = false → R b = true → R c = false → R d = true → False) :
    ∃ (s : Bool) (A B C : List α), L = A ++ B ++ C ∧ (∀ x ∈ A, R x = s) ∧ (∀ x ∈ B, R x = !s) ∧ (∀ x ∈ C, R x = s) := by
  cases L with
  | nil => exact ⟨true, [], [], [], rfl, by simp, by simp, by simp⟩
  | cons a t =>
    have split : ∀ (s : Bool) (K : List α), ∃ A B, K = A ++ B ∧ (∀ x ∈ A, R x = s) ∧ (B = [] ∨ ∃ b B', B = b :: B' ∧ R b = !s) := by
      intro s K
      induction K with
      | nil => exact ⟨[], [], rfl, by simp, .inl rfl⟩
      | cons y K ih =>
        by_cases c : R y = s
        · obtain ⟨A, B, e, hA, hB⟩ := ih
          exact ⟨y :: A, B, by rw [e]; rfl, fun x hx => by
            rcases List.mem_cons.mp hx with rfl | hx
            · exact c
            · exact hA x hx, hB⟩
        · exact ⟨[], y :: K, rfl, by simp, .inr ⟨y, K, rfl, by cases h : R y <;> cases s <;> simp_all⟩⟩
    obtain ⟨A, B0, e, hA, hB0⟩ := split (R a) t
    rcases hB0 with rfl | ⟨b, B1, rfl, hb⟩
    · refine ⟨R a, a :: A, [], [], by rw [e]; simp, fun x hx => ?_, by simp, by simp⟩
      rcases List.mem_cons.mp hx with rfl | hx
      · rfl
      · exact hA x hx
    · obtain ⟨B, C0, e2, hB, hC0⟩ := split (!R a) B1
      rcases hC0 with rfl | ⟨c, C, rfl, hc⟩
      · refine ⟨R a, a :: A, b :: B, [], by rw [e, e2]; simp, fun x hx => ?_, fun x hx => ?_, by simp⟩
        · rcases List.mem_cons.mp hx with rfl | hx
          · rfl
          · exact hA x hx
        · rcases List.mem_cons.mp hx with rfl | hx
          · exact hb
          · exact hB x hx
      · rw [Bool.not_not] at hc
        refine ⟨R a, a :: A, b :: B, c :: C, by rw [e, e2]; simp, fun x hx => ?_, fun x hx => ?_, fun x hx => ?_⟩
        · rcases List.mem_cons.mp hx with rfl | hx
          · rfl
          · exact hA x hx
        · rcases List.mem_cons.mp hx with rfl | hx
          · exact hb
          · exact hB x hx
        · rcases List.mem_cons.mp hx with rfl | hx
          · exact hc
          · by_cases k : R x = R a
            · exact k
            · exfalso
              have s : [a, b, c, x].Sublist (a :: t) := by
                rw [e, e2]
                refine List.Sublist.cons_cons a ?_
                have s1 : [c, x].Sublist (c :: C) := (List.singleton_sublist.mpr hx).cons_cons c
                have s2 : [b, c, x].Sublist (b :: (B ++ c :: C)) := (s1.trans (List.sublist_append_right B _)).cons_cons b
                exact s2.trans (List.sublist_append_right A _)
              cases ha : R a
              · rw [ha] at hb hc k
                exact h2 _ _ _ _ s ha hb hc (by simpa using k)
              · rw [ha] at hb hc k
                exact h1 _ _ _ _ s ha hb hc (by simpa using k)
def dn (R : Pt → Bool) (u v : Pt) : Rat := if R u = true ∧ R v = false then 1 else 0
theorem dn_const (R : Pt → Bool) (s : Bool) : ∀ (l : List Pt) (a : Pt), R a = s → (∀ x ∈ l, R x = s) → path (dn R) a l = 0 ∧ R (lastD a l) = s
  | [], _, h, _ => ⟨rfl, h⟩
  | b :: t, a, h, k => by
    have hb := k b (by simp)
    have ih := dn_const R s t b hb fun x hx => k x (List.mem_cons_of_mem _ hx)
    simp only [path, lastD]
    rw [ih.1]
    refine ⟨?_, ih.2⟩
    have z : dn R a b = 0 := by
      unfold dn
      rw [h, hb]
      cases s <;> simp
    rw [z]; grind
theorem dn_two (R : Pt → Bool) (x : Pt) (X : List Pt) (y : Pt) (Y : List Pt) (hX : ∀ z ∈ x :: X, R z = true) (hY : ∀ z ∈ y :: Y, R z = false) : cyc (dn R) (x :: X ++ y :: Y) = 1 := by
  simp only [List.cons_append, cyc, List.append_assoc]
  rw [path_append]
  have h1 := dn_const R true X x (hX x (by simp)) fun z hz => hX z (List.mem_cons_of_mem _ hz)
  have h2 := dn_const R false Y y (hY y (by simp)) fun z hz => hY z (List.mem_cons_of_mem _ hz)
  simp only [path]
  rw [h1.1, path_append, h2.1]
  simp only [path]
  have k1 : dn R (lastD x X) y = 1 := by unfold dn; rw [h1.2, hY y (by simp)]; simp
  have k2 : dn R (lastD y Y) x = 0 := by unfold dn; rw [h2.2]; simp
  rw [k1, k2]; grind
theorem path_same (c : Pt → Pt → Rat) (c0 : ∀ a, c a a = 0) : ∀ (l : List Pt) (a : Pt), (∀ e ∈ epath a l, e.1 = e.2) → path c a l = 0
  | [], _, _ => rfl
  | b :: t, a, h => by
    have e : a = b := h (a, b) (by simp [epath])
    simp only [path]
    rw [path_same c c0 t b fun e he => h e (List.mem_cons_of_mem _ he), e, c0]
    grind
theorem mono_path (m : Pt → Rat) : ∀ (l : List Pt) (a : Pt), (∀ e ∈ epath a l, m e.1 ≤ m e.2) → (∀ e ∈ epath a l, m a ≤ m e.1 ∧ m e.2 ≤ m (lastD a l)) ∧ m a ≤ m (lastD a l)
  | [], a, _ => ⟨fun e he => (by cases he), by simp only [lastD]; grind⟩
  | b :: t, a, h => by
    have h1 := h (a, b) (by simp [epath])
    have ih := mono_path m t b fun e he => h e (List.mem_cons_of_mem _ he)
    simp only [lastD]
    refine ⟨fun e he => ?_, by have := ih.2; dsimp only at h1; grind⟩
    rcases List.mem_cons.mp he with rfl | he
    · exact ⟨by dsimp only; grind, ih.2⟩
    · have := ih.1 e he
      dsimp only at h1
      exact ⟨by grind, this.2⟩
/-- a bulging way with a share goes round just what lies to the left of all its edges -/
theorem inside {p : List Pt} (hC : CC 1 p) (hV : VD p) (hs : 0 < share p) {x : Pt} (hG : Gen (· ∈ p) x) : cyc (ray x) p = ind p x := by
  unfold ind
  by_cases hA : allLeft p x = true
  · rw [if_pos hA]
    have left : ∀ e ∈ edges p, 0 ≤ turn e.1 e.2 x := fun e he => of_decide_eq_true (List.all_eq_true.mp hA e he)
    have strict : ∀ e ∈ edges p, e.1 ≠ e.2 → 0 < turn e.1 e.2 x := fun e he ne => by
      have m := edges_mem he
      have := hG.2 e.1 e.2 m.1 m.2 ne
      have := left e he
      grind
    let R : Pt → Bool := fun v => decide (x.1 < v.1)
    have e1 : cyc (ray x) p = cyc (dn R) p := by
      refine cyc_congr _ _ p fun e he => ?_
      have l := left e he
      unfold ray dn
      by_cases c1 : x.1 < e.1.1 <;> by_cases c2 : x.1 < e.2.1
      · rw [if_pos c1, if_pos c2, if_neg (show ¬ (R e.1 = true ∧ R e.2 = false) by simp [R, c1, c2])]
      · rw [if_pos c1, if_neg c2, if_pos (strict e he fun z => c2 (by rw [← z]; exact c1)), if_pos (show R e.1 = true ∧ R e.2 = false by simp [R, c1, c2])]
      · rw [if_neg c1, if_pos c2, if_neg (show ¬ turn e.1 e.2 x < 0 by grind), if_neg (show ¬ (R e.1 = true ∧ R e.2 = false) by simp [R, c1, c2])]
      · rw [if_neg c1, if_neg c2, if_neg (show ¬ (R e.1 = true ∧ R e.2 = false) by simp [R, c1, c2])]
    rw [e1]
    let g : Aff := ⟨1, 0, - x.1⟩
    have gat : ∀ v, g.at v = v.1 - x.1 := fun v => by show 1 * v.1 + 0 * v.2 + - x.1 = _; grind
    have gp : ∀ v, R v = true → 0 < g.at v := fun v h => by
      have : x.1 < v.1 := of_decide_eq_true h
      rw [gat]; grind
    have gn : ∀ v, v ∈ p → R v = false → g.at v < 0 := fun v hv h => by
      have : ¬ x.1 < v.1 := of_decide_eq_false h
      have := hG.1 v hv
      rw [gat]; grind
    have mem4 : ∀ {a b c d : Pt}, [a, b, c, d].Sublist p → a ∈ p ∧ b ∈ p ∧ c ∈ p ∧ d ∈ p := fun s => ⟨s.subset (by simp), s.subset (by simp), s.subset (by simp), s.subset (by simp)⟩
    obtain ⟨s, A, B, C, e, a1, a2, a3⟩ := runs R p (fun a b c d k ra rb rc rd => hV g a b c d k (gp a ra) (gn b (mem4 k).2.1 rb) (gp c rc) (gn d (mem4 k).2.2.2 rd))
      (fun a b c d k ra rb rc rd => hV.flip g a b c d k (gn a (mem4 k).1 ra) (gp b rb) (gn c (mem4 k).2.2.1 rc) (gp d rd))
    -- both sides are met
    have both : ∀ s : Bool, (∀ v ∈ p, R v = s) → False := by
      intro s hc
      have sgn : ∀ u v, u ∈ p → v ∈ p → 0 < (u.1 - x.1) * (v.1 - x.1) := fun u v hu hv => by
        cases s
        · have k1 := gn u hu (hc u hu)
          have k2 := gn v hv (hc v hv)
          rw [gat] at k1 k2
          have := mulpp (a := x.1 - u.1) (b := x.1 - v.1) (by grind) (by grind)
          grind
        · have k1 := gp u (hc u hu)
          have k2 := gp v (hc v hv)
          rw [gat] at k1 k2
          exact mulpp k1 k2
      let m : Pt → Rat := fun v => (v.2 - x.2) / (v.1 - x.1)
      have tm : ∀ u v, u ∈ p → v ∈ p → turn u v x = (u.1 - x.1) * (v.1 - x.1) * (m v - m u) := fun u v hu hv => by
        have k1 := hG.1 u hu
        have k2 := hG.1 v hv
        have d1 : u.1 - x.1 ≠ 0 := by grind
        have d2 : v.1 - x.1 ≠ 0 := by grind
        show turn u v x = (u.1 - x.1) * (v.1 - x.1) * ((v.2 - x.2) / (v.1 - x.1) - (u.2 - x.2) / (u.1 - x.1))
        unfold turn
        grind
      have mle : ∀ e ∈ edges p, m e.1 ≤ m e.2 := fun e he => by
        have k := left e he
        have mm := edges_mem he
        rw [tm _ _ mm.1 mm.2] at k
        have k2 := sgn _ _ mm.1 mm.2
        have := neg_scale (s := (e.1.1 - x.1) * (e.2.1 - x.1)) (t := m e.2 - m e.1) k2
        grind
      cases p with
      | nil => exact absurd hs (by show ¬ 0 < 1 / 2 * cyc crs []; simp only [cyc]; grind)
      | cons a t =>
        have mp := mono_path m (t ++ [a]) a mle
        rw [lastD_append] at mp
        have same : ∀ e ∈ edges (a :: t), e.1 = e.2 := fun e he => by
          have k := mp.1 e he
          have k2 := mle e he
          have mm := edges_mem he
          have k3 : m e.2 - m e.1 = 0 := by grind
          have z : turn e.1 e.2 x = 0 := by rw [tm _ _ mm.1 mm.2, k3]; grind
          by_cases c : e.1 = e.2
          · exact c
          · exact absurd z (hG.2 _ _ mm.1 mm.2 c)
        have z : cyc crs (a :: t) = 0 := path_same crs (fun a => by have := crs_anti a a; grind) _ _ same
        have := share_cyc (a :: t)
        grind
    cases s with
    | true =>
      have e2 : cyc (dn R) p = cyc (dn R) ((C ++ A) ++ B) := by
        rw [e, List.append_assoc C A B]
        exact (cyc_rot _ C (A ++ B)) 
      have a4 : ∀ z ∈ C ++ A, R z = true := fun z hz => (List.mem_append.mp hz).elim (a3 z) (a1 z)
      rw [e2]
      cases hX : C ++ A with
      | nil =>
        exfalso
        refine both false fun v hv => ?_
        have : v ∈ B := by
          rw [e] at hv
          simp only [List.mem_append] at hv
          rcases hv with (hv | hv) | hv
          · have : v ∈ C ++ A := List.mem_append.mpr (.inr hv)
            rw [hX] at this; cases this
          · exact hv
          · have : v ∈ C ++ A := List.mem_append.mpr (.inl hv)
            rw [hX] at this; cases this
        exact a2 v this
      | cons x0 X =>
        cases hY : B with
        | nil =>
          exfalso
          refine both true fun v hv => ?_
          rw [e, hY] at hv
          simp only [List.append_nil, List.mem_append] at hv
          exact hv.elim (a1 v) (a3 v)
        | cons y0 Y => exact dn_two R x0 X y0 Y (by rw [← hX]; exact a4) (by rw [← hY]; exact a2)
    | false =>
      have e2 : cyc (dn R) p = cyc (dn R) (B ++ (C ++ A)) := by
        rw [e, List.append_assoc, ← List.append_assoc B C A]
        exact (cyc_rot _ (B ++ C) A)
      have a4 : ∀ z ∈ C ++ A, R z = false := fun z hz => (List.mem_append.mp hz).elim (a3 z) (a1 z)
      rw [e2]
      cases hX : C ++ A with
      | nil =>
        exfalso
        refine both true fun v hv => ?_
        have : v ∈ B := by
          rw [e] at hv
          simp only [List.mem_append] at hv
          rcases hv with (hv | hv) | hv
          · have : v ∈ C ++ A := List.mem_append.mpr (.inr hv)
            rw [hX] at this; cases this
          · exact hv
          · have : v ∈ C ++ A := List.mem_append.mpr (.inl hv)
            rw [hX] at this; cases this
        exact a2 v this
      | cons x0 X =>
        cases hY : B with
        | nil =>
          exfalso
          refine both false fun v hv => ?_
          rw [e, hY] at hv
          simp only [List.append_nil, List.mem_append] at hv
          exact hv.elim (a1 v) (a3 v)
        | cons y0 Y => exact dn_two R y0 Y x0 X (by rw [← hY]; exact a2) (by rw [← hX]; exact a4)
  · rw [if_neg hA]
    have hA2 : allLeft p x = false := by simpa using hA
    obtain ⟨e, he, hn⟩ := List.all_eq_false.mp hA2
    have hn2 : turn e.1 e.2 x < 0 := by
      have : ¬ 0 ≤ turn e.1 e.2 x := fun k => hn (decide_eq_true k)
      grind
    refine cyc_ray_out (lineOf e.1 e.2) x p (fun z hz => ?_) (by rw [lineOf_at]; exact hn2)
    rw [lineOf_at]
    exact hC.edge he hz
end Dial

/-! How much of a plate a closed way goes round, as the limit of a count over a grid. No program here. -/
namespace Dial
def sm (f : Nat → Rat) : Nat → Rat
  | 0 => 0
  | n + 1 => sm f n + f n
theorem sm_add (f g : Nat → Rat) : ∀ n, sm (fun i => f i + g i) n = sm f n + sm g n
  | 0 => by simp only [sm]; grind
  | n + 1 => by simp only [sm]; rw [sm_add f g n]; grind
theorem sm_mul (k : Rat) (f : Nat → Rat) : ∀ n, sm (fun i => k * f i) n = k * sm f n
  | 0 => by simp only [sm]; grind
  | n + 1 => by simp only [sm]; rw [sm_mul k f n]; grind
theorem sm_zero : ∀ n, sm (fun _ => 0) n = 0
  | 0 => rfl
  | n + 1 => by simp only [sm]; rw [sm_zero n]; grind
theorem sm_congr (f g : Nat → Rat) : ∀ n, (∀ i, i < n → f i = g i) → sm f n = sm g n
  | 0, _ => rfl
  | n + 1, h => by simp only [sm]; rw [sm_congr f g n fun i hi => h i (by omega), h n (by omega)]
theorem sm_le (f g : Nat → Rat) : ∀ n, (∀ i, i < n → f i ≤ g i) → sm f n ≤ sm g n
  | 0, _ => by simp only [sm]; grind
  | n + 1, h => by
    have h1 := sm_le f g n fun i hi => h i (by omega)
    have h2 := h n (by omega)
    simp only [sm]; grind
theorem cast_succ (n : Nat) : (((n + 1 : Nat)) : Rat) = (n : Rat) + 1 := by simp
theorem cast_nonneg (n : Nat) : (0 : Rat) ≤ (n : Rat) := by
  have : ((0 : Nat) : Rat) ≤ (n : Rat) := Rat.natCast_le_natCast.mpr (Nat.zero_le n)
  simpa using this
theorem cast_pos {n : Nat} (h : 0 < n) : (0 : Rat) < (n : Rat) := by
  have : ((0 : Nat) : Rat) < (n : Rat) := Rat.natCast_lt_natCast.mpr h
  simpa using this
theorem cast_one_le {n : Nat} (h : 1 ≤ n) : (1 : Rat) ≤ (n : Rat) := by
  have : ((1 : Nat) : Rat) ≤ (n : Rat) := Rat.natCast_le_natCast.mpr h
  simpa using this
theorem mul_den (a : Rat) : a * (a.den : Rat) = (a.num : Rat) := by
  rw [Rat.mul_def', Rat.num_natCast, Rat.den_natCast, ← Rat.mkRat_self (a.num : Rat), Rat.mkRat_eq_iff (by have := a.den_nz; simp [this]) (by simp)]
  show a.num * (a.den : Int) * ((1 : Nat) : Int) = a.num * ((a.den * 1 : Nat) : Int)
  simp
/-- the points of the grid -/
def pt (N M : Nat) (j i : Nat) : Pt := ((j : Rat) / N + 1 / (N * M), (i : Rat) / N + 1 / (N * M * M))
def tot (f : Pt → Rat) (N M : Nat) : Rat := sm (fun j => sm (fun i => f (pt N M j i)) N) N
def Area (f : Pt → Rat) (al : Rat) : Prop := ∃ (C : Rat) (M0 : Nat), ∀ M, M0 ≤ M → 1 ≤ M → ∀ N, 1 ≤ N → al * N * N - tot f N M ≤ C * N ∧ tot f N M - al * N * N ≤ C * N
/-- so from some fineness on at all points of the grid -/
def Ev (P : Pt → Prop) : Prop := ∃ M0 : Nat, ∀ M, M0 ≤ M → 1 ≤ M → ∀ N, 1 ≤ N → ∀ j i, P (pt N M j i)
theorem Ev.and {P Q : Pt → Prop} (h : Ev P) (k : Ev Q) : Ev fun x => P x ∧ Q x := by
  obtain ⟨a, ha⟩ := h
  obtain ⟨b, hb⟩ := k
  exact ⟨a + b, fun M hM h1 N hN j i => ⟨ha M (by omega) h1 N hN j i, hb M (by omega) h1 N hN j i⟩⟩
theorem Ev.mono {P Q : Pt → Prop} (h : Ev P) (k : ∀ x, P x → Q x) : Ev Q := by
  obtain ⟨a, ha⟩ := h
  exact ⟨a, fun M hM h1 N hN j i => k _ (ha M hM h1 N hN j i)⟩
theorem Ev.true : Ev fun _ => True := ⟨0, fun _ _ _ _ _ _ _ => trivial⟩
theorem Ev.all {α : Type} {L : List α} {P : α → Pt → Prop} (h : ∀ a ∈ L, Ev (P a)) : Ev fun x => ∀ a ∈ L, P a x := by
  induction L with
  | nil => exact ⟨0, fun _ _ _ _ _ _ _ a ha => by cases ha⟩
  | cons a L ih =>
    refine ((h a (by simp)).and (ih fun b hb => h b (List.mem_cons_of_mem _ hb))).mono fun x hx b hb => ?_
    rcases List.mem_cons.mp hb with rfl | hb
    · exact hx.1
    · exact hx.2 b hb
theorem tot_add (f g : Pt → Rat) (N M : Nat) : tot (fun x => f x + g x) N M = tot f N M + tot g N M := by
  unfold tot
  rw [← sm_add]
  exact sm_congr _ _ _ fun j _ => sm_add _ _ _
theorem tot_mul (k : Rat) (f : Pt → Rat) (N M : Nat) : tot (fun x => k * f x) N M = k * tot f N M := by
  unfold tot
  rw [← sm_mul]
  exact sm_congr _ _ _ fun j _ => sm_mul _ _ _
theorem Area.add {f g : Pt → Rat} {a b : Rat} (h : Area f a) (k : Area g b) : Area (fun x => f x + g x) (a + b) := by
  obtain ⟨C, m, hC⟩ := h
  obtain ⟨D, n, hD⟩ := k
  refine ⟨C + D, m + n, fun M hM h1 N hN => ?_⟩
  have p := hC M (by omega) h1 N hN
  have q := hD M (by omega) h1 N hN
  rw [tot_add]
  grind
theorem Area.neg {f : Pt → Rat} {a : Rat} (h : Area f a) : Area (fun x => -1 * f x) (-1 * a) := by
  obtain ⟨C, m, hC⟩ := h
  refine ⟨C, m, fun M hM h1 N hN => ?_⟩
  have p := hC M hM h1 N hN
  rw [tot_mul]
  grind
theorem Area.zero : Area (fun _ => 0) 0 := ⟨0, 0, fun M _ _ N _ => by
  have : tot (fun _ => 0) N M = 0 := by
    unfold tot
    rw [show (fun _ : Nat => sm (fun _ => (0 : Rat)) N) = fun _ => 0 from funext fun _ => sm_zero N]
    exact sm_zero N
  rw [this]; grind⟩
theorem Area.congr {f g : Pt → Rat} {a : Rat} (h : Area f a) (k : Ev fun x => f x = g x) : Area g a := by
  obtain ⟨C, m, hC⟩ := h
  obtain ⟨n, hn⟩ := k
  refine ⟨C, m + n, fun M hM h1 N hN => ?_⟩
  have : tot g N M = tot f N M := by
    unfold tot
    exact sm_congr _ _ _ fun j _ => sm_congr _ _ _ fun i _ => (hn M (by omega) h1 N hN j i).symm
  rw [this]
  exact hC M (by omega) h1 N hN
theorem arch (q : Rat) : ∃ n : Nat, q < (n : Rat) := by
  refine ⟨(q.num.natAbs + 1), ?_⟩
  have hd : (1 : Rat) ≤ (q.den : Rat) := cast_one_le q.den_pos
  have h1 : q * q.den = q.num := mul_den q
  have h2 : (q.num : Rat) ≤ ((q.num.natAbs : Nat) : Rat) := by
    have : q.num ≤ ((q.num.natAbs : Nat) : Int) := by omega
    have := Rat.intCast_le_intCast.mpr this
    rwa [Rat.intCast_natCast] at this
  rw [cast_succ]
  have h3 := cast_nonneg q.num.natAbs
  by_cases c : 0 ≤ q
  · have := mulp (a := q) (b := (q.den : Rat) - 1) c (by grind)
    grind
  · grind
theorem Area.mono {f g : Pt → Rat} {a b : Rat} (h : Area f a) (k : Area g b) (e : Ev fun x => f x ≤ g x) : a ≤ b := by
  obtain ⟨C, m, hC⟩ := h
  obtain ⟨D, n, hD⟩ := k
  obtain ⟨l, hl⟩ := e
  by_cases c : a ≤ b
  · exact c
  · exfalso
    have hd : 0 < a - b := by grind
    obtain ⟨N, hN⟩ := arch ((C + D) / (a - b))
    have e1 : (C + D) / (a - b) * (a - b) = C + D := by grind
    have h1 : 1 ≤ N + 1 := by omega
    have p := (hC (m + n + l + 1) (by omega) (by omega) (N + 1) h1).1
    have q := (hD (m + n + l + 1) (by omega) (by omega) (N + 1) h1).2
    have t : tot f (N + 1) (m + n + l + 1) ≤ tot g (N + 1) (m + n + l + 1) := by
      unfold tot
      exact sm_le _ _ _ fun j _ => sm_le _ _ _ fun i _ => hl _ (by omega) (by omega) _ h1 j i
    have hp := cast_pos (n := N + 1) (by omega)
    have hN2 : (C + D) / (a - b) < ((N + 1 : Nat) : Rat) := by rw [cast_succ]; grind
    have k1 := mulpp (a := ((N + 1 : Nat) : Rat) - (C + D) / (a - b)) (b := a - b) (by grind) hd
    have k2 := mulpp k1 hp
    generalize ((N + 1 : Nat) : Rat) = n at *
    generalize (C + D) / (a - b) = r at *
    have k3 : (n - r) * (a - b) * n = (a - b) * n * n - (C + D) * n := by grind
    grind
theorem Area.uniq {f : Pt → Rat} {a b : Rat} (h : Area f a) (k : Area f b) : a = b := by
  have e : Ev fun x => f x ≤ f x := ⟨0, fun _ _ _ _ _ _ _ => by grind⟩
  have h1 := h.mono k e
  have h2 := k.mono h e
  grind
/-! ### the grid meets no line -/
theorem off_line (A B C : Int) (h : A ≠ 0 ∨ B ≠ 0) (M N j i : Nat) (hA : A.natAbs < M) (hB : B.natAbs < M) :
    A * (j * M + 1) * M + B * (i * (M * M) + 1) + C * (N * (M * M)) ≠ 0 := by
  intro e
  have d1 : (M : Int) ∣ B := by
    refine ⟨-(A * (j * M + 1) + B * (i * M) + C * (N * M)), ?_⟩
    grind
  have b0 : B = 0 := Int.eq_zero_of_dvd_of_natAbs_lt_natAbs d1 (by simpa using hB)
  subst b0
  have hM : (M : Int) ≠ 0 := by omega
  have e2 : (M : Int) * (A * (j * M + 1) + C * (N * M)) = 0 := by grind
  have e3 : A * (j * M + 1) + C * (N * M) = 0 := by
    rcases Int.mul_eq_zero.mp e2 with z | z
    · exact absurd z hM
    · exact z
  have d2 : (M : Int) ∣ A := by
    refine ⟨-(A * j + C * N), ?_⟩
    grind
  have a0 : A = 0 := Int.eq_zero_of_dvd_of_natAbs_lt_natAbs d2 (by simpa using hA)
  rcases h with h | h
  · exact h a0
  · exact h rfl
theorem ev_aff (f : Aff) (h : f.al ≠ 0 ∨ f.be ≠ 0) : Ev fun x => f.at x ≠ 0 := by
  -- whole numbers
  have key : ∃ A B C : Int, ∃ D : Rat, D ≠ 0 ∧ (A : Rat) = D * f.al ∧ (B : Rat) = D * f.be ∧ (C : Rat) = D * f.ga := by
    refine ⟨f.al.num * f.be.den * f.ga.den, f.be.num * f.al.den * f.ga.den, f.ga.num * f.al.den * f.be.den, (f.al.den : Rat) * f.be.den * f.ga.den, ?_, ?_, ?_, ?_⟩
    · have h1 := cast_pos f.al.den_pos
      have h2 := cast_pos f.be.den_pos
      have h3 := cast_pos f.ga.den_pos
      have := mulpp (mulpp h1 h2) h3
      grind
    · have := mul_den f.al
      simp only [Rat.intCast_mul, Rat.intCast_natCast]; grind
    · have := mul_den f.be
      simp only [Rat.intCast_mul, Rat.intCast_natCast]; grind
    · have := mul_den f.ga
      simp only [Rat.intCast_mul, Rat.intCast_natCast]; grind
  obtain ⟨A, B, C, D, hD, eA, eB, eC⟩ := key
  refine ⟨A.natAbs + B.natAbs + 1, fun M hM h1 N hN j i z => ?_⟩
  have hAB : A ≠ 0 ∨ B ≠ 0 := by
    rcases h with h | h
    · left
      intro q
      rw [q] at eA
      have : D * f.al = 0 := by simpa using eA.symm
      rcases Rat.mul_eq_zero.mp this with k | k
      · exact hD k
      · exact h k
    · right
      intro q
      rw [q] at eB
      have : D * f.be = 0 := by simpa using eB.symm
      rcases Rat.mul_eq_zero.mp this with k | k
      · exact hD k
      · exact h k
  refine off_line A B C hAB M N j i (by omega) (by omega) ?_
  have hMp := cast_pos (n := M) (by omega)
  have hNp := cast_pos (n := N) (by omega)
  have goal : ((A * (j * M + 1) * M + B * (i * (M * M) + 1) + C * (N * (M * M)) : Int) : Rat) = 0 := by
    simp only [Rat.intCast_add, Rat.intCast_mul, Rat.intCast_natCast, Rat.intCast_one]
    rw [eA, eB, eC]
    have e1 : (pt N M j i).1 * (N * M) = j * M + 1 := by unfold pt; grind
    have e2 : (pt N M j i).2 * (N * M * M) = i * M * M + 1 := by unfold pt; grind
    unfold Aff.at at z
    generalize (pt N M j i).1 = s at *
    generalize (pt N M j i).2 = t at *
    grind
  exact_mod_cast goal
theorem ev_gen (L : List Pt) : Ev (Gen (· ∈ L)) := by
  have h1 : Ev fun x => ∀ v ∈ L, x.1 ≠ v.1 := Ev.all fun v _ => by
    refine (ev_aff ⟨1, 0, -v.1⟩ (.inl (by simp))).mono fun x hx e => hx ?_
    unfold Aff.at; rw [e]; grind
  have h2 : Ev fun x => ∀ u ∈ L, ∀ v ∈ L, u ≠ v → turn u v x ≠ 0 := Ev.all fun u _ => Ev.all fun v _ => by
    by_cases c : u = v
    · exact Ev.true.mono fun _ _ k => absurd c k
    · refine (ev_aff (lineOf u v) ?_).mono fun x hx _ => by rw [lineOf_at] at hx; exact hx
      rcases ne_cases c with k | k
      · right; show v.1 - u.1 ≠ 0; grind
      · left; show -(v.2 - u.2) ≠ 0; grind
  exact (h1.and h2).mono fun x hx => ⟨hx.1, fun u v hu hv => hx.2 u hu v hv⟩
/-! ### one edge -/
def cnt (z : Rat) (n : Nat) : Rat := sm (fun i => if (i : Rat) < z then 1 else 0) n
theorem cnt_spec (z : Rat) : ∀ n : Nat, ((n : Rat) ≤ z → cnt z n = n) ∧ (0 ≤ z → z ≤ n → z ≤ cnt z n ∧ cnt z n ≤ z + 1) ∧ (z ≤ 0 → cnt z n = 0)
  | 0 => by
    unfold cnt sm
    refine ⟨fun _ => by simp, fun h1 h2 => ?_, fun _ => rfl⟩
    have : ((0 : Nat) : Rat) = 0 := by simp
    grind
  | n + 1 => by
    obtain ⟨a, b, c⟩ := cnt_spec z n
    have hn := cast_nonneg n
    have e : cnt z (n + 1) = cnt z n + if (n : Rat) < z then 1 else 0 := rfl
    rw [e, cast_succ]
    refine ⟨fun h => ?_, fun h1 h2 => ?_, fun h => ?_⟩
    · rw [if_pos (by grind), a (by grind)]
    · by_cases k : (n : Rat) < z
      · rw [if_pos k, a (by grind)]
        grind
      · rw [if_neg k]
        have := b h1 (by grind)
        grind
    · rw [c h, if_neg (by grind)]; grind
/-- a count of a column -/
theorem column {L : Rat} (h0 : 0 ≤ L) (h1 : L ≤ 1) (N M : Nat) (hN : 1 ≤ N) (hM : 1 ≤ M) :
    sm (fun i => if (i : Rat) / N + 1 / (N * M * M) < L then 1 else 0) N - N * L ≤ 1 ∧ N * L - sm (fun i => if (i : Rat) / N + 1 / (N * M * M) < L then 1 else 0) N ≤ 1 := by
  have hNp := cast_pos (n := N) hN
  have hMp := cast_one_le hM
  have hMM : 1 ≤ (M : Rat) * M := by
    have := mulp (a := (M : Rat) - 1) (b := (M : Rat) + 1) (by grind) (by grind)
    grind
  have hi : 0 < 1 / ((M : Rat) * M) ∧ 1 / ((M : Rat) * M) ≤ 1 := by
    have e : 1 / ((M : Rat) * M) * (M * M) = 1 := by grind
    constructor
    · have := pos_scale (s := (M : Rat) * M) (t := 1 / ((M : Rat) * M)) (by grind)
      grind
    · by_cases c : 1 / ((M : Rat) * M) ≤ 1
      · exact c
      · have := mulpp (a := 1 / ((M : Rat) * M) - 1) (b := (M : Rat) * M) (by grind) (by grind)
        grind
  have e : sm (fun i => if (i : Rat) / N + 1 / (N * M * M) < L then (1 : Rat) else 0) N = cnt (N * L - 1 / (M * M)) N := by
    unfold cnt
    refine sm_congr _ _ _ fun i _ => ?_
    have q : (N : Rat) * (L - ((i : Rat) / N + 1 / (N * M * M))) = N * L - 1 / (M * M) - i := by grind
    have := pos_scale (s := (N : Rat)) (t := L - ((i : Rat) / N + 1 / (N * M * M))) hNp
    rw [q] at this
    by_cases c : (i : Rat) / N + 1 / (N * M * M) < L
    · rw [if_pos c, if_pos (by grind)]
    · rw [if_neg c, if_neg (by grind)]
  rw [e]
  have k1 := mulp (a := (N : Rat)) (b := L) (by grind) h0
  have k2 := mulp (a := (N : Rat)) (b := 1 - L) (by grind) (by grind)
  obtain ⟨_, b, c⟩ := cnt_spec (N * L - 1 / (M * M)) N
  generalize 1 / ((M : Rat) * M) = d at *
  by_cases s : 0 ≤ (N : Rat) * L - d
  · have := b s (by grind)
    grind
  · have := c (by grind)
    rw [this]; grind
/-- the height of the edge from b up to a (b to the left) -/
structure Edge (a b : Pt) : Prop where
  lt : b.1 < a.1
  b1 : 0 ≤ b.1
  a1 : a.1 ≤ 1
  b2 : 0 ≤ b.2
  b3 : b.2 ≤ 1
  a2 : 0 ≤ a.2
  a3 : a.2 ≤ 1
def slope (a b : Pt) : Rat := (a.2 - b.2) / (a.1 - b.1)
def hgt (a b : Pt) (s : Rat) : Rat := b.2 + slope a b * (s - b.1)
def sec (a b : Pt) (s : Rat) : Rat := if b.1 ≤ s ∧ s < a.1 then hgt a b s else 0
def trap (a b : Pt) (s : Rat) : Rat := if s < b.1 then 0 else if s < a.1 then (s - b.1) * (b.2 + hgt a b s) / 2 else (a.1 - b.1) * (b.2 + a.2) / 2
def jump (a b : Pt) (s : Rat) : Rat := (if b.1 ≤ s then 1 else 0) + if a.1 ≤ s then 1 else 0
theorem hgt_range {a b : Pt} (E : Edge a b) {s : Rat} (h1 : b.1 ≤ s) (h2 : s ≤ a.1) : 0 ≤ hgt a b s ∧ hgt a b s ≤ 1 := by
  have hd : 0 < a.1 - b.1 := by have := E.lt; grind
  have e : slope a b * (a.1 - b.1) = a.2 - b.2 := by unfold slope; grind
  have e2 : (a.1 - b.1) * hgt a b s = (a.1 - s) * b.2 + (s - b.1) * a.2 := by unfold hgt; grind
  have k1 := mulp (a := a.1 - s) (b := b.2) (by grind) E.b2
  have k2 := mulp (a := s - b.1) (b := a.2) (by grind) E.a2
  have k3 := mulp (a := a.1 - s) (b := 1 - b.2) (by grind) (by have := E.b3; grind)
  have k4 := mulp (a := s - b.1) (b := 1 - a.2) (by grind) (by have := E.a3; grind)
  constructor
  · by_cases c : 0 ≤ hgt a b s
    · exact c
    · have := mulpp (a := a.1 - b.1) (b := - hgt a b s) hd (by grind)
      grind
  · by_cases c : hgt a b s ≤ 1
    · exact c
    · have := mulpp (a := a.1 - b.1) (b := hgt a b s - 1) hd (by grind)
      grind
theorem slope_bound (a b : Pt) : ∃ K : Rat, 0 ≤ K ∧ slope a b ≤ K ∧ - slope a b ≤ K := by
  by_cases c : 0 ≤ slope a b
  · exact ⟨slope a b, c, by grind, by grind⟩
  · exact ⟨- slope a b, by grind, by grind, by grind⟩
/-- one cell of the grid's columns -/
theorem cell {a b : Pt} (E : Edge a b) {K : Rat} (hK : 0 ≤ K) (hK1 : slope a b ≤ K) (hK2 : - slope a b ≤ K) {y z : Rat} (h : y < z) :
    sec a b y * (z - y) - (trap a b z - trap a b y) ≤ (z - y) * (jump a b z - jump a b y) + K * ((z - y) * (z - y)) ∧
    (trap a b z - trap a b y) - sec a b y * (z - y) ≤ (z - y) * (jump a b z - jump a b y) + K * ((z - y) * (z - y)) := by
  have lt := E.lt
  have d : 0 < z - y := by grind
  have kk : 0 ≤ K * ((z - y) * (z - y)) := mulp hK (mulp (by grind) (by grind))
  have ha : hgt a b a.1 = a.2 := by
    have e : slope a b * (a.1 - b.1) = a.2 - b.2 := by unfold slope; grind
    unfold hgt; grind
  by_cases y1 : y < b.1
  · have s0 : sec a b y = 0 := by unfold sec; rw [if_neg (by grind)]
    have t0 : trap a b y = 0 := by unfold trap; rw [if_pos y1]
    have j0 : jump a b y = 0 := by unfold jump; rw [if_neg (by grind), if_neg (by grind)]; grind
    rw [s0, t0, j0]
    by_cases z1 : z < b.1
    · have t1 : trap a b z = 0 := by unfold trap; rw [if_pos z1]
      have j1 : jump a b z = 0 := by unfold jump; rw [if_neg (by grind), if_neg (by grind)]; grind
      rw [t1, j1]; grind
    · by_cases z2 : z < a.1
      · have t1 : trap a b z = (z - b.1) * (b.2 + hgt a b z) / 2 := by unfold trap; rw [if_neg z1, if_pos z2]
        have j1 : jump a b z = 1 := by unfold jump; rw [if_pos (by grind), if_neg (by grind)]; grind
        have r := hgt_range E (s := z) (by grind) (by grind)
        have b2 := E.b2
        have b3 := E.b3
        have k1 := mulp (a := z - b.1) (b := b.2 + hgt a b z) (by grind) (by grind)
        have k2 := mulp (a := z - b.1) (b := 2 - (b.2 + hgt a b z)) (by grind) (by grind)
        rw [t1, j1]; grind
      · have t1 : trap a b z = (a.1 - b.1) * (b.2 + a.2) / 2 := by unfold trap; rw [if_neg z1, if_neg z2]
        have j1 : jump a b z = 2 := by unfold jump; rw [if_pos (by grind), if_pos (by grind)]; grind
        have a2 := E.a2
        have a3 := E.a3
        have b2 := E.b2
        have b3 := E.b3
        have k1 := mulp (a := a.1 - b.1) (b := b.2 + a.2) (by grind) (by grind)
        have k2 := mulp (a := a.1 - b.1) (b := 2 - (b.2 + a.2)) (by grind) (by grind)
        rw [t1, j1]; grind
  · by_cases y2 : y < a.1
    · have s0 : sec a b y = hgt a b y := by unfold sec; rw [if_pos (by grind)]
      have t0 : trap a b y = (y - b.1) * (b.2 + hgt a b y) / 2 := by unfold trap; rw [if_neg y1, if_pos y2]
      have j0 : jump a b y = 1 := by unfold jump; rw [if_pos (by grind), if_neg (by grind)]; grind
      have r := hgt_range E (s := y) (by grind) (by grind)
      rw [s0, t0, j0]
      by_cases z2 : z < a.1
      · have t1 : trap a b z = (z - b.1) * (b.2 + hgt a b z) / 2 := by unfold trap; rw [if_neg (by grind), if_pos z2]
        have j1 : jump a b z = 1 := by unfold jump; rw [if_pos (by grind), if_neg (by grind)]; grind
        have e : (z - b.1) * (b.2 + hgt a b z) / 2 - (y - b.1) * (b.2 + hgt a b y) / 2 - hgt a b y * (z - y) = slope a b * ((z - y) * (z - y)) / 2 := by unfold hgt; grind
        have k1 := mulp (a := K - slope a b) (b := (z - y) * (z - y)) (by grind) (mulp (by grind) (by grind))
        have k2 := mulp (a := K + slope a b) (b := (z - y) * (z - y)) (by grind) (mulp (by grind) (by grind))
        rw [t1, j1]
        constructor <;> grind
      · have t1 : trap a b z = (a.1 - b.1) * (b.2 + a.2) / 2 := by unfold trap; rw [if_neg (by grind), if_neg z2]
        have j1 : jump a b z = 2 := by unfold jump; rw [if_pos (by grind), if_pos (by grind)]; grind
        have e : (a.1 - b.1) * (b.2 + a.2) / 2 - (y - b.1) * (b.2 + hgt a b y) / 2 = (a.1 - y) * (hgt a b y + a.2) / 2 := by
          have e2 : a.2 = b.2 + slope a b * (a.1 - b.1) := by rw [← ha]; rfl
          rw [e2]; unfold hgt; grind
        have a2 := E.a2
        have a3 := E.a3
        have k1 := mulp (a := a.1 - y) (b := hgt a b y + a.2) (by grind) (by grind)
        have k2 := mulp (a := a.1 - y) (b := 2 - (hgt a b y + a.2)) (by grind) (by grind)
        have k3 := mulp (a := z - y) (b := hgt a b y) (by grind) (by grind)
        have k4 := mulp (a := z - y) (b := 1 - hgt a b y) (by grind) (by grind)
        rw [t1, j1]
        constructor <;> grind
    · have s0 : sec a b y = 0 := by unfold sec; rw [if_neg (by grind)]
      have t0 : trap a b y = (a.1 - b.1) * (b.2 + a.2) / 2 := by unfold trap; rw [if_neg y1, if_neg y2]
      have j0 : jump a b y = 2 := by unfold jump; rw [if_pos (by grind), if_pos (by grind)]; grind
      have t1 : trap a b z = (a.1 - b.1) * (b.2 + a.2) / 2 := by unfold trap; rw [if_neg (by grind), if_neg (by grind)]
      have j1 : jump a b z = 2 := by unfold jump; rw [if_pos (by grind), if_pos (by grind)]; grind
      rw [s0, t0, j0, t1, j1]; grind
def colx (N M j : Nat) : Rat := (j : Rat) / N + 1 / (N * M)
theorem colx_step {N M j : Nat} (hN : 1 ≤ N) : colx N M (j + 1) = colx N M j + 1 / N := by
  have := cast_pos (n := N) hN
  unfold colx; rw [cast_succ]; grind
theorem columns {a b : Pt} (E : Edge a b) {K : Rat} (hK : 0 ≤ K) (hK1 : slope a b ≤ K) (hK2 : - slope a b ≤ K) {N M : Nat} (hN : 1 ≤ N) : ∀ n : Nat,
    sm (fun j => N * sec a b (colx N M j)) n - N * N * (trap a b (colx N M n) - trap a b (colx N M 0)) ≤ N * (jump a b (colx N M n) - jump a b (colx N M 0)) + n * K ∧
    N * N * (trap a b (colx N M n) - trap a b (colx N M 0)) - sm (fun j => N * sec a b (colx N M j)) n ≤ N * (jump a b (colx N M n) - jump a b (colx N M 0)) + n * K
  | 0 => by
    have : ((0 : Nat) : Rat) = 0 := by simp
    simp only [sm]; rw [this]
    constructor <;> grind
  | n + 1 => by
    obtain ⟨i1, i2⟩ := columns E hK hK1 hK2 (M := M) hN n
    have hNp := cast_pos (n := N) hN
    have hi : 0 < 1 / (N : Rat) := by
      have e : (N : Rat) * (1 / N) = 1 := by grind
      have := pos_scale (s := (N : Rat)) (t := 1 / N) hNp
      grind
    obtain ⟨c1, c2⟩ := cell E hK hK1 hK2 (y := colx N M n) (z := colx N M (n + 1)) (by rw [colx_step hN]; grind)
    have st : colx N M (n + 1) - colx N M n = 1 / N := by rw [colx_step hN]; grind
    rw [st] at c1 c2
    have u : (N : Rat) * (1 / N) = 1 := by grind
    simp only [sm]
    rw [cast_succ]
    generalize sm (fun j => N * sec a b (colx N M j)) n = S at *
    generalize colx N M (n + 1) = z at *
    generalize colx N M n = y at *
    generalize colx N M 0 = w at *
    generalize (1 : Rat) / N = d at *
    have m1 := mulp (a := (N : Rat) * N) (b := d * (jump a b z - jump a b y) + K * (d * d) - (sec a b y * d - (trap a b z - trap a b y))) (mulp (by grind) (by grind)) (by grind)
    have m2 := mulp (a := (N : Rat) * N) (b := d * (jump a b z - jump a b y) + K * (d * d) - ((trap a b z - trap a b y) - sec a b y * d)) (mulp (by grind) (by grind)) (by grind)
    have f1 : (N : Rat) * N * (d * (jump a b z - jump a b y)) = N * (jump a b z - jump a b y) := by grind
    have f2 : (N : Rat) * N * (K * (d * d)) = K := by grind
    have f3 : (N : Rat) * N * (sec a b y * d) = N * sec a b y := by grind
    generalize trap a b z = tz at *
    generalize trap a b y = ty at *
    generalize trap a b w = tw at *
    generalize jump a b z = jz at *
    generalize jump a b y = jy at *
    generalize jump a b w = jw at *
    generalize sec a b y = sy at *
    constructor <;> grind
end Dial

/-! The share of a closed way is the mean of how often it goes round the points of the grid. No program here. -/
namespace Dial
theorem sm_near (f g : Nat → Rat) : ∀ n : Nat, (∀ i, i < n → f i - g i ≤ 1 ∧ g i - f i ≤ 1) → sm f n - sm g n ≤ n ∧ sm g n - sm f n ≤ n
  | 0, _ => by
    have : ((0 : Nat) : Rat) = 0 := by simp
    simp only [sm]; rw [this]; constructor <;> grind
  | n + 1, h => by
    obtain ⟨a, b⟩ := sm_near f g n fun i hi => h i (by omega)
    obtain ⟨c, d⟩ := h n (by omega)
    simp only [sm]; rw [cast_succ]; constructor <;> grind
theorem edge_ray {a b : Pt} (E : Edge a b) (x : Pt) : ray x a b = if b.1 ≤ x.1 ∧ x.1 < a.1 then (if x.2 < hgt a b x.1 then 1 else 0) else 0 := by
  have lt := E.lt
  have hd : 0 < a.1 - b.1 := by grind
  have e : slope a b * (a.1 - b.1) = a.2 - b.2 := by unfold slope; grind
  have et : turn a b x = (a.1 - b.1) * (hgt a b x.1 - x.2) := by unfold turn hgt; grind
  by_cases c1 : x.1 < a.1 <;> by_cases c2 : x.1 < b.1
  · rw [ray_rr c1 c2, if_neg (by grind)]
  · rw [ray_up c1 c2, if_pos (show b.1 ≤ x.1 ∧ x.1 < a.1 by grind), et]
    have := pos_scale (s := a.1 - b.1) (t := hgt a b x.1 - x.2) hd
    by_cases k : x.2 < hgt a b x.1
    · rw [if_pos k, if_pos (by grind)]
    · rw [if_neg k, if_neg (by grind)]
  · grind
  · rw [ray_ll c1 c2, if_neg (by grind)]
theorem area_edge_pos {a b : Pt} (E : Edge a b) : Area (fun x => ray x a b) ((a.1 - b.1) * (b.2 + a.2) / 2) := by
  obtain ⟨K, hK, hK1, hK2⟩ := slope_bound a b
  refine ⟨4 + K, 0, fun M _ hM N hN => ?_⟩
  have hNp := cast_pos (n := N) hN
  have hN1 := cast_one_le hN
  have hMp := cast_one_le hM
  have inner : ∀ j, j < N → sm (fun i => ray (pt N M j i) a b) N - N * sec a b (colx N M j) ≤ 1 ∧ N * sec a b (colx N M j) - sm (fun i => ray (pt N M j i) a b) N ≤ 1 := fun j _ => by
    by_cases c : b.1 ≤ colx N M j ∧ colx N M j < a.1
    · have e : sm (fun i => ray (pt N M j i) a b) N = sm (fun i => if (i : Rat) / N + 1 / (N * M * M) < hgt a b (colx N M j) then (1 : Rat) else 0) N := by
        refine sm_congr _ _ _ fun i _ => ?_
        rw [edge_ray E]
        have : (pt N M j i).1 = colx N M j := rfl
        rw [this, if_pos c]
        rfl
      have s : sec a b (colx N M j) = hgt a b (colx N M j) := by unfold sec; rw [if_pos c]
      rw [e, s]
      have r := hgt_range E c.1 (by grind)
      exact column r.1 r.2 N M hN hM
    · have e : sm (fun i => ray (pt N M j i) a b) N = 0 := by
        rw [← sm_zero N]
        refine sm_congr _ _ _ fun i _ => ?_
        rw [edge_ray E]
        have : (pt N M j i).1 = colx N M j := rfl
        rw [this, if_neg c]
      have s : sec a b (colx N M j) = 0 := by unfold sec; rw [if_neg c]
      rw [e, s]; constructor <;> grind
  have n1 := sm_near _ _ N inner
  have n2 := columns E hK hK1 hK2 (N := N) (M := M) hN N
  have et : tot (fun x => ray x a b) N M = sm (fun j => sm (fun i => ray (pt N M j i) a b) N) N := rfl
  rw [← et] at n1
  -- the ends of the grid
  have x0 : 0 < colx N M 0 ∧ N * colx N M 0 ≤ 1 := by
    have e0 : ((0 : Nat) : Rat) = 0 := by simp
    have e : colx N M 0 = 1 / (N * M) := by unfold colx; rw [e0]; grind
    have k : 0 < (N : Rat) * M := mulpp hNp (by grind)
    have e2 : (N : Rat) * M * (1 / (N * M)) = 1 := by grind
    have p := pos_scale (s := (N : Rat) * M) (t := 1 / (N * M)) k
    rw [e]
    have p1 : 0 < 1 / ((N : Rat) * M) := by grind
    refine ⟨p1, ?_⟩
    have := mulp (a := (M : Rat) - 1) (b := N * (1 / (N * M))) (by grind) (mulp (by grind) (by grind))
    grind
  have xN : 1 < colx N M N := by
    have e : colx N M N = 1 + colx N M 0 := by
      have e0 : ((0 : Nat) : Rat) = 0 := by simp
      unfold colx; rw [e0]; grind
    rw [e]; grind
  have tN : trap a b (colx N M N) = (a.1 - b.1) * (b.2 + a.2) / 2 := by
    have := E.a1
    have := E.lt
    unfold trap; rw [if_neg (by grind), if_neg (by grind)]
  have t0 : 0 ≤ trap a b (colx N M 0) ∧ trap a b (colx N M 0) ≤ colx N M 0 := by
    have b1 := E.b1
    have b2 := E.b2
    have b3 := E.b3
    have a2 := E.a2
    have a3 := E.a3
    have lt := E.lt
    generalize colx N M 0 = s at *
    unfold trap
    by_cases c1 : s < b.1
    · rw [if_pos c1]; constructor <;> grind
    · rw [if_neg c1]
      by_cases c2 : s < a.1
      · rw [if_pos c2]
        have r := hgt_range E (s := s) (by grind) (by grind)
        have k1 := mulp (a := s - b.1) (b := b.2 + hgt a b s) (by grind) (by grind)
        have k2 := mulp (a := s - b.1) (b := 2 - (b.2 + hgt a b s)) (by grind) (by grind)
        constructor <;> grind
      · rw [if_neg c2]
        have k1 := mulp (a := a.1 - b.1) (b := b.2 + a.2) (by grind) (by grind)
        have k2 := mulp (a := a.1 - b.1) (b := 2 - (b.2 + a.2)) (by grind) (by grind)
        constructor <;> grind
  have j0 : 0 ≤ jump a b (colx N M 0) := by
    unfold jump
    split <;> split <;> grind
  have jN : jump a b (colx N M N) ≤ 2 := by
    unfold jump
    split <;> split <;> grind
  rw [tN] at n2
  generalize (a.1 - b.1) * (b.2 + a.2) / 2 = al at *
  have q1 := mulp (a := (N : Rat) * N) (b := trap a b (colx N M 0)) (mulp (by grind) (by grind)) t0.1
  have q2 := mulp (a := (N : Rat) * N) (b := colx N M 0 - trap a b (colx N M 0)) (mulp (by grind) (by grind)) (by grind)
  have q3 := mulp (a := (N : Rat)) (b := 1 - N * colx N M 0) (by grind) (by grind)
  have q4 := mulp (a := (N : Rat)) (b := 2 - (jump a b (colx N M N) - jump a b (colx N M 0))) (by grind) (by grind)
  have q5 := mulp (a := (N : Rat)) (b := K) (by grind) hK
  generalize trap a b (colx N M 0) = t at *
  generalize colx N M 0 = s at *
  generalize jump a b (colx N M N) = u at *
  generalize jump a b s = v at *
  generalize sm (fun j => N * sec a b (colx N M j)) N = S at *
  generalize tot (fun x => ray x a b) N M = T at *
  constructor <;> grind
/-- in the plate -/
def InU (p : Pt) : Prop := 0 ≤ p.1 ∧ p.1 ≤ 1 ∧ 0 ≤ p.2 ∧ p.2 ≤ 1
theorem area_edge {a b : Pt} (ha : InU a) (hb : InU b) : Area (fun x => ray x a b) ((a.1 - b.1) * (b.2 + a.2) / 2) := by
  obtain ⟨a1, a2, a3, a4⟩ := ha
  obtain ⟨b1, b2, b3, b4⟩ := hb
  by_cases c : b.1 < a.1
  · exact area_edge_pos ⟨c, b1, a2, b3, b4, a3, a4⟩
  · by_cases c2 : a.1 < b.1
    · have h := (area_edge_pos (a := b) (b := a) ⟨c2, a1, b2, a3, a4, b3, b4⟩).neg
      have e : -1 * ((b.1 - a.1) * (a.2 + b.2) / 2) = (a.1 - b.1) * (b.2 + a.2) / 2 := by grind
      rw [e] at h
      exact h.congr (Ev.true.mono fun x _ => by have := ray_anti x a b; grind)
    · have e : (a.1 - b.1) * (b.2 + a.2) / 2 = 0 := by
        have : a.1 = b.1 := by grind
        rw [this]; grind
      rw [e]
      refine Area.zero.congr (Ev.true.mono fun x _ => ?_)
      have : a.1 = b.1 := by grind
      unfold ray
      rw [this]
      by_cases k : x.1 < b.1
      · rw [if_pos k, if_pos k]
      · rw [if_neg k, if_neg k]
theorem area_path : ∀ (l : List Pt) (a : Pt), InU a → (∀ z ∈ l, InU z) → Area (fun x => path (ray x) a l) (1 / 2 * path crs a l + 1 / 2 * (a.1 * a.2 - (lastD a l).1 * (lastD a l).2))
  | [], a, _, _ => by
    have e : 1 / 2 * path crs a [] + 1 / 2 * (a.1 * a.2 - (lastD a []).1 * (lastD a []).2) = 0 := by simp only [path, lastD]; grind
    rw [e]
    exact Area.zero.congr (Ev.true.mono fun x _ => rfl)
  | b :: t, a, ha, h => by
    have hb := h b (by simp)
    have h1 := area_edge ha hb
    have h2 := area_path t b hb fun z hz => h z (List.mem_cons_of_mem _ hz)
    have h3 := h1.add h2
    simp only [path, lastD] at *
    have e : (a.1 - b.1) * (b.2 + a.2) / 2 + (1 / 2 * path crs b t + 1 / 2 * (b.1 * b.2 - (lastD b t).1 * (lastD b t).2)) = 1 / 2 * (crs a b + path crs b t) + 1 / 2 * (a.1 * a.2 - (lastD b t).1 * (lastD b t).2) := by
      unfold crs; grind
    rw [e] at h3
    exact h3
theorem area_cyc (P : List Pt) (h : ∀ z ∈ P, InU z) : Area (fun x => cyc (ray x) P) (share P) := by
  cases P with
  | nil => exact (show share [] = 0 by unfold share cyc; grind) ▸ Area.zero.congr (Ev.true.mono fun x _ => rfl)
  | cons a t =>
    have := area_path (t ++ [a]) a (h a (by simp)) fun z hz => by
      rcases List.mem_append.mp hz with k | k
      · exact h z (List.mem_cons_of_mem _ k)
      · rw [List.mem_singleton.mp k]; exact h a (by simp)
    rw [lastD_append] at this
    have e : 1 / 2 * path crs a (t ++ [a]) + 1 / 2 * (a.1 * a.2 - a.1 * a.2) = share (a :: t) := by unfold share cyc; grind
    rw [e] at this
    exact this
end Dial

/-! The part of two parts, what is left of a part, and the sums with signs that change. No program here. -/
namespace Dial
def hts (e : Pt × Pt) (P : List Pt) : List PH := P.map fun p => (p, turn e.1 e.2 p)
def cutBy (P : List Pt) (e : Pt × Pt) : List Pt := keptC cross (hts e P)
theorem hts_line (e : Pt × Pt) (P : List Pt) : hts e P = P.map (withH (lineOf e.1 e.2)) := by
  unfold hts withH
  refine List.map_congr_left fun p _ => ?_
  rw [lineOf_at]
theorem hts_fst (e : Pt × Pt) (P : List Pt) : (hts e P).map (·.1) = P := by
  unfold hts
  rw [List.map_map]
  exact List.map_id P
theorem keptP_zero {α : Type} (m : α → α → Rat → Rat → α) : ∀ (l : List (α × Rat)) (a : α × Rat), a.2 = 0 → (∀ z ∈ l, z.2 = 0) → keptP m a l = ((a :: l).map (·.1)).dropLast
  | [], _, _, _ => rfl
  | b :: t, a, ha, h => by
    have hb := h b (by simp)
    have ih := keptP_zero m t b hb fun z hz => h z (List.mem_cons_of_mem _ hz)
    simp only [keptP]
    rw [ih]
    unfold here mids
    rw [if_pos (by rw [ha]; grind), if_neg (by rw [ha]; grind)]
    rfl
theorem keptC_zero {α : Type} (m : α → α → Rat → Rat → α) (L : List (α × Rat)) (h : ∀ z ∈ L, z.2 = 0) : keptC m L = L.map (·.1) := by
  cases L with
  | nil => rfl
  | cons a t =>
    simp only [keptC]
    rw [keptP_zero m (t ++ [a]) a (h a (by simp)) fun z hz => by
      rcases List.mem_append.mp hz with k | k
      · exact h z (List.mem_cons_of_mem _ k)
      · rw [List.mem_singleton.mp k]; exact h a (by simp)]
    rw [← List.cons_append, List.map_append, List.map_singleton, List.dropLast_concat]
def oneIf (b : Bool) : Rat := if b then 1 else 0
theorem cutBy_ray (P : List Pt) (e : Pt × Pt) (x : Pt) (hx : e.1 ≠ e.2 → turn e.1 e.2 x ≠ 0) : cyc (ray x) (cutBy P e) = cyc (ray x) P * oneIf (decide (0 ≤ turn e.1 e.2 x)) := by
  unfold cutBy oneIf
  by_cases c : e.1 = e.2
  · have hz : ∀ z ∈ hts e P, z.2 = 0 := fun z hz => by
      obtain ⟨p, _, rfl⟩ := List.mem_map.mp hz
      show turn e.1 e.2 p = 0
      rw [c, turn_self]
    rw [keptC_zero cross _ hz, hts_fst, c, turn_self]
    rw [if_pos (by simp)]; grind
  · rw [hts_line, kept_ray (lineOf e.1 e.2) x e.1 (by rw [lineOf_at, turn_start]) (by rw [lineOf_at]; exact hx c), lineOf_at]
    by_cases k : 0 ≤ turn e.1 e.2 x
    · rw [if_pos k, if_pos (by simpa using k)]; grind
    · rw [if_neg k, if_neg (by simpa using k)]; grind
theorem CC.cut {sg : Rat} {P : List Pt} (h : CC sg P) (e : Pt × Pt) : CC sg (cutBy P e) := CC.kept _ (by rw [hts_fst]; exact h)
theorem VD.cut {P : List Pt} (h : VD P) (e : Pt × Pt) : VD (cutBy P e) := VD.kept _ (by rw [hts_fst]; exact h)
theorem keptP_mem : ∀ (l : List PH) (a : PH) (z : Pt), z ∈ keptP cross a l → ∃ u v, u ∈ a :: l ∧ v ∈ a :: l ∧ Between u.1 v.1 z
  | [], _, _, h => by cases h
  | b :: t, a, z, h => by
    simp only [keptP, List.mem_append] at h
    rcases h with (h | h) | h
    · unfold here at h
      split at h
      · rw [List.mem_singleton.mp h]
        exact ⟨a, a, by simp, by simp, 0, by grind, by grind, by unfold along; grind⟩
      · cases h
    · rcases mids_between (a := a) (b := b) with e | ⟨m, e, k⟩
      · rw [e] at h; cases h
      · rw [e] at h
        rw [List.mem_singleton.mp h]
        exact ⟨a, b, by simp, by simp, k⟩
    · obtain ⟨u, v, hu, hv, k⟩ := keptP_mem t b z h
      exact ⟨u, v, List.mem_cons_of_mem _ hu, List.mem_cons_of_mem _ hv, k⟩
theorem keptC_mem {L : List PH} {z : Pt} (h : z ∈ keptC cross L) : ∃ u v, u ∈ L ∧ v ∈ L ∧ Between u.1 v.1 z := by
  cases L with
  | nil => cases h
  | cons a t =>
    obtain ⟨u, v, hu, hv, k⟩ := keptP_mem _ _ _ h
    have back : ∀ w, w ∈ a :: (t ++ [a]) → w ∈ a :: t := fun w hw => by
      rcases List.mem_cons.mp hw with e | hw
      · rw [e]; exact List.mem_cons_self
      · rcases List.mem_append.mp hw with k | k
        · exact List.mem_cons_of_mem _ k
        · rw [List.mem_singleton.mp k]; exact List.mem_cons_self
    exact ⟨u, v, back u hu, back v hv, k⟩
theorem cutBy_mem {P : List Pt} {e : Pt × Pt} {z : Pt} (h : z ∈ cutBy P e) : ∃ u v, u ∈ P ∧ v ∈ P ∧ Between u v z := by
  obtain ⟨u, v, hu, hv, k⟩ := keptC_mem h
  obtain ⟨p, hp, rfl⟩ := List.mem_map.mp hu
  obtain ⟨q, hq, rfl⟩ := List.mem_map.mp hv
  exact ⟨p, q, hp, hq, k⟩
theorem between_half (f : Aff) {u v z : Pt} (b : Between u v z) (hu : 0 ≤ f.at u) (hv : 0 ≤ f.at v) : 0 ≤ f.at z := by
  obtain ⟨s, h0, h1, rfl⟩ := b
  rw [along_at]
  have k1 := mulp (a := 1 - s) (b := f.at u) (by grind) hu
  have k2 := mulp h0 hv
  grind
theorem cutBy_half (f : Aff) {P : List Pt} (e : Pt × Pt) (h : ∀ z ∈ P, 0 ≤ f.at z) : ∀ z ∈ cutBy P e, 0 ≤ f.at z := fun z hz => by
  obtain ⟨u, v, hu, hv, b⟩ := cutBy_mem hz
  exact between_half f b (h u hu) (h v hv)
theorem cutBy_own {P : List Pt} {e : Pt × Pt} {z : Pt} (h : z ∈ cutBy P e) : 0 ≤ turn e.1 e.2 z := by
  unfold cutBy at h
  rw [hts_line] at h
  have := keptC_mem_ge (lineOf e.1 e.2) h
  rwa [lineOf_at] at this
def cuts (P : List Pt) (es : List (Pt × Pt)) : List Pt := es.foldl cutBy P
theorem cuts_ray (x : Pt) : ∀ (es : List (Pt × Pt)) (P : List Pt), (∀ e ∈ es, e.1 ≠ e.2 → turn e.1 e.2 x ≠ 0) → cyc (ray x) (cuts P es) = cyc (ray x) P * oneIf (es.all fun e => decide (0 ≤ turn e.1 e.2 x))
  | [], P, _ => by
    have : oneIf (([] : List (Pt × Pt)).all fun e => decide (0 ≤ turn e.1 e.2 x)) = 1 := rfl
    rw [this]
    show cyc (ray x) P = _
    grind
  | e :: es, P, h => by
    show cyc (ray x) (cuts (cutBy P e) es) = _
    rw [cuts_ray x es (cutBy P e) fun d hd => h d (List.mem_cons_of_mem _ hd), cutBy_ray P e x (h e (by simp)), List.all_cons]
    have : ∀ a b : Bool, oneIf (a && b) = oneIf a * oneIf b := fun a b => by cases a <;> cases b <;> simp [oneIf] <;> grind
    rw [this]; grind
theorem CC.cuts {sg : Rat} : ∀ (es : List (Pt × Pt)) {P : List Pt}, CC sg P → CC sg (cuts P es)
  | [], _, h => h
  | e :: es, _, h => CC.cuts es (h.cut e)
theorem VD.cuts : ∀ (es : List (Pt × Pt)) {P : List Pt}, VD P → VD (cuts P es)
  | [], _, h => h
  | e :: es, _, h => VD.cuts es (h.cut e)
theorem cuts_half (f : Aff) : ∀ (es : List (Pt × Pt)) {P : List Pt}, (∀ z ∈ P, 0 ≤ f.at z) → ∀ z ∈ cuts P es, 0 ≤ f.at z
  | [], _, h => h
  | e :: es, _, h => cuts_half f es (cutBy_half f e h)
theorem cuts_own : ∀ (es : List (Pt × Pt)) (P : List Pt) (z : Pt), z ∈ cuts P es → ∀ e ∈ es, 0 ≤ turn e.1 e.2 z
  | [], _, _, _, e, he => by cases he
  | d :: es, P, z, hz, e, he => by
    rcases List.mem_cons.mp he with rfl | he
    · have := cuts_half (lineOf e.1 e.2) es (P := cutBy P e) (fun w hw => by rw [lineOf_at]; exact cutBy_own hw) z hz
      rwa [lineOf_at] at this
    · exact cuts_own es (cutBy P d) z hz e he
def both (P Q : List Pt) : List Pt := if P = [] ∨ Q = [] then [] else tidy (cuts P (edges Q))
/-- what lies in a part -/
def inn (Q : List Pt) (x : Pt) : Rat := if Q = [] then 0 else ind Q x
theorem ind_one (Q : List Pt) (x : Pt) : ind Q x = oneIf (allLeft Q x) := rfl
theorem inn_01 (Q : List Pt) (x : Pt) : 0 ≤ inn Q x ∧ inn Q x ≤ 1 := by
  unfold inn ind
  split
  · constructor <;> grind
  · split <;> constructor <;> grind
/-- a part: it bulges, lies in the plate, and has a share if it is one -/
structure Good (P : List Pt) : Prop where
  cc : CC 1 P
  vd : VD P
  inu : ∀ z ∈ P, InU z
  pos : P ≠ [] → 0 < share P
theorem Good.nil : Good [] := ⟨fun a b c s => by simp at s, fun g a b c d s => by simp at s, fun z hz => (by cases hz), fun h => absurd rfl h⟩
theorem Good.ev {P : List Pt} (h : Good P) : Ev fun x => cyc (ray x) P = inn P x := by
  by_cases c : P = []
  · subst c
    exact Ev.true.mono fun x _ => rfl
  · refine (ev_gen P).mono fun x hx => ?_
    unfold inn
    rw [if_neg c]
    exact inside h.cc h.vd (h.pos c) hx
theorem Good.area {P : List Pt} (h : Good P) : Area (fun x => cyc (ray x) P) (share P) := area_cyc P h.inu
theorem inU_half {P : List Pt} (es : List (Pt × Pt)) (h : ∀ z ∈ P, InU z) : ∀ z ∈ cuts P es, InU z := fun z hz => by
  have k1 := cuts_half ⟨1, 0, 0⟩ es (P := P) (fun w hw => by have := (h w hw).1; unfold Aff.at; grind) z hz
  have k2 := cuts_half ⟨-1, 0, 1⟩ es (P := P) (fun w hw => by have := (h w hw).2.1; unfold Aff.at; grind) z hz
  have k3 := cuts_half ⟨0, 1, 0⟩ es (P := P) (fun w hw => by have := (h w hw).2.2.1; unfold Aff.at; grind) z hz
  have k4 := cuts_half ⟨0, -1, 1⟩ es (P := P) (fun w hw => by have := (h w hw).2.2.2; unfold Aff.at; grind) z hz
  unfold Aff.at at k1 k2 k3 k4
  exact ⟨by grind, by grind, by grind, by grind⟩
theorem Good.tidied {P : List Pt} (c : CC 1 P) (v : VD P) (u : ∀ z ∈ P, InU z) : Good (tidy P) := ⟨tidy_CC c, tidy_VD v, fun z hz => u z (tidy_mem hz), tidy_pos c⟩
theorem Good.both {P : List Pt} (h : Good P) (Q : List Pt) : Good (both P Q) := by
  unfold Dial.both
  split
  · exact Good.nil
  · exact Good.tidied (CC.cuts _ h.cc) (VD.cuts _ h.vd) (inU_half _ h.inu)
theorem both_ev {P Q : List Pt} (cP : CC 1 P) : Ev fun x => cyc (ray x) (both P Q) = cyc (ray x) P * inn Q x := by
  unfold Dial.both
  by_cases c : P = [] ∨ Q = []
  · rw [if_pos c]
    refine Ev.true.mono fun x _ => ?_
    show (0 : Rat) = _
    rcases c with rfl | rfl
    · show (0 : Rat) = 0 * _; grind
    · unfold inn; rw [if_pos rfl]; grind
  · rw [if_neg c]
    refine ((ev_gen Q).and (ev_gen (cuts P (edges Q)))).mono fun x ⟨h1, h2⟩ => ?_
    rw [tidy_cyc (ray x) (ray_anti x) _ (CC.cuts _ cP) (· ∈ cuts P (edges Q)) h2.line fun y hy => hy]
    rw [cuts_ray x (edges Q) P fun e he ne => h1.2 _ _ (edges_mem he).1 (edges_mem he).2 ne]
    unfold inn
    rw [if_neg (fun z => c (.inr z)), ind_one]
    rfl
/-! ### the whole plate -/
def whole : List Pt := [(0, 0), (1, 0), (1, 1), (0, 1)]
theorem whole_edges : edges whole = [((0, 0), (1, 0)), ((1, 0), (1, 1)), ((1, 1), (0, 1)), ((0, 1), (0, 0))] := rfl
theorem sub4 {α : Type} {a b c d w x y z : α} (s : [w, x, y, z].Sublist [a, b, c, d]) : w = a ∧ x = b ∧ y = c ∧ z = d := by
  have := s.eq_of_length rfl
  simpa using this
theorem vd4 {a b c d : Pt} (h1 : a.1 + c.1 = b.1 + d.1) (h2 : a.2 + c.2 = b.2 + d.2) : VD [a, b, c, d] := by
  intro g p q r t s gp gq gr gt
  obtain ⟨rfl, rfl, rfl, rfl⟩ := sub4 s
  unfold Aff.at at *
  have : g.al * p.1 + g.be * p.2 + g.ga + (g.al * r.1 + g.be * r.2 + g.ga) = g.al * q.1 + g.be * q.2 + g.ga + (g.al * t.1 + g.be * t.2 + g.ga) := by grind
  grind
theorem sub3of4 {α : Type} {a b c d x y z : α} (s : [x, y, z].Sublist [a, b, c, d]) : [x, y, z] = [a, b, c] ∨ [x, y, z] = [a, b, d] ∨ [x, y, z] = [a, c, d] ∨ [x, y, z] = [b, c, d] := by
  rcases List.sublist_cons_iff.mp s with s | ⟨r, e, s⟩
  · exact .inr (.inr (.inr (s.eq_of_length rfl)))
  · simp only [List.cons.injEq] at e
    obtain ⟨rfl, rfl⟩ := e
    rcases List.sublist_cons_iff.mp s with s | ⟨r, e, s⟩
    · have := s.eq_of_length rfl
      exact .inr (.inr (.inl (by rw [this])))
    · simp only [List.cons.injEq] at e
      obtain ⟨rfl, rfl⟩ := e
      rcases List.sublist_cons_iff.mp s with s | ⟨r, e, s⟩
      · have := s.eq_of_length rfl
        exact .inr (.inl (by rw [this]))
      · simp only [List.cons.injEq] at e
        exact .inl (by rw [e.1])
/-- a parallelogram bulges, to one side or to the other -/
theorem cc4 {a b c d : Pt} (h1 : a.1 + c.1 = b.1 + d.1) (h2 : a.2 + c.2 = b.2 + d.2) : CC 1 [a, b, c, d] ∨ CC (-1) [a, b, c, d] := by
  have e1 : turn a b d = turn a b c := by unfold turn; grind
  have e2 : turn a c d = turn a b c := by unfold turn; grind
  have e3 : turn b c d = turn a b c := by unfold turn; grind
  have key : ∀ sg : Rat, 0 ≤ sg * turn a b c → CC sg [a, b, c, d] := fun sg h x y z s => by
    rcases sub3of4 s with e | e | e | e <;> (simp only [List.cons.injEq, and_true] at e; obtain ⟨rfl, rfl, rfl⟩ := e)
    · exact h
    · rw [e1]; exact h
    · rw [e2]; exact h
    · rw [e3]; exact h
  by_cases c : 0 ≤ turn a b c
  · exact .inl (key 1 (by grind))
  · exact .inr (key (-1) (by grind))
theorem share_whole : share whole = 1 := by
  unfold share whole
  simp only [cyc, path, List.cons_append, List.nil_append]
  unfold crs; grind
theorem whole_good : Good whole := by
  refine ⟨?_, vd4 (by grind) (by grind), fun z hz => ?_, fun _ => by rw [share_whole]; grind⟩
  · intro x y z s
    rcases sub3of4 s with e | e | e | e <;> (simp only [List.cons.injEq, and_true] at e; obtain ⟨rfl, rfl, rfl⟩ := e) <;> (unfold turn; grind)
  · unfold whole at hz
    simp only [List.mem_cons, List.not_mem_nil, or_false] at hz
    rcases hz with rfl | rfl | rfl | rfl <;> (unfold InU; grind)
theorem both_whole {T : List Pt} (c : CC 1 T) (v : VD T) : Good (both T whole) := by
  unfold Dial.both
  split
  · exact Good.nil
  · refine Good.tidied (CC.cuts _ c) (VD.cuts _ v) fun z hz => ?_
    have h := cuts_own (edges whole) T z hz
    rw [whole_edges] at h
    have k1 := h ((0, 0), (1, 0)) (by simp)
    have k2 := h ((1, 0), (1, 1)) (by simp)
    have k3 := h ((1, 1), (0, 1)) (by simp)
    have k4 := h ((0, 1), (0, 0)) (by simp)
    unfold turn at k1 k2 k3 k4
    dsimp only at k1 k2 k3 k4
    exact ⟨by grind, by grind, by grind, by grind⟩
/-- a part that was cut out of the plate lies in it -/
theorem in_whole {T : List Pt} (c : CC 1 T) (v : VD T) : Ev fun x => inn (both T whole) x = inn whole x * inn (both T whole) x := by
  refine ((both_whole c v).ev.and ((both_ev (Q := whole) c))).mono fun x ⟨h1, h2⟩ => ?_
  rw [← h1, h2]
  have : inn whole x * inn whole x = inn whole x := by
    unfold inn ind
    rw [if_neg (by unfold whole; simp)]
    split <;> grind
  grind
/-! ### what is left of a part -/
def leftOf (P : List Pt) : List (List Pt) → Rat
  | [] => share P
  | q :: qs => if P = [] then share P else leftOf P qs - leftOf (both P q) qs
def outs (qs : List (List Pt)) (x : Pt) : Rat := qs.foldr (fun q r => (1 - inn q x) * r) 1
theorem leftOf_area : ∀ (qs : List (List Pt)) (P : List Pt), Good P → Area (fun x => cyc (ray x) P * outs qs x) (leftOf P qs)
  | [], P, h => h.area.congr (Ev.true.mono fun x _ => by show _ = _ * (1 : Rat); grind)
  | q :: qs, P, h => by
    simp only [leftOf]
    by_cases c : P = []
    · rw [if_pos c]
      subst c
      have e : share [] = 0 := by unfold share cyc; grind
      rw [e]
      exact Area.zero.congr (Ev.true.mono fun x _ => by show (0 : Rat) = 0 * _; grind)
    · rw [if_neg c]
      have h1 := leftOf_area qs P h
      have h2 := (leftOf_area qs (both P q) (h.both q)).neg
      have h3 := h1.add h2
      have e : leftOf P qs + -1 * leftOf (both P q) qs = leftOf P qs - leftOf (both P q) qs := by grind
      rw [e] at h3
      refine h3.congr ((both_ev (Q := q) h.cc).mono fun x hx => ?_)
      rw [hx]
      show _ = cyc (ray x) P * ((1 - inn q x) * outs qs x)
      grind
/-! ### the sum with signs that change -/
def more (sm0 : List (Nat × List Pt)) (q : List Pt) : List (Nat × List Pt) := sm0 ++ sm0.map fun e => (e.1 + 1, if 0 < e.1 then both e.2 q else q)
def sgn (n : Nat) : Rat := if (n + 1) % 2 = 0 then -1 else 1
theorem sgn_succ (n : Nat) : sgn (n + 1) = - sgn n := by
  unfold sgn
  by_cases c : (n + 1) % 2 = 0
  · rw [if_pos c, if_neg (by omega)]; grind
  · rw [if_neg c, if_pos (by omega)]
def wt (x : Pt) (e : Nat × List Pt) : Rat := sgn e.1 * if 0 < e.1 then cyc (ray x) e.2 else inn whole x
def sumOf {α : Type} (f : α → Rat) (l : List α) : Rat := l.foldr (fun a r => f a + r) 0
theorem sumOf_append {α : Type} (f : α → Rat) (l k : List α) : sumOf f (l ++ k) = sumOf f l + sumOf f k := by
  induction l with
  | nil => show sumOf f k = 0 + sumOf f k; grind
  | cons a l ih => show f a + sumOf f (l ++ k) = f a + sumOf f l + sumOf f k; rw [ih]; grind
def allOf (parts : List (List Pt)) : List (Nat × List Pt) := parts.foldl more [(0, [])]
/-- what is said of each entry -/
def Entry (e : Nat × List Pt) : Prop := 0 < e.1 → Good e.2
theorem more_entry {sm0 : List (Nat × List Pt)} {q : List Pt} (h : ∀ e ∈ sm0, Entry e) (hq : Good q) : ∀ e ∈ more sm0 q, Entry e := fun e he => by
  unfold more at he
  rcases List.mem_append.mp he with he | he
  · exact h e he
  · obtain ⟨d, hd, rfl⟩ := List.mem_map.mp he
    intro _
    dsimp only
    split
    · rename_i c
      exact (h d hd c).both q
    · exact hq
theorem more_sum {sm0 : List (Nat × List Pt)} {q : List Pt} (h : ∀ e ∈ sm0, Entry e) (hq : Good q) (hw : Ev fun x => inn q x = inn whole x * inn q x) :
    Ev fun x => sumOf (wt x) (more sm0 q) = sumOf (wt x) sm0 * (1 - inn q x) := by
  have hb : Ev fun x => ∀ e ∈ sm0, 0 < e.1 → cyc (ray x) (both e.2 q) = cyc (ray x) e.2 * inn q x := Ev.all fun e he => by
    by_cases c : 0 < e.1
    · exact (both_ev (Q := q) (h e he c).cc).mono fun x hx _ => hx
    · exact Ev.true.mono fun x _ k => absurd k c
  refine ((hb.and hq.ev).and hw).mono fun x ⟨⟨h1, h2⟩, h3⟩ => ?_
  unfold more
  rw [sumOf_append]
  have e : ∀ l : List (Nat × List Pt), (∀ e ∈ l, 0 < e.1 → cyc (ray x) (both e.2 q) = cyc (ray x) e.2 * inn q x) → sumOf (wt x) (l.map fun e => (e.1 + 1, if 0 < e.1 then both e.2 q else q)) = - sumOf (wt x) l * inn q x := by
    intro l
    induction l with
    | nil => intro _; show (0 : Rat) = -0 * _; grind
    | cons a l ih =>
      intro hl
      have i := ih fun e he => hl e (List.mem_cons_of_mem _ he)
      show wt x _ + sumOf (wt x) (l.map _) = -(wt x a + sumOf (wt x) l) * inn q x
      rw [i]
      have ha := hl a (by simp)
      have : wt x (a.1 + 1, if 0 < a.1 then both a.2 q else q) = - wt x a * inn q x := by
        unfold wt
        dsimp only
        rw [sgn_succ, if_pos (by omega)]
        by_cases c : 0 < a.1
        · rw [if_pos c, if_pos c, ha c]; grind
        · rw [if_neg c, if_neg c, h2]
          have := h3
          grind
      rw [this]; grind
  rw [e sm0 h1]; grind
theorem allOf_ok : ∀ (parts : List (List Pt)) (sm0 : List (Nat × List Pt)) (f : Pt → Rat), (∀ e ∈ sm0, Entry e) → (∀ q ∈ parts, Good q ∧ Ev fun x => inn q x = inn whole x * inn q x) → (Ev fun x => sumOf (wt x) sm0 = f x) →
    (∀ e ∈ parts.foldl more sm0, Entry e) ∧ Ev fun x => sumOf (wt x) (parts.foldl more sm0) = f x * outs parts x
  | [], sm0, f, h, _, hf => ⟨h, hf.mono fun x hx => by show sumOf (wt x) sm0 = _; rw [hx]; show _ = _ * (1 : Rat); grind⟩
  | q :: parts, sm0, f, h, hp, hf => by
    have hq := hp q (by simp)
    have h1 := more_entry h hq.1
    have h2 := more_sum h hq.1 hq.2
    have ih := allOf_ok parts (more sm0 q) (fun x => f x * (1 - inn q x)) h1 (fun r hr => hp r (List.mem_cons_of_mem _ hr)) ((h2.and hf).mono fun x ⟨a, b⟩ => by rw [a, b])
    refine ⟨ih.1, ih.2.mono fun x hx => ?_⟩
    show sumOf (wt x) (parts.foldl more (more sm0 q)) = _
    rw [hx]
    show _ = f x * ((1 - inn q x) * outs parts x)
    grind
theorem allOf_first : ∀ (parts : List (List Pt)) (sm0 : List (Nat × List Pt)), (∃ r, sm0 = (0, []) :: r ∧ ∀ e ∈ r, 0 < e.1) → ∃ r, parts.foldl more sm0 = (0, []) :: r ∧ ∀ e ∈ r, 0 < e.1
  | [], _, h => h
  | q :: parts, sm0, h => by
    obtain ⟨r, rfl, hr⟩ := h
    refine allOf_first parts _ ⟨r ++ ((0, []) :: r).map fun e => (e.1 + 1, if 0 < e.1 then both e.2 q else q), rfl, fun e he => ?_⟩
    rcases List.mem_append.mp he with he | he
    · exact hr e he
    · obtain ⟨d, _, rfl⟩ := List.mem_map.mp he
      exact Nat.succ_pos _
def lawLeft (parts : List (List Pt)) : Rat := 1 + sumOf (fun e => sgn e.1 * share e.2) (allOf parts).tail
theorem area_sum : ∀ (l : List (Nat × List Pt)), (∀ e ∈ l, Entry e ∧ 0 < e.1) → Area (fun x => sumOf (wt x) l) (sumOf (fun e => sgn e.1 * share e.2) l)
  | [], _ => Area.zero.congr (Ev.true.mono fun x _ => rfl)
  | e :: l, h => by
    have he := h e (by simp)
    have h1 := (he.1 he.2).area
    have h2 := area_sum l fun d hd => h d (List.mem_cons_of_mem _ hd)
    have h3 : Area (fun x => wt x e) (sgn e.1 * share e.2) := by
      unfold wt sgn
      by_cases c : (e.1 + 1) % 2 = 0
      · rw [if_pos c]
        refine h1.neg.congr (Ev.true.mono fun x _ => ?_)
        rw [if_pos he.2]
      · rw [if_neg c]
        have k : 1 * share e.2 = share e.2 := by grind
        rw [k]
        refine h1.congr (Ev.true.mono fun x _ => ?_)
        rw [if_pos he.2]; grind
    exact (h3.add h2).congr (Ev.true.mono fun x _ => rfl)
theorem whole_area : Area (fun x => inn whole x) 1 := by
  have := whole_good.area
  rw [share_whole] at this
  exact this.congr whole_good.ev
theorem lawLeft_area {parts : List (List Pt)} (hp : ∀ q ∈ parts, Good q ∧ Ev fun x => inn q x = inn whole x * inn q x) : Area (fun x => inn whole x * outs parts x) (lawLeft parts) := by
  have h0 : ∀ e ∈ [((0 : Nat), ([] : List Pt))], Entry e := fun e he => by
    rw [List.mem_singleton.mp he]
    intro k; exact absurd k (by simp)
  have hs : Ev fun x => sumOf (wt x) [((0 : Nat), ([] : List Pt))] = inn whole x := Ev.true.mono fun x _ => by
    show wt x (0, []) + 0 = _
    unfold wt sgn
    simp
    grind
  obtain ⟨h1, h2⟩ := allOf_ok parts [(0, [])] _ h0 hp hs
  obtain ⟨r, e, hr⟩ := allOf_first parts [(0, [])] ⟨[], rfl, by simp⟩
  have ea : allOf parts = (0, []) :: r := e
  rw [e] at h1 h2
  unfold lawLeft
  rw [ea, List.tail_cons]
  have h3 := area_sum r fun d hd => ⟨h1 d (List.mem_cons_of_mem _ hd), hr d hd⟩
  refine (whole_area.add h3).congr (h2.mono fun x hx => ?_)
  rw [← hx]
  show _ = wt x (0, []) + sumOf (wt x) r
  unfold wt sgn
  simp

/-! ### the law -/
/-- a part told: some_ way that bulges, cut by the plate -/
def Told (p : List Pt) : Prop := p = [] ∨ ∃ T, CC 1 T ∧ VD T ∧ p = both T whole
theorem Told.ok {p : List Pt} (h : Told p) : Good p ∧ Ev fun x => inn p x = inn whole x * inn p x := by
  rcases h with rfl | ⟨T, c, v, rfl⟩
  · exact ⟨Good.nil, Ev.true.mono fun x _ => by unfold inn; simp⟩
  · exact ⟨both_whole c v, in_whole c v⟩
theorem outs_filter (qs : List (List Pt)) (x : Pt) : outs (qs.filter fun q => decide (q ≠ [])) x = outs qs x := by
  induction qs with
  | nil => rfl
  | cons q qs ih =>
    by_cases c : q = []
    · subst c
      rw [List.filter_cons_of_neg (by simp), ih]
      have : inn [] x = 0 := by unfold inn; simp
      show _ = (1 - inn [] x) * outs qs x
      rw [this]; grind
    · rw [List.filter_cons_of_pos (by simpa using c)]
      show (1 - inn q x) * outs _ x = (1 - inn q x) * outs qs x
      rw [ih]
theorem outs_perm {qs rs : List (List Pt)} (h : qs.Perm rs) (x : Pt) : outs qs x = outs rs x := by
  induction h with
  | nil => rfl
  | @cons q l k _ ih => show (1 - inn q x) * outs l x = (1 - inn q x) * outs k x; rw [ih]
  | swap q r l => show (1 - inn r x) * ((1 - inn q x) * outs l x) = (1 - inn q x) * ((1 - inn r x) * outs l x); grind
  | trans _ _ i1 i2 => exact i1.trans i2
theorem outs_nonneg (qs : List (List Pt)) (x : Pt) : 0 ≤ outs qs x := by
  induction qs with
  | nil => show (0 : Rat) ≤ 1; grind
  | cons q qs ih => exact mulp (by have := (inn_01 q x).2; grind) ih
/-- how much is lit, by parts -/
def litOf (parts : List (List Pt)) : Rat := leftOf whole (parts.filter fun q => decide (q ≠ []))
theorem litOf_area (parts : List (List Pt)) : Area (fun x => inn whole x * outs parts x) (litOf parts) := by
  refine (leftOf_area _ whole whole_good).congr (whole_good.ev.mono fun x hx => ?_)
  rw [hx, outs_filter]
theorem lit_is_lawLeft {parts ps : List (List Pt)} (h : ∀ p ∈ ps, Told p) (k : parts.Perm ps) : litOf parts = lawLeft ps :=
  (litOf_area parts).uniq ((lawLeft_area fun q hq => (h q hq).ok).congr (Ev.true.mono fun x _ => by rw [outs_perm k]))
/-- without one of the others no less is lit -/
theorem lit_mono {parts fewer : List (List Pt)} {p : List Pt} (k : parts.Perm (p :: fewer)) : litOf parts ≤ litOf fewer := by
  refine (litOf_area parts).mono (litOf_area fewer) (Ev.true.mono fun x _ => ?_)
  rw [outs_perm k]
  have h1 := inn_01 p x
  have h2 := inn_01 whole x
  have h3 := outs_nonneg fewer x
  show inn whole x * ((1 - inn p x) * outs fewer x) ≤ _
  have := mulp (mulp h2.1 h1.1) h3
  grind
theorem lit_none : litOf [] = 1 := share_whole
end Dial

/-! How great the numbers of the fractions become. No program here. -/
namespace Dial
def Ht (n : Nat) (x : Rat) : Prop := x.num.natAbs < 2 ^ n ∧ x.den < 2 ^ n
theorem two_pow_le {a b : Nat} (h : a ≤ b) : 2 ^ a ≤ 2 ^ b := Nat.pow_le_pow_right (by decide) h
theorem Ht.mono {a b : Nat} {x : Rat} (h : Ht a x) (k : a ≤ b) : Ht b x := ⟨Nat.lt_of_lt_of_le h.1 (two_pow_le k), Nat.lt_of_lt_of_le h.2 (two_pow_le k)⟩
theorem pow_mul_lt {a b x y : Nat} (h : x < 2 ^ a) (k : y < 2 ^ b) : x * y < 2 ^ (a + b) := by
  rw [Nat.pow_add]
  exact Nat.mul_lt_mul'' h k
theorem pow_add_lt {a x y : Nat} (h : x < 2 ^ a) (k : y < 2 ^ a) : x + y < 2 ^ (a + 1) := by
  rw [Nat.pow_succ]; omega
theorem ht_mk {n : Nat} {a : Int} {d : Nat} (hd : d ≠ 0) (h : a.natAbs < 2 ^ n) (k : d < 2 ^ n) : Ht n (mkRat a d) := by
  unfold Ht
  rw [Rat.num_mkRat, Rat.den_mkRat, if_neg hd, if_neg hd]
  constructor
  · refine Nat.lt_of_le_of_lt ?_ h
    rw [Int.natAbs_ediv_of_dvd]
    · exact Nat.div_le_self _ _
    · exact Int.ofNat_dvd_left.mpr (Nat.gcd_dvd_right _ _)
  · exact Nat.lt_of_le_of_lt (Nat.div_le_self _ _) k
theorem ht_add {a b : Nat} {x y : Rat} (h : Ht a x) (k : Ht b y) : Ht (a + b + 1) (x + y) := by
  rw [Rat.add_def']
  refine ht_mk (Nat.mul_ne_zero x.den_nz y.den_nz) ?_ ?_
  · refine Nat.lt_of_le_of_lt (Int.natAbs_add_le _ _) ?_
    rw [Int.natAbs_mul, Int.natAbs_mul, Int.natAbs_natCast, Int.natAbs_natCast]
    refine pow_add_lt (pow_mul_lt h.1 k.2) ?_
    rw [Nat.add_comm a b]
    exact pow_mul_lt k.1 h.2
  · exact Nat.lt_of_lt_of_le (pow_mul_lt h.2 k.2) (two_pow_le (by omega))
theorem ht_neg {a : Nat} {x : Rat} (h : Ht a x) : Ht a (-x) := by
  unfold Ht
  rw [Rat.neg_num, Rat.neg_den, Int.natAbs_neg]
  exact h
theorem ht_sub {a b : Nat} {x y : Rat} (h : Ht a x) (k : Ht b y) : Ht (a + b + 1) (x - y) := by
  rw [Rat.sub_eq_add_neg]
  exact ht_add h (ht_neg k)
theorem ht_mul {a b : Nat} {x y : Rat} (h : Ht a x) (k : Ht b y) : Ht (a + b) (x * y) := by
  rw [Rat.mul_def']
  refine ht_mk (Nat.mul_ne_zero x.den_nz y.den_nz) ?_ (pow_mul_lt h.2 k.2)
  rw [Int.natAbs_mul]
  exact pow_mul_lt h.1 k.1
/-- what is a quotient of two small whole numbers -/
theorem ht_frac {n : Nat} {x : Rat} {N D : Int} (hD : D ≠ 0) (e : x * D = N) (h1 : N.natAbs < 2 ^ n) (h2 : D.natAbs < 2 ^ n) : Ht n x := by
  have e2 : x.num * D = N * x.den := by
    have := mul_den x
    have q : (x.num : Rat) * D = N * x.den := by rw [← this, ← e]; grind
    exact_mod_cast q
  have d1 : x.den ∣ D.natAbs := by
    have : (x.den : Int) ∣ x.num * D := ⟨N, by rw [e2, Int.mul_comm]⟩
    have : x.den ∣ (x.num * D).natAbs := Int.ofNat_dvd_left.mp this
    rw [Int.natAbs_mul] at this
    exact (Nat.Coprime.symm x.reduced).dvd_of_dvd_mul_left this
  obtain ⟨k, hk⟩ := d1
  have hk0 : k ≠ 0 := by
    intro z
    rw [z, Nat.mul_zero] at hk
    exact hD (Int.natAbs_eq_zero.mp hk)
  constructor
  · refine Nat.lt_of_le_of_lt ?_ h1
    have e3 : x.num.natAbs * D.natAbs = N.natAbs * x.den := by
      have := congrArg Int.natAbs e2
      rwa [Int.natAbs_mul, Int.natAbs_mul, Int.natAbs_natCast] at this
    rw [hk] at e3
    have e4 : x.num.natAbs * k = N.natAbs := by
      have : x.den * (x.num.natAbs * k) = x.den * N.natAbs := by rw [Nat.mul_comm x.den N.natAbs, ← e3]; simp [Nat.mul_left_comm]
      exact Nat.eq_of_mul_eq_mul_left x.den_pos this
    rw [← e4]
    exact Nat.le_mul_of_pos_right _ (Nat.pos_of_ne_zero hk0)
  · refine Nat.lt_of_le_of_lt ?_ h2
    rw [hk]
    exact Nat.le_mul_of_pos_right _ (Nat.pos_of_ne_zero hk0)
theorem ht_int {n : Nat} {i : Int} (h : i.natAbs < 2 ^ n) (h1 : 1 ≤ n) : Ht n (i : Rat) := by
  unfold Ht
  rw [Rat.num_intCast, Rat.den_intCast]
  exact ⟨h, Nat.one_lt_two_pow (by omega)⟩
theorem ht_div {a b : Nat} {x y : Rat} (h : Ht a x) (k : Ht b y) (hy : y ≠ 0) : Ht (a + b) (x / y) := by
  have hn : y.num ≠ 0 := fun z => hy (Rat.num_eq_zero.mp z)
  refine ht_frac (N := x.num * y.den) (D := x.den * y.num) ?_ ?_ ?_ ?_
  · exact Int.mul_ne_zero (by have := x.den_nz; omega) hn
  · have e1 := mul_den x
    have e2 := mul_den y
    simp only [Rat.intCast_mul, Rat.intCast_natCast]
    rw [← e1, ← e2]; grind
  · rw [Int.natAbs_mul, Int.natAbs_natCast]; exact pow_mul_lt h.1 k.2
  · rw [Int.natAbs_mul, Int.natAbs_natCast]; exact pow_mul_lt h.2 k.1
/-! ### lines -/
/-- two points on one line of small whole numbers -/
def OnL (A B C : Int) (u : Pt) : Prop := (A : Rat) * u.1 + B * u.2 + C = 0
def Small (k : Nat) (A B C : Int) : Prop := (A ≠ 0 ∨ B ≠ 0) ∧ A.natAbs < 2 ^ k ∧ B.natAbs < 2 ^ k ∧ C.natAbs < 2 ^ k
def On (k : Nat) (u v : Pt) : Prop := ∃ A B C : Int, Small k A B C ∧ OnL A B C u ∧ OnL A B C v
theorem On.symm {k : Nat} {u v : Pt} (h : On k u v) : On k v u := by
  obtain ⟨A, B, C, s, a, b⟩ := h
  exact ⟨A, B, C, s, b, a⟩
def PHt (n : Nat) (u : Pt) : Prop := Ht n u.1 ∧ Ht n u.2
theorem abs_sub_lt {a b : Int} {n : Nat} (h : a.natAbs < 2 ^ n) (k : b.natAbs < 2 ^ n) : (a - b).natAbs < 2 ^ (n + 1) :=
  Nat.lt_of_le_of_lt (by omega : (a - b).natAbs ≤ a.natAbs + b.natAbs) (pow_add_lt h k)
theorem abs_mul_lt {a b : Int} {n m : Nat} (h : a.natAbs < 2 ^ n) (k : b.natAbs < 2 ^ m) : (a * b).natAbs < 2 ^ (n + m) := by
  rw [Int.natAbs_mul]; exact pow_mul_lt h k
theorem abs_nat {d n : Nat} (h : d < 2 ^ n) : ((d : Int)).natAbs < 2 ^ n := by rw [Int.natAbs_natCast]; exact h
theorem on_two {n : Nat} {u v : Pt} (hu : PHt n u) (hv : PHt n v) : On (4 * n + 1) u v := by
  have e1 := mul_den u.1
  have e2 := mul_den u.2
  have e3 := mul_den v.1
  have e4 := mul_den v.2
  have p1 := cast_pos u.1.den_pos
  have p2 := cast_pos u.2.den_pos
  have p3 := cast_pos v.1.den_pos
  have p4 := cast_pos v.2.den_pos
  have up : ∀ {x : Nat}, x < 2 ^ n → x < 2 ^ (4 * n + 1) := fun h => Nat.lt_of_lt_of_le h (two_pow_le (by omega))
  by_cases c : u = v
  · subst c
    refine ⟨u.1.den, 0, -u.1.num, ⟨.inl (by have := u.1.den_nz; omega), ?_, ?_, ?_⟩, ?_, ?_⟩
    · exact abs_nat (up hu.1.2)
    · exact Nat.pow_pos (by decide)
    · rw [Int.natAbs_neg]; exact up hu.1.1
    · unfold OnL; simp only [Rat.intCast_neg, Rat.intCast_natCast]; rw [← e1]; simp; grind
    · unfold OnL; simp only [Rat.intCast_neg, Rat.intCast_natCast]; rw [← e1]; simp; grind
  · refine ⟨-((v.2.num * u.2.den - u.2.num * v.2.den) * (u.1.den * v.1.den)), (v.1.num * u.1.den - u.1.num * v.1.den) * (u.2.den * v.2.den), u.1.num * v.2.num * (u.2.den * v.1.den) - v.1.num * u.2.num * (u.1.den * v.2.den), ⟨?_, ?_, ?_, ?_⟩, ?_, ?_⟩
    · have hd : (u.1.den : Int) * v.1.den ≠ 0 := Int.mul_ne_zero (by have := u.1.den_nz; omega) (by have := v.1.den_nz; omega)
      have hd2 : (u.2.den : Int) * v.2.den ≠ 0 := Int.mul_ne_zero (by have := u.2.den_nz; omega) (by have := v.2.den_nz; omega)
      rcases ne_cases c with k | k
      · right
        intro z
        rcases Int.mul_eq_zero.mp z with z | z
        · have q : (v.1.num : Rat) * u.1.den = u.1.num * v.1.den := by
            have : v.1.num * u.1.den = u.1.num * v.1.den := by omega
            exact_mod_cast this
          rw [← e1, ← e3] at q
          have : (u.1 - v.1) * ((u.1.den : Rat) * v.1.den) = 0 := by grind
          rcases Rat.mul_eq_zero.mp this with w | w
          · exact k w
          · have := mulpp p1 p3; grind
        · exact hd2 z
      · left
        intro z
        rcases Int.mul_eq_zero.mp (Int.neg_eq_zero.mp z) with z | z
        · have q : (v.2.num : Rat) * u.2.den = u.2.num * v.2.den := by
            have : v.2.num * u.2.den = u.2.num * v.2.den := by omega
            exact_mod_cast this
          rw [← e2, ← e4] at q
          have : (u.2 - v.2) * ((u.2.den : Rat) * v.2.den) = 0 := by grind
          rcases Rat.mul_eq_zero.mp this with w | w
          · exact k w
          · have := mulpp p2 p4; grind
        · exact hd z
    · rw [Int.natAbs_neg]
      have := abs_mul_lt (abs_sub_lt (abs_mul_lt hv.2.1 (abs_nat hu.2.2)) (abs_mul_lt hu.2.1 (abs_nat hv.2.2))) (abs_mul_lt (abs_nat hu.1.2) (abs_nat hv.1.2))
      exact Nat.lt_of_lt_of_le this (two_pow_le (by omega))
    · have := abs_mul_lt (abs_sub_lt (abs_mul_lt hv.1.1 (abs_nat hu.1.2)) (abs_mul_lt hu.1.1 (abs_nat hv.1.2))) (abs_mul_lt (abs_nat hu.2.2) (abs_nat hv.2.2))
      exact Nat.lt_of_lt_of_le this (two_pow_le (by omega))
    · have := abs_sub_lt (abs_mul_lt (abs_mul_lt hu.1.1 hv.2.1) (abs_mul_lt (abs_nat hu.2.2) (abs_nat hv.1.2))) (abs_mul_lt (abs_mul_lt hv.1.1 hu.2.1) (abs_mul_lt (abs_nat hu.1.2) (abs_nat hv.2.2)))
      exact Nat.lt_of_lt_of_le this (two_pow_le (by omega))
    · unfold OnL
      simp only [Rat.intCast_neg, Rat.intCast_sub, Rat.intCast_mul, Rat.intCast_natCast]
      rw [← e1, ← e2, ← e3, ← e4]; grind
    · unfold OnL
      simp only [Rat.intCast_neg, Rat.intCast_sub, Rat.intCast_mul, Rat.intCast_natCast]
      rw [← e1, ← e2, ← e3, ← e4]; grind
/-- three points of one line -/
theorem onL_turn {A B C : Int} (h : A ≠ 0 ∨ B ≠ 0) {u v w : Pt} (hu : OnL A B C u) (hv : OnL A B C v) (hw : OnL A B C w) : turn u v w = 0 := by
  unfold OnL at *
  unfold turn
  rcases h with h | h
  · have hA : (A : Rat) ≠ 0 := by exact_mod_cast h
    have : (A : Rat) * ((v.1 - u.1) * (w.2 - u.2) - (v.2 - u.2) * (w.1 - u.1)) = 0 := by grind
    rcases Rat.mul_eq_zero.mp this with z | z
    · exact absurd z hA
    · exact z
  · have hB : (B : Rat) ≠ 0 := by exact_mod_cast h
    have : (B : Rat) * ((v.1 - u.1) * (w.2 - u.2) - (v.2 - u.2) * (w.1 - u.1)) = 0 := by grind
    rcases Rat.mul_eq_zero.mp this with z | z
    · exact absurd z hB
    · exact z
theorem onL_line {A B C : Int} {p b d : Pt} (h : p ≠ b) (h1 : OnL A B C p) (h2 : OnL A B C b) (h3 : turn p b d = 0) : OnL A B C d :=
  aff_line ⟨A, B, C⟩ h h1 h2 h3
theorem onL_along {A B C : Int} {a b : Pt} (s : Rat) (h1 : OnL A B C a) (h2 : OnL A B C b) : OnL A B C (along s a b) := by
  have := along_at ⟨A, B, C⟩ s a b
  have k1 : Aff.at ⟨A, B, C⟩ a = 0 := h1
  have k2 : Aff.at ⟨A, B, C⟩ b = 0 := h2
  rw [k1, k2] at this
  show Aff.at ⟨A, B, C⟩ (along s a b) = 0
  rw [this]; grind
/-- where two lines meet -/
theorem meet_ht {k : Nat} {A B C A2 B2 C2 : Int} (h1 : Small k A B C) (h2 : Small k A2 B2 C2) (hD : A * B2 - A2 * B ≠ 0) {m : Pt} (m1 : OnL A B C m) (m2 : OnL A2 B2 C2 m) : PHt (2 * k + 1) m := by
  obtain ⟨_, a, b, c⟩ := h1
  obtain ⟨_, a2, b2, c2⟩ := h2
  unfold OnL at *
  have ek : 2 * k + 1 = k + k + 1 := by omega
  rw [ek]
  constructor
  · refine ht_frac (N := B * C2 - B2 * C) hD ?_ (abs_sub_lt (abs_mul_lt b c2) (abs_mul_lt b2 c)) (abs_sub_lt (abs_mul_lt a b2) (abs_mul_lt a2 b))
    simp only [Rat.intCast_sub, Rat.intCast_mul]; grind
  · refine ht_frac (N := A2 * C - A * C2) hD ?_ (abs_sub_lt (abs_mul_lt a2 c) (abs_mul_lt a c2)) (abs_sub_lt (abs_mul_lt a b2) (abs_mul_lt a2 b))
    simp only [Rat.intCast_sub, Rat.intCast_mul]; grind
end Dial

/-! The corners of cut and tidied parts are crossings of few lines: their numbers stay small, and there are few of them. No program here. -/
namespace Dial
/-- corners small, each edge on a line of small numbers -/
structure Bd (n k : Nat) (P : List Pt) : Prop where
  pts : ∀ z ∈ P, PHt n z
  lns : ∀ e ∈ edges P, On k e.1 e.2
theorem epath_append : ∀ (l : List Pt) (a : Pt) (m : List Pt), epath a (l ++ m) = epath a l ++ epath (lastD a l) m
  | [], _, _ => rfl
  | b :: t, a, m => by simp only [List.cons_append, epath, lastD]; rw [epath_append t b m]
/-! ### cutting -/
theorem keptP_kind : ∀ (l : List PH) (a : PH) (z : Pt), z ∈ keptP cross a l → z ∈ (a :: l).map (·.1) ∨ ∃ A u v B, a :: l = A ++ u :: v :: B ∧ u.2 * v.2 < 0 ∧ z = cross u.1 v.1 u.2 v.2
  | [], _, _, h => by cases h
  | b :: t, a, z, h => by
    simp only [keptP, List.mem_append] at h
    rcases h with (h | h) | h
    · unfold here at h
      split at h
      · rw [List.mem_singleton.mp h]; exact .inl (by simp)
      · cases h
    · unfold mids at h
      split at h
      · rename_i k
        exact .inr ⟨[], a, b, t, rfl, k, List.mem_singleton.mp h⟩
      · cases h
    · rcases keptP_kind t b z h with k | ⟨A, u, v, B, e, k1, k2⟩
      · exact .inl (List.mem_cons_of_mem _ k)
      · exact .inr ⟨a :: A, u, v, B, by rw [e]; rfl, k1, k2⟩
theorem edge_of_split : ∀ (A : List Pt) (a : Pt) (l : List Pt) (u v : Pt) (B : List Pt), a :: l = A ++ u :: v :: B → (u, v) ∈ epath a l
  | [], a, l, u, v, B, e => by
    simp only [List.nil_append, List.cons.injEq] at e
    obtain ⟨rfl, rfl⟩ := e
    simp [epath]
  | x :: A, a, l, u, v, B, e => by
    simp only [List.cons_append, List.cons.injEq] at e
    obtain ⟨rfl, e⟩ := e
    cases l with
    | nil =>
      cases A <;> simp at e
    | cons b t => exact List.mem_cons_of_mem _ (edge_of_split A b t u v B e)
theorem cutBy_kind {P : List Pt} {e : Pt × Pt} {z : Pt} (h : z ∈ cutBy P e) : z ∈ P ∨ ∃ u v, (u, v) ∈ edges P ∧ turn e.1 e.2 u * turn e.1 e.2 v < 0 ∧ z = cross u v (turn e.1 e.2 u) (turn e.1 e.2 v) := by
  cases P with
  | nil => cases h
  | cons a t =>
    have h' : z ∈ keptP cross (a, turn e.1 e.2 a) (hts e (t ++ [a])) := by
      have : hts e (t ++ [a]) = hts e t ++ [(a, turn e.1 e.2 a)] := by unfold hts; simp
      rw [this]; exact h
    rcases keptP_kind _ _ _ h' with k | ⟨A, u, v, B, e2, k1, k2⟩
    · left
      have : z ∈ (hts e (a :: (t ++ [a]))).map (·.1) := k
      rw [hts_fst] at this
      rcases List.mem_cons.mp this with q | q
      · rw [q]; exact List.mem_cons_self
      · rcases List.mem_append.mp q with q | q
        · exact List.mem_cons_of_mem _ q
        · rw [List.mem_singleton.mp q]; exact List.mem_cons_self
    · right
      have e3 : hts e (a :: (t ++ [a])) = A ++ u :: v :: B := e2
      have e4 := congrArg (List.map (·.1)) e3
      rw [hts_fst] at e4
      simp only [List.map_append, List.map_cons] at e4
      have mem : ∀ w, w ∈ A ++ u :: v :: B → w.2 = turn e.1 e.2 w.1 := fun w hw => by
        rw [← e3] at hw
        obtain ⟨p, _, rfl⟩ := List.mem_map.mp hw
        rfl
      have hu := mem u (by simp)
      have hv := mem v (by simp)
      rw [hu, hv] at k1 k2
      exact ⟨u.1, v.1, edge_of_split _ a (t ++ [a]) _ _ _ e4, k1, k2⟩
theorem cutBy_pts {n k : Nat} {P : List Pt} {e : Pt × Pt} (h : Bd n k P) (he : On k e.1 e.2) (hn : 2 * k + 1 ≤ n) : ∀ z ∈ cutBy P e, PHt n z := fun z hz => by
  rcases cutBy_kind hz with m | ⟨u, v, hm, hs, rfl⟩
  · exact h.pts z m
  · obtain ⟨A, B, C, s1, a1, a2⟩ := h.lns _ hm
    obtain ⟨A2, B2, C2, s2, b1, b2⟩ := he
    have ne : e.1 ≠ e.2 := fun z => by rw [z, turn_self, turn_self] at hs; grind
    have hz0 := cross_zero (lineOf e.1 e.2) (a := u) (b := v) (by rw [lineOf_at, lineOf_at]; exact hs)
    rw [lineOf_at, lineOf_at, lineOf_at] at hz0
    have m1 : OnL A B C (cross u v (turn e.1 e.2 u) (turn e.1 e.2 v)) := onL_along _ a1 a2
    have m2 : OnL A2 B2 C2 (cross u v (turn e.1 e.2 u) (turn e.1 e.2 v)) := onL_line ne b1 b2 hz0
    have hD : A * B2 - A2 * B ≠ 0 := fun hD => by
      have hq : (A : Rat) * B2 - A2 * B = 0 := by exact_mod_cast hD
      -- the second line's function is the same at u and v
      have key : (A2 : Rat) * u.1 + B2 * u.2 + C2 = A2 * v.1 + B2 * v.2 + C2 := by
        unfold OnL at a1 a2
        rcases s1.1 with k | k
        · have hA : (A : Rat) ≠ 0 := by exact_mod_cast k
          have : (A : Rat) * ((A2 : Rat) * (u.1 - v.1) + B2 * (u.2 - v.2)) = 0 := by grind
          rcases Rat.mul_eq_zero.mp this with w | w
          · exact absurd w hA
          · grind
        · have hB : (B : Rat) ≠ 0 := by exact_mod_cast k
          have : (B : Rat) * ((A2 : Rat) * (u.1 - v.1) + B2 * (u.2 - v.2)) = 0 := by grind
          rcases Rat.mul_eq_zero.mp this with w | w
          · exact absurd w hB
          · grind
      have ua : Aff.at ⟨A2, B2, C2⟩ u = Aff.at ⟨A2, B2, C2⟩ v := key
      have za : Aff.at ⟨A2, B2, C2⟩ (cross u v (turn e.1 e.2 u) (turn e.1 e.2 v)) = 0 := m2
      unfold cross at za
      rw [along_at, ua] at za
      have v0 : Aff.at ⟨A2, B2, C2⟩ v = 0 := by grind
      have t0 : turn e.1 e.2 v = 0 := onL_turn s2.1 b1 b2 v0
      rw [t0] at hs
      grind
    have := meet_ht s1 s2 hD m1 m2
    exact ⟨this.1.mono hn, this.2.mono hn⟩
theorem keptA_on {k : Nat} (h : Aff) (hz : ∀ p q, h.at p = 0 → h.at q = 0 → On k p q) : ∀ (l : List Pt) (a u : Pt), StandsFor h a u → (∀ e ∈ epath a l, On k e.1 e.2) →
    (∀ e ∈ epath u (keptA cross (withH h a) (l.map (withH h))), On k e.1 e.2) ∧ StandsFor h (lastD a l) (lastD u (keptA cross (withH h a) (l.map (withH h))))
  | [], _, _, s, _ => ⟨fun e he => (by cases he), s⟩
  | b :: t, a, u, s, hl => by
    have hab : On k a b := hl (a, b) (by simp [epath])
    simp only [List.map_cons, keptA, lastD]
    have key : ∀ (E : List Pt), E = mids cross (withH h a) (withH h b) ++ Dial.here (withH h b) → (∀ e ∈ epath u E, On k e.1 e.2) ∧ StandsFor h b (lastD u E) := by
      intro E hE
      subst hE
      unfold mids Dial.here
      dsimp only
      have sub : ∀ s : Rat, On k a (along s a b) ∧ On k (along s a b) b := fun s => by
        obtain ⟨A, B, C, sm, x, y⟩ := hab
        exact ⟨⟨A, B, C, sm, x, onL_along s x y⟩, ⟨A, B, C, sm, onL_along s x y, y⟩⟩
      by_cases c : h.at a * h.at b < 0
      · rw [if_pos c]
        have z := cross_zero h c
        by_cases hb : h.at b < 0
        · rw [if_neg (show ¬ ¬ (h.at b < 0) from fun z => z hb)]
          simp only [List.append_nil, epath, lastD, List.mem_singleton, forall_eq]
          refine ⟨?_, .inr ⟨hb, z⟩⟩
          rcases s with ⟨_, rfl⟩ | ⟨_, s2⟩
          · exact (sub _).1
          · exact hz _ _ s2 z
        · rw [if_pos hb]
          simp only [List.cons_append, List.nil_append, epath, lastD, List.mem_cons, List.not_mem_nil, or_false, forall_eq_or_imp, forall_eq]
          refine ⟨⟨?_, (sub _).2⟩, .inl ⟨by grind, rfl⟩⟩
          rcases s with ⟨_, rfl⟩ | ⟨_, s2⟩
          · exact (sub _).1
          · exact hz _ _ s2 z
      · rw [if_neg c]
        by_cases hb : h.at b < 0
        · rw [if_neg (show ¬ ¬ (h.at b < 0) from fun z => z hb)]
          simp only [List.append_nil, epath, lastD]
          refine ⟨fun e he => (by cases he), .inr ⟨hb, ?_⟩⟩
          rcases s with ⟨s1, rfl⟩ | ⟨_, s2⟩
          · by_cases u1 : 0 < h.at u
            · have := mulpp (a := h.at u) (b := - h.at b) u1 (by grind)
              grind
            · grind
          · exact s2
        · rw [if_pos hb]
          simp only [List.nil_append, epath, lastD, List.mem_singleton, forall_eq]
          refine ⟨?_, .inl ⟨by grind, rfl⟩⟩
          rcases s with ⟨_, rfl⟩ | ⟨s1, s2⟩
          · exact hab
          · have b0 : h.at b = 0 := by
              by_cases b1 : 0 < h.at b
              · have := mulpp (a := - h.at a) (b := h.at b) (by grind) b1
                grind
              · grind
            exact hz _ _ s2 b0
    obtain ⟨k1, k2⟩ := key _ rfl
    have ih := keptA_on h hz t b _ k2 fun e he => hl e (List.mem_cons_of_mem _ he)
    generalize mids cross (withH h a) (withH h b) ++ Dial.here (withH h b) = E at *
    rw [epath_append, lastD_cat]
    refine ⟨fun e he => ?_, ih.2⟩
    rcases List.mem_append.mp he with he | he
    · exact k1 e he
    · exact ih.1 e he
theorem cutBy_lns {n k : Nat} {P : List Pt} {e : Pt × Pt} (h : Bd n k P) (he : On k e.1 e.2) : ∀ d ∈ edges (cutBy P e), On k d.1 d.2 := by
  by_cases ne : e.1 = e.2
  · have hz : ∀ z ∈ hts e P, z.2 = 0 := fun z hz => by
      obtain ⟨p, _, rfl⟩ := List.mem_map.mp hz
      show turn e.1 e.2 p = 0
      rw [ne, turn_self]
    unfold cutBy
    rw [keptC_zero cross _ hz, hts_fst]
    exact h.lns
  · have hz : ∀ p q, (lineOf e.1 e.2).at p = 0 → (lineOf e.1 e.2).at q = 0 → On k p q := fun p q hp hq => by
      rw [lineOf_at] at hp hq
      obtain ⟨A, B, C, s, a, b⟩ := he
      exact ⟨A, B, C, s, onL_line ne a b hp, onL_line ne a b hq⟩
    have hl := h.lns
    unfold cutBy
    rw [hts_line]
    generalize lineOf e.1 e.2 = f at *
    cases P with
    | nil => exact fun d hd => (by cases hd)
    | cons a t =>
      simp only [List.map_cons, keptC]
      have e2 : t.map (withH f) ++ [withH f a] = (t ++ [a]).map (withH f) := by simp
      rw [e2]
      have kp := keptP_A cross ((t ++ [a]).map (withH f)) (withH f a)
      have hla : lastD (withH f a) ((t ++ [a]).map (withH f)) = withH f a := by rw [← e2]; exact lastD_append _ _ _
      rw [hla] at kp
      by_cases c0 : f.at a < 0
      · have h0 : Dial.here (withH f a) = [] := by unfold Dial.here; rw [if_neg (show ¬ ¬ (f.at a < 0) from fun z => z c0)]
        rw [h0, List.append_nil, List.nil_append] at kp
        rw [kp]
        have fst := keptA_first f (t ++ [a]) a c0
        have hK : keptA cross (withH f a) ((t ++ [a]).map (withH f)) = keptA cross (withH f a) ((t ++ [a]).map (withH f)) := rfl
        generalize hKe : keptA cross (withH f a) ((t ++ [a]).map (withH f)) = K at *
        cases K with
        | nil => exact fun d hd => (by cases hd)
        | cons k0 K =>
          have z0 := fst k0 rfl
          have r := keptA_on f hz (t ++ [a]) a k0 (.inr ⟨c0, z0⟩) hl
          rw [hKe, lastD_append] at r
          simp only [epath, lastD] at r
          have zl : f.at (lastD k0 K) = 0 := by
            rcases r.2 with ⟨q, _⟩ | ⟨_, q⟩
            · grind
            · exact q
          intro d hd
          simp only [edges] at hd
          rw [epath_append] at hd
          rcases List.mem_append.mp hd with hd | hd
          · exact r.1 d (List.mem_cons_of_mem _ hd)
          · simp only [epath, List.mem_singleton] at hd
            subst hd
            exact hz _ _ zl z0
      · have h0 : Dial.here (withH f a) = [a] := by unfold Dial.here; rw [if_pos c0]
        rw [h0] at kp
        have r := keptA_on f hz (t ++ [a]) a a (.inl ⟨by grind, rfl⟩) hl
        generalize hKe : keptA cross (withH f a) ((t ++ [a]).map (withH f)) = K at *
        generalize hJe : keptP cross (withH f a) ((t ++ [a]).map (withH f)) = J at *
        cases J with
        | nil => exact fun d hd => (by cases hd)
        | cons j0 J =>
          simp only [List.cons_append, List.nil_append] at kp
          obtain ⟨e3, e4⟩ := List.cons.inj kp
          subst e3
          intro d hd
          simp only [edges] at hd
          rw [e4] at hd
          exact r.1 d hd
theorem Bd.cut {n k : Nat} {P : List Pt} {e : Pt × Pt} (h : Bd n k P) (he : On k e.1 e.2) (hn : 2 * k + 1 ≤ n) : Bd n k (cutBy P e) := ⟨cutBy_pts h he hn, cutBy_lns h he⟩
theorem Bd.cuts {n k : Nat} (hn : 2 * k + 1 ≤ n) : ∀ (es : List (Pt × Pt)) {P : List Pt}, Bd n k P → (∀ e ∈ es, On k e.1 e.2) → Bd n k (cuts P es)
  | [], _, h, _ => h
  | e :: es, _, h, he => Bd.cuts hn es (h.cut (he e (by simp)) hn) fun d hd => he d (List.mem_cons_of_mem _ hd)
/-! ### tidying -/
theorem edges_last {k : Nat} {z : Pt} {U : List Pt} (hz : lastD z U = z) (h : ∀ e ∈ epath z U, On k e.1 e.2) : ∀ e ∈ edges U, On k e.1 e.2 := by
  cases U with
  | nil => exact fun e he => (by cases he)
  | cons u t =>
    intro e he
    simp only [edges] at he
    rw [epath_append] at he
    simp only [lastD] at hz
    rcases List.mem_append.mp he with he | he
    · exact h e (List.mem_cons_of_mem _ he)
    · simp only [epath, List.mem_singleton] at he
      subst he
      rw [hz]
      exact h (z, u) (by simp [epath])
theorem last_edges {k : Nat} {z : Pt} {U : List Pt} (hz : lastD z U = z) (h : ∀ e ∈ edges U, On k e.1 e.2) : ∀ e ∈ epath z U, On k e.1 e.2 := by
  cases U with
  | nil => exact fun e he => (by cases he)
  | cons u t =>
    intro e he
    simp only [edges] at h
    rw [epath_append] at h
    simp only [lastD] at hz
    rcases List.mem_cons.mp he with he | he
    · subst he
      refine h (z, u) (List.mem_append.mpr (.inr ?_))
      rw [hz]; simp [epath]
    · exact h e (List.mem_append.mpr (.inl he))
theorem unlikeP_on {k : Nat} : ∀ (l : List Pt) (p : Pt), (∀ e ∈ epath p l, On k e.1 e.2) → ∀ e ∈ epath p (unlikeP p l), On k e.1 e.2
  | [], _, h => h
  | b :: t, p, h => by
    have ih := unlikeP_on t b fun e he => h e (List.mem_cons_of_mem _ he)
    simp only [unlikeP]
    by_cases c : b = p
    · rw [if_neg (by simp [c]), List.nil_append]
      subst c
      exact ih
    · rw [if_pos c]
      intro e he
      rcases List.mem_cons.mp he with he | he
      · subst he; exact h (p, b) (by simp [epath])
      · exact ih e he
theorem unlikeC_on {k : Nat} {P : List Pt} (h : ∀ e ∈ edges P, On k e.1 e.2) : ∀ e ∈ edges (unlikeC P), On k e.1 e.2 := by
  unfold unlikeC
  split
  · exact h
  · have q := unlikeP_path (fun _ _ => 0) (fun _ => rfl) P (lastD (0, 0) P)
    refine edges_last (z := lastD (0, 0) P) (by rw [q.2]; exact lastD_self _ _) (unlikeP_on P _ ?_)
    exact last_edges (lastD_self _ _) h
theorem foundP_on {k : Nat} : ∀ (l : List Pt) (s p b : Pt), turn s p b = 0 → p ≠ b → Diff b l → On k s b → (∀ e ∈ epath b l, On k e.1 e.2) → ∀ e ∈ epath s (foundP p (b :: l)), On k e.1 e.2
  | [], _, _, _, _, _, _, _, _, e, he => by simp [foundP, epath] at he
  | d :: t, s, p, b, h, hd, hf, hs, hl, e, he => by
    have hbd : On k b d := hl (b, d) (by simp [epath])
    have hl2 : ∀ e ∈ epath d t, On k e.1 e.2 := fun e he => hl e (List.mem_cons_of_mem _ he)
    simp only [foundP] at he
    by_cases c : turn p b d = 0
    · rw [if_neg (by simp [c]), List.nil_append] at he
      have k2 := line_trans hd h c
      have hsd : On k s d := by
        obtain ⟨A, B, C, sm, x, y⟩ := hbd
        exact ⟨A, B, C, sm, onL_line hf.1 x y (by rw [turn_rot s b d]; exact k2), y⟩
      exact foundP_on t s b d k2 hf.1 hf.2 hsd hl2 e he
    · rw [if_pos c] at he
      rcases List.mem_cons.mp he with he | he
      · subst he; exact hs
      · exact foundP_on t b b d (turn_self b d) hf.1 hf.2 hbd hl2 e he
theorem foundC_on {k : Nat} (u : Pt) (t : List Pt) (hd : Diff (lastD u t) (u :: t ++ [u])) (h : ∀ e ∈ edges (u :: t), On k e.1 e.2) : ∀ e ∈ edges (foundC (u :: t)), On k e.1 e.2 := by
  have hzu := hd.1
  have hz : On k (lastD u t) u := h (lastD u t, u) (by simp only [edges]; rw [epath_append]; simp [epath])
  have A := foundP_path (fun _ _ => 0) (fun _ => True) (fun _ _ _ _ _ _ _ => by grind) (t ++ [u]) (lastD u t) (lastD u t) u (turn_self _ _) hzu hd.2 fun _ _ => trivial
  have B := foundP_first (t ++ [u]) (lastD u t) u (lastD u t) u (turn_start _ _) (turn_end _ _) hzu hd.2
  have D := foundP_on (t ++ [u]) (lastD u t) (lastD u t) u (turn_self _ _) hzu hd.2 hz h
  have eF : foundC (u :: t) = foundP (lastD u t) (u :: (t ++ [u])) := rfl
  have eq : lastD (lastD u t) (u :: (t ++ [u])).dropLast = lastD u t := by
    rw [← List.cons_append, List.dropLast_concat]; rfl
  rw [lastD_append, eq] at A
  obtain ⟨_, q, A2, rfl⟩ := A
  rw [eF]
  generalize foundP (lastD u t) (u :: (t ++ [u])) = F at *
  generalize lastD u t = z at *
  cases F with
  | nil => exact fun e he => (by cases he)
  | cons f F =>
    have B1 := B f rfl
    simp only [lastD] at A2
    intro e he
    simp only [edges] at he
    rw [epath_append] at he
    rcases List.mem_append.mp he with he | he
    · exact D e (List.mem_cons_of_mem _ he)
    · simp only [epath, List.mem_singleton] at he
      subst he
      obtain ⟨A, B, C, sm, x, y⟩ := hz
      exact ⟨A, B, C, sm, onL_line hzu x y (by rw [turn_rot (lastD f F)]; exact A2), onL_line hzu x y B1⟩
theorem found_on {k : Nat} {P : List Pt} (h : ∀ e ∈ edges P, On k e.1 e.2) : ∀ e ∈ edges (foundC (unlikeC P)), On k e.1 e.2 := by
  by_cases h1 : P.length = 1
  · obtain ⟨a, rfl⟩ := List.length_eq_one_iff.mp h1
    have : unlikeC [a] = [a] := rfl
    rw [this]
    have : foundC [a] = [] := by
      simp only [foundC, lastD, foundP, List.cons_append, List.nil_append]
      rw [turn_self]; simp
    rw [this]
    exact fun e he => (by cases he)
  · have q := unlikeC_on h
    cases hU : unlikeC P with
    | nil => exact fun e he => (by cases he)
    | cons u t =>
      rw [hU] at q
      exact foundC_on u t (unlikeC_diff hU h1) q
theorem rotA_on {k : Nat} (i : Nat) {G : List Pt} (h : ∀ e ∈ edges G, On k e.1 e.2) : ∀ e ∈ edges (rotA i G), On k e.1 e.2 := by
  have h' : ∀ e ∈ edges (G.take i ++ G.drop i), On k e.1 e.2 := by rw [List.take_append_drop]; exact h
  unfold rotA
  generalize G.take i = X at *
  generalize G.drop i = Y at *
  cases X with
  | nil => simpa using h'
  | cons x X =>
    cases Y with
    | nil => simpa using h'
    | cons y Y =>
      intro e he
      simp only [List.cons_append, edges, List.append_assoc] at he h'
      rw [epath_append] at he h'
      simp only [epath] at he h'
      rw [epath_append] at he h'
      simp only [epath, List.mem_append, List.mem_cons, List.not_mem_nil, or_false] at he h'
      refine h' e ?_
      rcases he with he | he | he | he
      · exact .inr (.inr (.inl he))
      · exact .inr (.inr (.inr he))
      · exact .inl he
      · exact .inr (.inl he)
theorem Bd.tidy {n k : Nat} {P : List Pt} (c : CC 1 P) (h : Bd n k P) : Bd n k (tidy P) := by
  refine ⟨fun z hz => h.pts z (tidy_mem hz), ?_⟩
  unfold Dial.tidy
  split
  · exact fun e he => (by cases he)
  · refine rotA_on _ ?_
    have hs := share_ge (c.sub (found_sub P))
    unfold fore
    rw [if_neg (by grind)]
    exact found_on h.lns
theorem Bd.both {n k : Nat} (hn : 2 * k + 1 ≤ n) {P Q : List Pt} (c : CC 1 P) (h : Bd n k P) (q : ∀ e ∈ edges Q, On k e.1 e.2) : Bd n k (both P Q) := by
  unfold Dial.both
  split
  · exact ⟨fun z hz => (by cases hz), fun e he => (by cases he)⟩
  · exact Bd.tidy (CC.cuts _ c) (Bd.cuts hn _ h q)
/-- few points: any two lie on a line -/
theorem Bd.of_pts {n m k : Nat} {P : List Pt} (h : ∀ z ∈ P, PHt m z) (hk : 4 * m + 1 ≤ k) (hn : m ≤ n) : Bd n k P := by
  refine ⟨fun z hz => ⟨(h z hz).1.mono hn, (h z hz).2.mono hn⟩, fun e he => ?_⟩
  have mm := edges_mem he
  obtain ⟨A, B, C, s, a, b⟩ := on_two (h _ mm.1) (h _ mm.2)
  exact ⟨A, B, C, ⟨s.1, Nat.lt_of_lt_of_le s.2.1 (two_pow_le hk), Nat.lt_of_lt_of_le s.2.2.1 (two_pow_le hk), Nat.lt_of_lt_of_le s.2.2.2 (two_pow_le hk)⟩, a, b⟩
/-! ### how many corners -/
def downs (g : Aff) : Pt → List Pt → Nat
  | _, [] => 0
  | a, b :: t => (if 0 < g.at a ∧ g.at b < 0 then 1 else 0) + downs g b t
theorem downs_one (g : Aff) : ∀ (l : List Pt) (a : Pt), 1 ≤ downs g a l → ∃ u v, [u, v].Sublist (a :: l) ∧ 0 < g.at u ∧ g.at v < 0
  | [], _, h => by simp [downs] at h
  | b :: t, a, h => by
    simp only [downs] at h
    by_cases c : 0 < g.at a ∧ g.at b < 0
    · exact ⟨a, b, ((List.nil_sublist t).cons_cons b).cons_cons a, c⟩
    · rw [if_neg c, Nat.zero_add] at h
      obtain ⟨u, v, s, k⟩ := downs_one g t b h
      exact ⟨u, v, s.cons a, k⟩
theorem downs_two {L : List Pt} (hV : VD L) (g : Aff) : ∀ (l : List Pt) (a : Pt), (a :: l).Sublist L → downs g a l ≤ 1
  | [], _, _ => by simp [downs]
  | b :: t, a, hs => by
    simp only [downs]
    have ih := downs_two hV g t b ((List.sublist_cons_self a (b :: t)).trans hs)
    by_cases c : 0 < g.at a ∧ g.at b < 0
    · rw [if_pos c]
      by_cases k : 1 ≤ downs g b t
      · exfalso
        obtain ⟨u, v, s, p, q⟩ := downs_one g t b k
        have s2 : [u, v].Sublist t := by
          rcases List.sublist_cons_iff.mp s with s | ⟨r, e, _⟩
          · exact s
          · have : u = b := by simpa using (List.cons.inj e).1
            have := c.2
            grind
        exact hV g a b u v (((s2.cons_cons b).cons_cons a).trans hs) c.1 c.2 p q
      · omega
    · rw [if_neg c]; omega
theorem keptP_len (g : Aff) : ∀ (l : List Pt) (a : Pt), (keptP cross (withH g a) (l.map (withH g))).length ≤ l.length + downs g a l + downs g.neg a l
  | [], _ => by simp [keptP]
  | b :: t, a => by
    have ih := keptP_len g t b
    simp only [List.map_cons, keptP, List.length_append, List.length_cons, downs]
    have h1 : (Dial.here (withH g a)).length ≤ 1 := by
      unfold Dial.here
      split <;> simp
    have h2 : (mids cross (withH g a) (withH g b)).length ≤ (if 0 < g.at a ∧ g.at b < 0 then 1 else 0) + (if 0 < g.neg.at a ∧ g.neg.at b < 0 then 1 else 0) := by
      unfold mids
      split
      · rename_i k
        rcases sgn_cases k with c | c
        · rw [if_pos c]; simp
        · rw [if_pos (show 0 < g.neg.at a ∧ g.neg.at b < 0 by rw [Aff.at_neg, Aff.at_neg]; grind)]; simp
      · simp
    omega
theorem cutBy_len {P : List Pt} (hV : VD P) (e : Pt × Pt) : (cutBy P e).length ≤ P.length + 4 := by
  unfold cutBy
  rw [hts_line]
  generalize lineOf e.1 e.2 = f
  cases P with
  | nil => simp [keptC]
  | cons a t =>
    simp only [List.map_cons, keptC]
    have e2 : t.map (withH f) ++ [withH f a] = (t ++ [a]).map (withH f) := by simp
    rw [e2]
    have k := keptP_len f (t ++ [a]) a
    have dn : ∀ g : Aff, downs g a (t ++ [a]) ≤ 2 := fun g => by
      have q := downs_two hV g t a (List.Sublist.refl _)
      have : ∀ (l : List Pt) (b z : Pt), downs g b (l ++ [z]) ≤ downs g b l + 1 := by
        intro l
        induction l with
        | nil => intro b z; simp only [List.nil_append, downs]; split <;> omega
        | cons c l ih => intro b z; simp only [List.cons_append, downs]; have := ih c z; omega
      have := this t a a
      omega
    have d1 := dn f
    have d2 := dn f.neg
    simp only [List.length_append, List.length_cons, List.length_nil] at k ⊢
    omega
theorem cuts_len : ∀ (es : List (Pt × Pt)) {P : List Pt}, VD P → (cuts P es).length ≤ P.length + 4 * es.length
  | [], _, _ => by simp [cuts]
  | e :: es, P, h => by
    have h1 := cutBy_len h e
    have h2 := cuts_len es (h.cut e)
    show (cuts (cutBy P e) es).length ≤ _
    simp only [List.length_cons]
    omega
theorem edges_len (P : List Pt) : (edges P).length = P.length := by
  cases P with
  | nil => rfl
  | cons a t =>
    have : ∀ (l : List Pt) (b : Pt), (epath b l).length = l.length := by
      intro l
      induction l with
      | nil => intro b; rfl
      | cons c l ih => intro b; simp only [epath, List.length_cons]; rw [ih c]
    simp only [edges, this, List.length_append, List.length_cons, List.length_nil]
theorem tidy_len (P : List Pt) : (tidy P).length ≤ P.length := by
  unfold tidy
  split
  · simp
  · have h := (found_sub P).length_le
    unfold rotA
    rw [List.length_append, List.length_drop, List.length_take]
    have : (fore (foundC (unlikeC P))).length = (foundC (unlikeC P)).length := by
      unfold fore
      split
      · exact List.length_reverse
      · rfl
    omega
theorem both_len {P Q : List Pt} (h : VD P) : (both P Q).length ≤ P.length + 4 * Q.length := by
  unfold both
  split
  · simp
  · have h1 := tidy_len (cuts P (edges Q))
    have h2 := cuts_len (edges Q) h
    rw [edges_len] at h2
    omega
end Dial

set_option Elab.async false
set_option linter.all false
set_option maxRecDepth 100000
set_option maxHeartbeats 4000000
namespace Yd
open PySem PySem.Spec PyProof.Rows L2 Dial
/-! ### the text -/
def topS (i : Nat) : Stmt := PySem.Challenge.pw_dialyard_k77_whole_lit_by_parts.main.body.getD i (.Pass ⟨0, 0, 0, 0⟩)
/-! ### data -/
section
variable {K : PySem.W.Frag} {H H' : Hp}
theorem Same.tup {a : Addr} {xs : List V} (e : Same H H') (h : SqT K H a xs) : SqT K H' a xs := by
  rcases h with (h | ⟨o, h⟩) | h
  · exact .inl (.inl (e _ _ h))
  · exact .inl (.inr ⟨o, e _ _ h⟩)
  · exact .inr h
mutual
theorem dp_same (e : Same H H') : ∀ (d : PyData) (v : V), Dp K H v d → Dp K H' v d
  | .none, _, h => by cases h; exact .non
  | .bool b, _, h => by cases h; exact .bl b
  | .int i, _, h => by cases h; exact .int i
  | .str x, _, h => by cases h; exact .str x
  | .list ds, _, h => by
    cases h with
    | lst hs ha => exact .lst (e.seq hs) (dpAll_same e ds _ ha)
  | .tuple ds, _, h => by
    cases h with
    | tup hs ha => exact .tup (Same.tup e hs) (dpAll_same e ds _ ha)
  | .dict _, _, h => by cases h
theorem dpAll_same (e : Same H H') : ∀ (ds : List PyData) (vs : List V), DpAll K H vs ds → DpAll K H' vs ds
  | [], _, h => by cases h; exact .nil
  | d :: ds, _, h => by
    cases h with
    | cons h1 h2 => exact .cons (dp_same e d _ h1) (dpAll_same e ds _ h2)
end
theorem dpAll_len : ∀ {ds : List PyData} {vs : List V}, DpAll K H vs ds → vs.length = ds.length
  | [], _, h => by cases h; rfl
  | d :: ds, _, h => by
    cases h with
    | cons _ h2 => simp [dpAll_len h2]
theorem dpAll_get : ∀ {ds : List PyData} {vs : List V} {i : Nat} {d : PyData}, DpAll K H vs ds → ds[i]? = some d → ∃ v, vs[i]? = some v ∧ Dp K H v d
  | [], _, _, _, h, e => by simp at e
  | x :: ds, _, 0, d, h, e => by
    cases h with
    | cons h1 _ => simp at e; subst e; exact ⟨_, rfl, h1⟩
  | x :: ds, _, i + 1, d, h, e => by
    cases h with
    | cons _ h2 =>
      obtain ⟨v, a, b⟩ := dpAll_get (i := i) (d := d) h2 (by simpa using e)
      exact ⟨v, by simpa using a, b⟩
theorem dpAll_app : ∀ {ds es : List PyData} {vs ws : List V}, DpAll K H vs ds → DpAll K H ws es → DpAll K H (vs ++ ws) (ds ++ es)
  | [], _, _, _, h, k => by cases h; exact k
  | d :: ds, _, _, _, h, k => by
    cases h with
    | cons h1 h2 => exact .cons h1 (dpAll_app h2 k)
theorem dpAll_take : ∀ (n : Nat) {ds : List PyData} {vs : List V}, DpAll K H vs ds → DpAll K H (vs.take n) (ds.take n)
  | 0, _, _, _ => .nil
  | _ + 1, [], _, h => by cases h; exact .nil
  | n + 1, d :: ds, _, h => by
    cases h with
    | cons h1 h2 => exact .cons h1 (dpAll_take n h2)
theorem dpAll_drop : ∀ (n : Nat) {ds : List PyData} {vs : List V}, DpAll K H vs ds → DpAll K H (vs.drop n) (ds.drop n)
  | 0, _, _, h => h
  | _ + 1, [], _, h => by cases h; exact .nil
  | n + 1, d :: ds, _, h => by
    cases h with
    | cons _ h2 => exact dpAll_drop n h2
theorem dpAll_rev : ∀ {ds : List PyData} {vs : List V}, DpAll K H vs ds → DpAll K H vs.reverse ds.reverse
  | [], _, h => by cases h; exact .nil
  | d :: ds, _, h => by
    cases h with
    | cons h1 h2 =>
      rw [List.reverse_cons, List.reverse_cons]
      exact dpAll_app (dpAll_rev h2) (.cons h1 .nil)
/-- a tuple, a list, taken apart -/
theorem dp_tup {v : V} {ds : List PyData} (h : Dp K H v (.tuple ds)) : ∃ a xs, v = .ref a ∧ SqT K H a xs ∧ DpAll K H xs ds := by
  cases h with
  | tup hs ha => exact ⟨_, _, rfl, hs, ha⟩
theorem dp_lst {v : V} {ds : List PyData} (h : Dp K H v (.list ds)) : ∃ a xs, v = .ref a ∧ SqL K H a xs ∧ DpAll K H xs ds := by
  cases h with
  | lst hs ha => exact ⟨_, _, rfl, hs, ha⟩
theorem dp_int {v : V} {i : Int} (h : Dp K H v (.int i)) : v = .int i := by cases h; rfl
theorem all1 {xs : List V} {a : PyData} (h : DpAll K H xs [a]) : ∃ x, xs = [x] ∧ Dp K H x a := by
  cases h with
  | cons h1 h2 => cases h2; exact ⟨_, rfl, h1⟩
theorem all2 {xs : List V} {a b : PyData} (h : DpAll K H xs [a, b]) : ∃ x y, xs = [x, y] ∧ Dp K H x a ∧ Dp K H y b := by
  cases h with
  | cons h1 h2 =>
    obtain ⟨y, rfl, k⟩ := all1 h2
    exact ⟨_, y, rfl, h1, k⟩
theorem all3 {xs : List V} {a b c : PyData} (h : DpAll K H xs [a, b, c]) : ∃ x y z, xs = [x, y, z] ∧ Dp K H x a ∧ Dp K H y b ∧ Dp K H z c := by
  cases h with
  | cons h1 h2 =>
    obtain ⟨y, z, rfl, k, l⟩ := all2 h2
    exact ⟨_, y, z, rfl, h1, k, l⟩
end
theorem same_new {H : Hp} {p : Addr} (h : H p = none) (o : HO) : Same H (upd H p o) := fun b u q => by rw [upd_ne (ne_of_none q h)]; exact q
/-! ### fractions as data -/
abbrev dR (r : Rat) : PyData := .tuple [.int r.num, .int (r.den : Int)]
theorem dp_rat {K : PySem.W.Frag} {H : Hp} {v : V} {r : Rat} (h : Dp K H v (dR r)) : ∃ a, v = .ref a ∧ SqT K H a [.int r.num, .int (r.den : Int)] := by
  obtain ⟨a, xs, rfl, hs, ha⟩ := dp_tup h
  obtain ⟨x, y, rfl, h1, h2⟩ := all2 ha
  rw [dp_int h1, dp_int h2] at hs
  exact ⟨a, rfl, hs⟩
theorem rat_dp {K : PySem.W.Frag} {H : Hp} {a : Addr} {r : Rat} (h : SqT K H a [.int r.num, .int (r.den : Int)]) : Dp K H (.ref a) (dR r) := .tup h (.cons (.int _) (.cons (.int _) .nil))
/-! ### // of great whole numbers: there is room for the library's own division -/
def noName (K : PySem.W.Frag) (a : Addr) (x : Str) : Bool := match K.lookup a with
  | some o => (match o.data with
    | .dict es _ => es.all (fun e => match e.key with | .str _ _ => true | _ => false) && (nsFind es x).isNone
    | _ => false)
  | none => false
theorem noName_ns {K : PySem.W.Frag} {h : Heap} {a : Addr} {x : Str} (X : K.In h) (e : noName K a x = true) : h.isNs a = true ∧ h.nsMap a x = none := by
  unfold noName at e
  cases hl : K.lookup a with
  | none => rw [hl] at e; cases e
  | some o =>
    rw [hl] at e
    have hg := X a o hl
    unfold Heap.isNs Heap.nsMap
    rw [hg]
    dsimp only at e ⊢
    cases hd : o.data with
    | dict es n =>
      rw [hd] at e
      dsimp only at e ⊢
      rw [Bool.and_eq_true] at e
      refine ⟨e.1, ?_⟩
      cases hf : nsFind es x with
      | none => rfl
      | some v => rw [hf] at e; cases e.2
    | _ => rw [hd] at e; cases e
theorem seer_of {K : PySem.W.Frag} {base : Heap} {mg : Str → Option Value} (M : Mod K mg base) {bm : Addr} {ob : Obj} (s1 : noName K sysModules "_pylong" = true) (s2 : noName K cStatics "sys.audit-hooks" = true) (s3 : noName K cStatics "sys.dict" = true)
    (g1 : mg "__builtins__" = some (.ref bm)) (g2 : K.lookup bm = some ob) (g3 : ob.cls = .type "module") (g4 : ob.dict = some builtinsNs) : base.NoSeer where
  statics := ⟨_, .of_isNs (noName_ns M.kin s2).1, (noName_ns M.kin s2).2, (noName_ns M.kin s3).2⟩
  mods := ⟨_, .of_isNs (noName_ns M.kin s1).1, (noName_ns M.kin s1).2⟩
  imp := M.blt
  main := ⟨mg, bm, ob, M.glob, g1, M.kin bm ob g2, g3, g4⟩
/-- what is asked for // of any size -/
structure Roomy (X : Cx) : Prop where
  seer : X.base.NoSeer
  tree : X.prog.given.tree = none
  deep : X.A.depth + Builtin.pylongFrames < recursionLimit
  stk : ∃ l, X.stack = X.env :: l
  gen : X.env.scope.isGenerator = false
  co : X.env.scope.isCoroutine = false
theorem op_fdivR {X : Cx} (R : Roomy X) : OpR X (binaryOp .FloorDiv) (rI (fun _ j => j ≠ 0) fun i j => .int (i.fdiv j)) := by
  intro pins s σ H x y v u Q I rx ry h
  obtain ⟨i, j, rfl, rfl, hc, q⟩ := h
  obtain ⟨t, rfl⟩ := rx
  obtain ⟨t', rfl⟩ := ry
  obtain ⟨l, hl⟩ := R.stk
  refine floordiv_int hc ⟨.int (i.fdiv j), H, I.tok _, ⟨_, rfl⟩, q⟩ (.inr ?_)
  exact PylongRoom.of I.nolimit R.deep (SeerAt.of (R.seer.keeps I.bk) R.tree (by rw [I.ok.frames, hl]) R.gen R.co I.ok.blt I.ok.glob)
/-- * of two whole numbers of together less than a hundred million bits -/
def CMulG (i j : Int) : Prop := i.natAbs.log2 + j.natAbs.log2 < 130000000
theorem CMulG.ok {i j : Int} (h : CMulG i j) : IntMulOk i j := by
  have b : ∀ x : Int, Builtin.Int.intBits x ≤ x.natAbs.log2 + 1 := fun x => by
    unfold Builtin.Int.intBits
    split <;> omega
  have h1 := b i
  have h2 := b j
  unfold CMulG at h
  have e : bitsLine = 134217728 := by decide
  intro z
  obtain ⟨_, z2⟩ := Bool.and_eq_true_iff.mp z
  unfold Builtin.Int.intTooBig at z2
  have z3 := of_decide_eq_true z2
  rw [e] at z3
  omega
theorem op_mulG {X : Cx} : OpR X (binaryOp .Mult) (rI CMulG fun i j => .int (i * j)) := opI fun _ _ _ _ _ _ _ hc q => mul_int q hc.ok
/-- sizes: a fraction of less than sixty million bits -/
def big : Nat := 60000000
abbrev Sz (x : Rat) : Prop := Ht big x
theorem log2_small {x n : Nat} (h : x < 2 ^ n) : x.log2 ≤ n := by
  by_cases h0 : x = 0
  · subst h0; rw [show Nat.log2 0 = 0 from by decide]; exact Nat.zero_le _
  · exact Nat.le_of_lt ((Nat.log2_lt h0).mpr h)
theorem mulG {a b : Int} {n m : Nat} (h : a.natAbs < 2 ^ n) (k : b.natAbs < 2 ^ m) (e : n + m < 130000000) : CMulG a b := by
  have h1 := log2_small h
  have h2 := log2_small k
  unfold CMulG
  omega
theorem big2 : big + big < 130000000 := by unfold big; omega
theorem sz_nn {x y : Rat} (h : Sz x) (k : Sz y) : CMulG x.num y.num := mulG h.1 k.1 big2
theorem sz_nd {x y : Rat} (h : Sz x) (k : Sz y) : CMulG x.num (y.den : Int) := mulG h.1 (by rw [Int.natAbs_natCast]; exact k.2) big2
theorem sz_dn {x y : Rat} (h : Sz x) (k : Sz y) : CMulG (x.den : Int) y.num := mulG (by rw [Int.natAbs_natCast]; exact h.2) k.1 big2
theorem sz_dd {x y : Rat} (h : Sz x) (k : Sz y) : CMulG (x.den : Int) (y.den : Int) := mulG (by rw [Int.natAbs_natCast]; exact h.2) (by rw [Int.natAbs_natCast]; exact k.2) big2
end Yd

set_option Elab.async false
set_option linter.all false
set_option maxRecDepth 100000
set_option maxHeartbeats 4000000
namespace Yd
open PySem PySem.Spec PyProof.Rows L2 Dial
/-! ### defs that may be called -/
structure Df (K : PySem.W.Frag) (mg : Str → Option Value) (x : Str) (st : Stmt) (ps : List Str) : Prop where
  ex : ∃ (f : Addr) (fd : FuncData), Fun K x x st f fd ∧ mg x = some (.ref f) ∧ Binds K fd ps []
structure Has (P : Program) (w : World) (K : PySem.W.Frag) (mg : Str → Option Value) (base : Heap) (k : Nat) (x : Str) (sp : Sp) : Prop where
  ex : ∃ (f : Addr) (fd : FuncData) (ps : List Str), FnOk P w K mg base CX0 k f fd ps sp ∧ mg x = some (.ref f) ∧ PySem.W.keepIn K (.ref f) = true ∧ Binds K fd ps []
section
variable {P : Program} {w : World} {K : PySem.W.Frag} {mg : Str → Option Value} {base : Heap}
theorem has0 {x : Str} {st : Stmt} {N ps : List Str} {k : Nat} {sp : Sp} (D : Df K mg x st ps) (S : FnScope N ps (defScope st)) (len : ∀ vs H Q E, sp vs H Q E → vs.length = ps.length)
    (hbody : ∀ (f : Addr) (cdv : Value) (A : Around) (outer : List Env) (s : Shared) (H : Hp) (vs : List V) (Q : VK) (E : XK), Room k (A.deeper (envOfC x (defScope st) s.heap.objs.size f cdv)) → sp vs H Q E →
      ∃ t, PSs (cxOf CX0 P w K mg base N x (defScope st) f cdv A outer s H E).nox (defBody st) t ∧ t { nx := fun _ H' => Q .non H', rt := Q } (start N vs) H) : Has P w K mg base (k + 1) x sp := by
  obtain ⟨f, fd, F, m, b⟩ := D.ex
  exact ⟨f, fd, ps, F.ok S len (hbody f), m, F.kp, b⟩
theorem Has.mono {j k : Nat} {x : Str} {sp : Sp} (h : Has P w K mg base j x sp) (e : j ≤ k) : Has P w K mg base k x sp := by
  obtain ⟨f, fd, ps, F, m, kp, b⟩ := h.ex
  exact ⟨f, fd, ps, F.mono e, m, kp, b⟩
theorem Has.imp {k : Nat} {x : Str} {sp sp' : Sp} (h : Has P w K mg base k x sp) (e : ∀ vs H Q E, sp' vs H Q E → sp vs H Q E) : Has P w K mg base k x sp' := by
  obtain ⟨f, fd, ps, F, m, kp, b⟩ := h.ex
  exact ⟨f, fd, ps, F.imp e, m, kp, b⟩
end
theorem pe_h {X : Cx} {k j : Nat} {x : Str} {sp : Sp} {p pos : Pos} {e : Expr} {es : List Expr} {t : TA} (c : Has X.prog X.w X.K X.mg X.base k x sp) (hr : Room j X.A) (hk : k ≤ j) (hg : Gl X x) (ha : PA X (e :: es) t)
    (hdb : (x == ("__debug__" : Str)) = false := by decide) (he : starEach (e :: es) X.env = (false, eval e X.env) :: starEach es X.env := by rfl) (hpl : (backTo pos (starEach es X.env)).any (·.1) = false := by rfl) :
    PE X (.Call (.Name x p) (e :: es) [] pos) (tCall sp [] E0 t) := by
  obtain ⟨f, fd, ps, F, m, kp, b⟩ := c.ex
  exact pe_call F (hr.mono hk) hg m kp b .nil pass0 ha hdb he hpl
/-- what a def gives back: data in a heap in which all stands that stood -/
abbrev Gives (K : PySem.W.Frag) (H : Hp) (Q : VK) (d : PyData) : Prop := ∀ v H', Same H H' → Dp K H' v d → Q v H'
/-! ### ratios -/
abbrev sWhole : Stmt := topS 7
abbrev sDivisor : Stmt := topS 8
abbrev sRatioOf : Stmt := topS 9
abbrev sSum : Stmt := topS 10
abbrev sLess : Stmt := topS 11
abbrev sTimes : Stmt := topS 12
abbrev sBy : Stmt := topS 13
abbrev sUnder : Stmt := topS 14
def spWhole : Sp := fun vs H Q _ => ∃ i : Int, vs = [.int i] ∧ Q (.bl true) H
def spDivisor : Sp := fun vs H Q _ => ∃ a b : Int, vs = [.int a, .int b] ∧ Q (.int (Int.gcd a b : Nat)) H
def spRatioOf (K : PySem.W.Frag) : Sp := fun vs H Q _ => ∃ a b : Int, vs = [.int a, .int b] ∧ b ≠ 0 ∧ Gives K H Q (dR (Rat.divInt a b))
def spRat2 (K : PySem.W.Frag) (C : Rat → Rat → Prop) (f : Rat → Rat → Rat) : Sp := fun vs H Q _ => ∃ (v u : V) (x y : Rat), vs = [v, u] ∧ Dp K H v (dR x) ∧ Dp K H u (dR y) ∧ Sz x ∧ Sz y ∧ C x y ∧ Gives K H Q (dR (f x y))
def spUnder (K : PySem.W.Frag) : Sp := fun vs H Q _ => ∃ (v u : V) (x y : Rat), vs = [v, u] ∧ Dp K H v (dR x) ∧ Dp K H u (dR y) ∧ Sz x ∧ Sz y ∧ Q (.bl (decide (x < y))) H
/-! the mathematics of the greatest divisor -/
theorem gcd_step {a b : Int} (hb : b ≠ 0) : Int.gcd b (a.fmod b) = Int.gcd a b := by
  have e : a.fmod b = a - b * a.fdiv b := Int.fmod_def a b
  rw [e, Int.gcd_comm a b]
  have : a - b * a.fdiv b = a + b * (-(a.fdiv b)) := by rw [Int.mul_neg]; omega
  rw [this, Int.gcd_add_mul_left_right]
theorem fmod_less {a b : Int} (hb : b ≠ 0) : (a.fmod b).natAbs < b.natAbs := by
  by_cases c : 0 < b
  · have h1 := Int.fmod_nonneg_of_pos a c
    have h2 := Int.fmod_lt_of_pos a c
    omega
  · have e : a.fmod b = -((-a).fmod (-b)) := by rw [Int.neg_fmod_neg]; omega
    have h1 := Int.fmod_nonneg_of_pos (-a) (b := -b) (by omega)
    have h2 := Int.fmod_lt_of_pos (-a) (b := -b) (by omega)
    rw [e]; omega
theorem div_num {a b : Int} (hb : b ≠ 0) : (Rat.divInt a b).num = a.fdiv (if b < 0 then -((Int.gcd a b : Nat) : Int) else (Int.gcd a b : Nat)) ∧ ((Rat.divInt a b).den : Int) = b.fdiv (if b < 0 then -((Int.gcd a b : Nat) : Int) else (Int.gcd a b : Nat)) := by
  have hg : (Int.gcd a b) ≠ 0 := fun z => hb (Int.eq_zero_of_gcd_eq_zero_right z)
  have hgi : ((Int.gcd a b : Nat) : Int) ≠ 0 := by omega
  have da : ((Int.gcd a b : Nat) : Int) ∣ a := Int.gcd_dvd_left ..
  have db : ((Int.gcd a b : Nat) : Int) ∣ b := Int.gcd_dvd_right ..
  obtain ⟨p, hp⟩ := da
  obtain ⟨q, hq⟩ := db
  rw [Rat.num_divInt, Rat.den_divInt, if_neg hb]
  generalize hG : ((Int.gcd a b : Nat) : Int) = g at *
  have hgc : ((Int.gcd b a : Nat) : Int) = g := by rw [Int.gcd_comm, hG]
  have gpos : 0 < g := by omega
  have hgn : Int.gcd b a = g.toNat := by omega
  constructor
  · by_cases c : b < 0
    · rw [if_pos c, Int.sign_eq_neg_one_of_neg c, hgc, hp]
      rw [show g * p = (-g) * (-p) by rw [Int.neg_mul_neg], Int.mul_fdiv_cancel_left _ (by omega)]
      rw [show (-1 : Int) * ((-g) * (-p)) = g * (-p) by grind, Int.mul_ediv_cancel_left _ (by omega)]
    · rw [if_neg c, Int.sign_eq_one_of_pos (by omega), hgc, hp]
      rw [Int.mul_fdiv_cancel_left _ (by omega), Int.one_mul, Int.mul_ediv_cancel_left _ (by omega)]
  · rw [hgn]
    by_cases c : b < 0
    · rw [if_pos c]
      have hqn : q < 0 := by
        by_cases c2 : q < 0
        · exact c2
        · have : 0 ≤ g * q := Int.mul_nonneg (by omega) (by omega)
          omega
      have eb : b.natAbs = g.toNat * (-q).toNat := by
        have h1 : (b.natAbs : Int) = -b := by omega
        have h2 : ((g.toNat * (-q).toNat : Nat) : Int) = g * (-q) := by rw [Int.natCast_mul]; rw [Int.toNat_of_nonneg (by omega), Int.toNat_of_nonneg (by omega)]
        have h3 : g * (-q) = -b := by rw [hq]; grind
        omega
      rw [eb, Nat.mul_div_cancel_left _ (by omega)]
      rw [hq, show g * q = (-g) * (-q) by rw [Int.neg_mul_neg], Int.mul_fdiv_cancel_left _ (by omega)]
      omega
    · rw [if_neg c]
      have hqn : 0 < q := by
        by_cases c2 : 0 < q
        · exact c2
        · have : 0 ≤ g * (-q) := Int.mul_nonneg (by omega) (by omega)
          have : g * (-q) = -b := by rw [hq]; grind
          omega
      have eb : b.natAbs = g.toNat * q.toNat := by
        have h1 : (b.natAbs : Int) = b := by omega
        have h2 : ((g.toNat * q.toNat : Nat) : Int) = g * q := by rw [Int.natCast_mul]; rw [Int.toNat_of_nonneg (by omega), Int.toNat_of_nonneg (by omega)]
        omega
      rw [eb, Nat.mul_div_cancel_left _ (by omega)]
      rw [hq, Int.mul_fdiv_cancel_left _ (by omega)]
      omega
theorem sum_int (x y : Rat) : Rat.divInt (x.num * (y.den : Int) + y.num * (x.den : Int)) ((x.den : Int) * (y.den : Int)) = x + y := by
  rw [Rat.add_def', ← Rat.divInt_ofNat, Int.natCast_mul]
theorem less_int (x y : Rat) : Rat.divInt (x.num * (y.den : Int) - y.num * (x.den : Int)) ((x.den : Int) * (y.den : Int)) = x - y := by
  rw [Rat.sub_def', ← Rat.divInt_ofNat, Int.natCast_mul]
theorem times_int (x y : Rat) : Rat.divInt (x.num * y.num) ((x.den : Int) * (y.den : Int)) = x * y := by
  rw [Rat.mul_def', ← Rat.divInt_ofNat, Int.natCast_mul]
theorem by_int (x y : Rat) : Rat.divInt (x.num * (y.den : Int)) ((x.den : Int) * y.num) = x / y := by
  rw [Rat.div_def, ← Rat.divInt_mul_divInt, Rat.num_divInt_den, ← Rat.inv_divInt, Rat.num_divInt_den]
theorem den_ne (x : Rat) : ((x.den : Nat) : Int) ≠ 0 := by have := x.den_nz; omega
section
variable {P : Program} {w : World} {K : PySem.W.Frag} {mg : Str → Option Value} {base : Heap}
theorem ok_whole (D : Df K mg "is_whole" sWhole ["thing"]) (mI : mg "isinstance" = none) (mi : mg "int" = none) (mb : mg "bool" = none) : Has P w K mg base 1 "is_whole" spWhole := by
  have S : FnScope ["thing"] ["thing"] (defScope sWhole) := ⟨rfl, rfl, rfl, by decide +kernel, rfl, by decide +kernel, by decide +kernel⟩
  refine has0 D S (by rintro _ _ _ _ ⟨_, rfl, _⟩; rfl) (fun f cdv A outer s H vs Q E hr h => ?_)
  obtain ⟨i, rfl, q⟩ := h
  refine ⟨_, pss_one (ps_ret (pe_and (pe_callB call_isi (by rfl) mI (by decide +kernel) (pa_cons (pv 0) (pa_cons (pe_bltn (v := .ty "int") (u := .type "int") (by rfl) mi (by decide +kernel) rfl) pa_nil)))
    (pe_one (pe_not (pe_callB call_isi (by rfl) mI (by decide +kernel) (pa_cons (pv 0) (pa_cons (pe_bltn (v := .ty "bool") (u := .type "bool") (by rfl) mb (by decide +kernel) rfl) pa_nil))))))), ?_⟩
  refine ⟨_, rfl, _, _, _, _, true, rfl, .ty _, .base (.int i), kit_ty (by decide +kernel), true, rfl, ?_⟩
  refine iteT ?_
  exact ⟨_, rfl, _, _, _, _, false, rfl, .ty _, .base (.int i), kit_ty (by decide +kernel), false, rfl, q⟩
theorem ok_divisor (D : Df K mg "divisor_of" sDivisor ["one", "other"]) (ma : mg "abs" = none) : Has P w K mg base 1 "divisor_of" spDivisor := by
  have S : FnScope ["one", "other"] ["one", "other"] (defScope sDivisor) := ⟨rfl, rfl, rfl, by decide +kernel, rfl, by decide +kernel, by decide +kernel⟩
  refine has0 D S (by rintro _ _ _ _ ⟨_, _, rfl, _⟩; rfl) (fun f cdv A outer s H vs Q E hr h => ?_)
  obtain ⟨a, b, rfl, q⟩ := h
  refine ⟨_, pss_cons (ps_while PassesOwn.never (pt_cmpR op_ne (pv 1) pe_int (nomark _)) (pss_one (ps_par (i := 0) (j := 1) rfl S.nd rfl rfl (by decide) rfl rfl (pa_cons (pv 1) (pa_cons (pe_op op_modN (pv 0) (pv 1)) pa_nil)) (by rfl))))
    (pss_one (ps_ret (pe_callB call_abs (by rfl) ma (by decide +kernel) (pa_cons (pv 0) pa_nil)))), ?_⟩
  refine while_by (fun σ H' => H' = H ∧ ∃ x y : Int, σ = [some (.int x), some (.int y)] ∧ Int.gcd x y = Int.gcd a b) (fun σ _ => match σ with | [_, some (.int y)] => y.natAbs | _ => 0) ⟨rfl, a, b, rfl, rfl⟩ ?hs ?hm
  case hm =>
    intro σ H Q Q' m h
    obtain ⟨v, e, e1, k, e2, z⟩ := h
    exact ⟨v, e, e1, k, e2, m _ _ z⟩
  rintro σ H' ⟨rfl, x, y, rfl, hg⟩
  refine ⟨_, rfl, rfl, _, rfl, ?_⟩
  by_cases c : y = 0
  · subst c
    rw [decide_eq_true rfl]
    refine iteF ?_
    refine ⟨_, rfl, x, rfl, ?_⟩
    have e : (if x < 0 then -x else x) = ((Int.gcd a b : Nat) : Int) := by
      rw [← hg, Int.gcd_zero]
      split <;> omega
    rw [e]; exact q
  · have c2 : ¬ (V.int y = V.int 0) := fun z => c (V.int.inj z)
    rw [decide_eq_false c2]
    refine iteT ?_
    refine ⟨_, rfl, _, rfl, _, rfl, x, y, rfl, rfl, c, _, _, rfl, ⟨rfl, y, _, rfl, ?_⟩, ?_⟩
    · rw [gcd_step c]; exact hg
    · exact fmod_less c
theorem ok_ratioOf (D : Df K mg "ratio_of" sRatioOf ["top", "bottom"]) (hW : Has P w K mg base 1 "is_whole" spWhole) (hD : Has P w K mg base 1 "divisor_of" spDivisor) (hN : base.NoSeer) (hT : P.given.tree = none) : Has P w K mg base 41 "ratio_of" (spRatioOf K) := by
  have S : FnScope ["top", "bottom", "by"] ["top", "bottom"] (defScope sRatioOf) := ⟨rfl, rfl, rfl, by decide +kernel, rfl, by decide +kernel, by decide +kernel⟩
  refine has0 D S (by rintro _ _ _ _ ⟨_, _, rfl, _⟩; rfl) (fun f cdv A outer s H vs Q E hr h => ?_)
  obtain ⟨a, b, rfl, hb, q⟩ := h
  have R : Roomy (cxOf CX0 P w K mg base ["top", "bottom", "by"] "ratio_of" (defScope sRatioOf) f cdv A outer s H E).nox :=
    ⟨hN, hT, by have := hr.dp; show (A.deeper _).depth + 100 < recursionLimit; omega, ⟨_, rfl⟩, rfl, rfl⟩
  refine ⟨_, pss_cons (ps_if (PW.pt (pw_or (pt_not (pt_val (pe_h hW hr (by decide) (by rfl) (pa_cons (pv 0) pa_nil)))) (pw_or (pt_not (pt_val (pe_h hW hr (by decide) (by rfl) (pa_cons (pv 1) pa_nil)))) (pw_or1 (pt_cmpR op_eq (pv 1) pe_int (nomark _)))))) pss_never pss_nil)
    (pss_cons (ps_set (i := 2) S.nd rfl (.inl rfl) (pe_h hD hr (by decide) (by rfl) (pa_cons (pv 0) (pa_cons (pv 1) pa_nil))))
    (pss_cons (ps_if (pt_cmpR op_lt (pv 1) pe_int (nomark _)) (pss_one (ps_set (i := 2) S.nd rfl (.inl rfl) (pe_un un_neg (pv 2)))) pss_nil)
    (pss_one (ps_ret (pe_tup (pa_cons (pe_op (op_fdivR R) (pv 0) (pv 2)) (pa_cons (pe_op (op_fdivR R) (pv 1) (pv 2)) pa_nil))))))), ?_⟩
  refine ⟨_, rfl, a, rfl, true, rfl, ?_⟩
  refine iteF ?_
  refine ⟨_, rfl, b, rfl, true, rfl, ?_⟩
  refine iteF ?_
  have c2 : ¬ (V.int b = V.int 0) := fun z => hb (V.int.inj z)
  refine ⟨_, rfl, rfl, _, rfl, ?_⟩
  rw [decide_eq_false c2]
  refine iteF ?_
  have hg : (Int.gcd a b) ≠ 0 := fun z => hb (Int.eq_zero_of_gcd_eq_zero_right z)
  obtain ⟨d1, d2⟩ := div_num (a := a) hb
  refine ⟨_, rfl, _, rfl, a, b, rfl, ?_⟩
  refine ⟨_, rfl, _, _, rfl, rfl, _, rfl, ite2 (fun c => ?_) (fun c => ?_)⟩
  · have c' : b < 0 := of_decide_eq_true c
    rw [if_pos c'] at d1 d2
    refine ⟨_, rfl, _, rfl, ?_⟩
    refine ⟨_, rfl, _, rfl, _, _, rfl, rfl, by omega, _, rfl, _, rfl, _, _, rfl, rfl, by omega, (by show 2 ≤ sizeLine; decide), fun p hp => ?_⟩
    refine q _ _ (same_new hp _) (rat_dp ?_)
    rw [d1, d2]
    exact SqT.of upd_same
  · have c' : ¬ b < 0 := of_decide_eq_false (Bool.eq_false_iff.mpr c)
    rw [if_neg c'] at d1 d2
    refine ⟨_, rfl, _, rfl, _, _, rfl, rfl, by omega, _, rfl, _, rfl, _, _, rfl, rfl, by omega, (by show 2 ≤ sizeLine; decide), fun p hp => ?_⟩
    refine q _ _ (same_new hp _) (rat_dp ?_)
    rw [d1, d2]
    exact SqT.of upd_same
end
end Yd

set_option Elab.async false
set_option linter.all false
set_option maxRecDepth 100000
set_option maxHeartbeats 4000000
namespace Yd
open PySem PySem.Spec PyProof.Rows L2 Dial
section
variable {P : Program} {w : World} {K : PySem.W.Frag} {mg : Str → Option Value} {base : Heap}
theorem ok_ratio_sum (D : Df K mg "ratio_sum" sSum ["one", "other"]) (hR : Has P w K mg base 41 "ratio_of" (spRatioOf K)) : Has P w K mg base 42 "ratio_sum" (spRat2 K (fun _ _ => True) (fun x y => x + y)) := by
  have S : FnScope ["one", "other"] ["one", "other"] (defScope sSum) := ⟨rfl, rfl, rfl, by decide +kernel, rfl, by decide +kernel, by decide +kernel⟩
  refine has0 D S (by rintro _ _ _ _ ⟨_, _, _, _, rfl, _⟩; rfl) (fun f cdv A outer s H vs Q E hr h => ?_)
  obtain ⟨v, u, x, y, rfl, hx, hy, zx, zy, hc, q⟩ := h
  obtain ⟨a, rfl, sa⟩ := dp_rat hx
  obtain ⟨b, rfl, sb⟩ := dp_rat hy
  refine ⟨_, pss_one (ps_ret (pe_h hR hr (by decide) (by rfl) (pa_cons (pe_op op_add (pe_op op_mulG (pe_ix ix_tup (pv 0) pe_int (fun _ _ => rfl)) (pe_ix ix_tup (pv 1) pe_int (fun _ _ => rfl))) (pe_op op_mulG (pe_ix ix_tup (pv 1) pe_int (fun _ _ => rfl)) (pe_ix ix_tup (pv 0) pe_int (fun _ _ => rfl)))) (pa_cons (pe_op op_mulG (pe_ix ix_tup (pv 0) pe_int (fun _ _ => rfl)) (pe_ix ix_tup (pv 1) pe_int (fun _ _ => rfl))) pa_nil)))), ?_⟩
  refine ⟨_, rfl, a, _, 0, _, rfl, rfl, sa, atI_nat (j := 0) rfl, _, rfl, b, _, 1, _, rfl, rfl, sb, atI_nat (j := 1) rfl, _, _, rfl, rfl, sz_nd zx zy, _, rfl, b, _, 0, _, rfl, rfl, sb, atI_nat (j := 0) rfl, _, rfl, a, _, 1, _, rfl, rfl, sa, atI_nat (j := 1) rfl, _, _, rfl, rfl, sz_nd zy zx, _, _, rfl, rfl, ?_⟩
  refine ⟨_, rfl, a, _, 1, _, rfl, rfl, sa, atI_nat (j := 1) rfl, _, rfl, b, _, 1, _, rfl, rfl, sb, atI_nat (j := 1) rfl, _, _, rfl, rfl, sz_dd zx zy, _, _, rfl, Int.mul_ne_zero (den_ne x) (den_ne y), fun v' H' sm d => q v' H' sm ?_⟩
  rw [sum_int] at d
  exact d
theorem ok_ratio_less (D : Df K mg "ratio_less" sLess ["one", "other"]) (hR : Has P w K mg base 41 "ratio_of" (spRatioOf K)) : Has P w K mg base 42 "ratio_less" (spRat2 K (fun _ _ => True) (fun x y => x - y)) := by
  have S : FnScope ["one", "other"] ["one", "other"] (defScope sLess) := ⟨rfl, rfl, rfl, by decide +kernel, rfl, by decide +kernel, by decide +kernel⟩
  refine has0 D S (by rintro _ _ _ _ ⟨_, _, _, _, rfl, _⟩; rfl) (fun f cdv A outer s H vs Q E hr h => ?_)
  obtain ⟨v, u, x, y, rfl, hx, hy, zx, zy, hc, q⟩ := h
  obtain ⟨a, rfl, sa⟩ := dp_rat hx
  obtain ⟨b, rfl, sb⟩ := dp_rat hy
  refine ⟨_, pss_one (ps_ret (pe_h hR hr (by decide) (by rfl) (pa_cons (pe_op op_sub (pe_op op_mulG (pe_ix ix_tup (pv 0) pe_int (fun _ _ => rfl)) (pe_ix ix_tup (pv 1) pe_int (fun _ _ => rfl))) (pe_op op_mulG (pe_ix ix_tup (pv 1) pe_int (fun _ _ => rfl)) (pe_ix ix_tup (pv 0) pe_int (fun _ _ => rfl)))) (pa_cons (pe_op op_mulG (pe_ix ix_tup (pv 0) pe_int (fun _ _ => rfl)) (pe_ix ix_tup (pv 1) pe_int (fun _ _ => rfl))) pa_nil)))), ?_⟩
  refine ⟨_, rfl, a, _, 0, _, rfl, rfl, sa, atI_nat (j := 0) rfl, _, rfl, b, _, 1, _, rfl, rfl, sb, atI_nat (j := 1) rfl, _, _, rfl, rfl, sz_nd zx zy, _, rfl, b, _, 0, _, rfl, rfl, sb, atI_nat (j := 0) rfl, _, rfl, a, _, 1, _, rfl, rfl, sa, atI_nat (j := 1) rfl, _, _, rfl, rfl, sz_nd zy zx, _, _, rfl, rfl, ?_⟩
  refine ⟨_, rfl, a, _, 1, _, rfl, rfl, sa, atI_nat (j := 1) rfl, _, rfl, b, _, 1, _, rfl, rfl, sb, atI_nat (j := 1) rfl, _, _, rfl, rfl, sz_dd zx zy, _, _, rfl, Int.mul_ne_zero (den_ne x) (den_ne y), fun v' H' sm d => q v' H' sm ?_⟩
  rw [less_int] at d
  exact d
theorem ok_ratio_times (D : Df K mg "ratio_times" sTimes ["one", "other"]) (hR : Has P w K mg base 41 "ratio_of" (spRatioOf K)) : Has P w K mg base 42 "ratio_times" (spRat2 K (fun _ _ => True) (fun x y => x * y)) := by
  have S : FnScope ["one", "other"] ["one", "other"] (defScope sTimes) := ⟨rfl, rfl, rfl, by decide +kernel, rfl, by decide +kernel, by decide +kernel⟩
  refine has0 D S (by rintro _ _ _ _ ⟨_, _, _, _, rfl, _⟩; rfl) (fun f cdv A outer s H vs Q E hr h => ?_)
  obtain ⟨v, u, x, y, rfl, hx, hy, zx, zy, hc, q⟩ := h
  obtain ⟨a, rfl, sa⟩ := dp_rat hx
  obtain ⟨b, rfl, sb⟩ := dp_rat hy
  refine ⟨_, pss_one (ps_ret (pe_h hR hr (by decide) (by rfl) (pa_cons (pe_op op_mulG (pe_ix ix_tup (pv 0) pe_int (fun _ _ => rfl)) (pe_ix ix_tup (pv 1) pe_int (fun _ _ => rfl))) (pa_cons (pe_op op_mulG (pe_ix ix_tup (pv 0) pe_int (fun _ _ => rfl)) (pe_ix ix_tup (pv 1) pe_int (fun _ _ => rfl))) pa_nil)))), ?_⟩
  refine ⟨_, rfl, a, _, 0, _, rfl, rfl, sa, atI_nat (j := 0) rfl, _, rfl, b, _, 0, _, rfl, rfl, sb, atI_nat (j := 0) rfl, _, _, rfl, rfl, sz_nn zx zy, ?_⟩
  refine ⟨_, rfl, a, _, 1, _, rfl, rfl, sa, atI_nat (j := 1) rfl, _, rfl, b, _, 1, _, rfl, rfl, sb, atI_nat (j := 1) rfl, _, _, rfl, rfl, sz_dd zx zy, _, _, rfl, Int.mul_ne_zero (den_ne x) (den_ne y), fun v' H' sm d => q v' H' sm ?_⟩
  rw [times_int] at d
  exact d
theorem ok_ratio_by (D : Df K mg "ratio_by" sBy ["one", "other"]) (hR : Has P w K mg base 41 "ratio_of" (spRatioOf K)) : Has P w K mg base 42 "ratio_by" (spRat2 K (fun _ y => y ≠ 0) (fun x y => x / y)) := by
  have S : FnScope ["one", "other"] ["one", "other"] (defScope sBy) := ⟨rfl, rfl, rfl, by decide +kernel, rfl, by decide +kernel, by decide +kernel⟩
  refine has0 D S (by rintro _ _ _ _ ⟨_, _, _, _, rfl, _⟩; rfl) (fun f cdv A outer s H vs Q E hr h => ?_)
  obtain ⟨v, u, x, y, rfl, hx, hy, zx, zy, hc, q⟩ := h
  obtain ⟨a, rfl, sa⟩ := dp_rat hx
  obtain ⟨b, rfl, sb⟩ := dp_rat hy
  refine ⟨_, pss_one (ps_ret (pe_h hR hr (by decide) (by rfl) (pa_cons (pe_op op_mulG (pe_ix ix_tup (pv 0) pe_int (fun _ _ => rfl)) (pe_ix ix_tup (pv 1) pe_int (fun _ _ => rfl))) (pa_cons (pe_op op_mulG (pe_ix ix_tup (pv 0) pe_int (fun _ _ => rfl)) (pe_ix ix_tup (pv 1) pe_int (fun _ _ => rfl))) pa_nil)))), ?_⟩
  refine ⟨_, rfl, a, _, 0, _, rfl, rfl, sa, atI_nat (j := 0) rfl, _, rfl, b, _, 1, _, rfl, rfl, sb, atI_nat (j := 1) rfl, _, _, rfl, rfl, sz_nd zx zy, ?_⟩
  refine ⟨_, rfl, a, _, 1, _, rfl, rfl, sa, atI_nat (j := 1) rfl, _, rfl, b, _, 0, _, rfl, rfl, sb, atI_nat (j := 0) rfl, _, _, rfl, rfl, sz_dn zx zy, _, _, rfl, Int.mul_ne_zero (den_ne x) (fun z => hc (Rat.num_eq_zero.mp z)), fun v' H' sm d => q v' H' sm ?_⟩
  rw [by_int] at d
  exact d
theorem ok_under (D : Df K mg "is_under" sUnder ["one", "other"]) : Has P w K mg base 1 "is_under" (spUnder K) := by
  have S : FnScope ["one", "other"] ["one", "other"] (defScope sUnder) := ⟨rfl, rfl, rfl, by decide +kernel, rfl, by decide +kernel, by decide +kernel⟩
  refine has0 D S (by rintro _ _ _ _ ⟨_, _, _, _, rfl, _⟩; rfl) (fun f cdv A outer s H vs Q E hr h => ?_)
  obtain ⟨v, u, x, y, rfl, hx, hy, zx, zy, q⟩ := h
  obtain ⟨a, rfl, sa⟩ := dp_rat hx
  obtain ⟨b, rfl, sb⟩ := dp_rat hy
  refine ⟨_, pss_one (ps_ret (pe_cmpR op_lt (pe_op op_mulG (pe_ix ix_tup (pv 0) pe_int (fun _ _ => rfl)) (pe_ix ix_tup (pv 1) pe_int (fun _ _ => rfl))) (pe_op op_mulG (pe_ix ix_tup (pv 1) pe_int (fun _ _ => rfl)) (pe_ix ix_tup (pv 0) pe_int (fun _ _ => rfl))) (nomark _))), ?_⟩
  refine ⟨_, rfl, a, _, 0, _, rfl, rfl, sa, atI_nat (j := 0) rfl, _, rfl, b, _, 1, _, rfl, rfl, sb, atI_nat (j := 1) rfl, _, _, rfl, rfl, sz_nd zx zy, _, rfl, b, _, 0, _, rfl, rfl, sb, atI_nat (j := 0) rfl, _, rfl, a, _, 1, _, rfl, rfl, sa, atI_nat (j := 1) rfl, _, _, rfl, rfl, sz_nd zy zx, _, _, rfl, rfl, ?_⟩
  have e : decide (x.num * (y.den : Int) < y.num * (x.den : Int)) = decide (x < y) := by
    rw [decide_eq_decide]; exact (Rat.lt_iff x y).symm
  rw [← e] at q
  exact q
end
end Yd

set_option Elab.async false
set_option linter.all false
set_option maxRecDepth 100000
set_option maxHeartbeats 4000000
namespace Yd
open PySem PySem.Spec PyProof.Rows L2 Dial
/-! ### places, points, parts as data -/
abbrev dRs (l : List Rat) : PyData := .tuple (l.map dR)
abbrev lp (p : Pt) : List Rat := [p.1, p.2]
abbrev dP (p : Pt) : PyData := dRs (lp p)
abbrev dPart (P : List Pt) : PyData := .list (P.map dP)
def nV : Nat := 5200
def nH : Nat := 42000
def most : Nat := 300
section
variable {K : PySem.W.Frag} {H : Hp}
theorem dp_place {v : V} {p : Pt} (h : Dp K H v (dP p)) : ∃ a x y, v = .ref a ∧ SqT K H a [x, y] ∧ Dp K H x (dR p.1) ∧ Dp K H y (dR p.2) := by
  obtain ⟨a, xs, rfl, hs, ha⟩ := dp_tup h
  obtain ⟨x, y, rfl, h1, h2⟩ := all2 ha
  exact ⟨a, x, y, rfl, hs, h1, h2⟩
/-- the items of a list that is told -/
theorem map_get {α : Type} {f : α → PyData} {P : List α} {xs : List V} (h : DpAll K H xs (P.map f)) {i : Nat} (hi : i < P.length) : ∃ v, xs[i]? = some v ∧ Dp K H v (f P[i]) :=
  dpAll_get h (by rw [List.getElem?_map, List.getElem?_eq_getElem hi]; rfl)
theorem map_len {α : Type} {f : α → PyData} {P : List α} {xs : List V} (h : DpAll K H xs (P.map f)) : xs.length = P.length := by
  rw [dpAll_len h, List.length_map]
end
theorem szV {x : Rat} (h : Ht nV x) : Sz x := h.mono (by decide)
theorem szH {x : Rat} (h : Ht nH x) : Sz x := h.mono (by decide)
theorem sz_le {n : Nat} {x : Rat} (h : Ht n x) (k : n ≤ 60000000) : Sz x := h.mono k
theorem turn_ht {a b x : Pt} (ha : PHt nV a) (hb : PHt nV b) (hx : PHt nV x) : Ht nH (turn a b x) := by
  have h1 := ht_mul (ht_sub hb.1 ha.1) (ht_sub hx.2 ha.2)
  have h2 := ht_mul (ht_sub hb.2 ha.2) (ht_sub hx.1 ha.1)
  exact (ht_sub h1 h2).mono (by decide)
/-! ### turn_at -/
abbrev sShare : Stmt := topS 17
abbrev sTurn : Stmt := topS 18
def spTurn (K : PySem.W.Frag) : Sp := fun vs H Q _ => ∃ (v1 v2 v3 : V) (a b x : Pt), vs = [v1, v2, v3] ∧ Dp K H v1 (dP a) ∧ Dp K H v2 (dP b) ∧ Dp K H v3 (dP x) ∧ PHt nV a ∧ PHt nV b ∧ PHt nV x ∧ Gives K H Q (dR (turn a b x))
section
variable {P : Program} {w : World} {K : PySem.W.Frag} {mg : Str → Option Value} {base : Heap}
theorem ok_turn (D : Df K mg "turn_at" sTurn ["one", "other", "place"]) (hL : Has P w K mg base 42 "ratio_less" (spRat2 K (fun _ _ => True) (fun x y => x - y))) (hM : Has P w K mg base 42 "ratio_times" (spRat2 K (fun _ _ => True) (fun x y => x * y))) : Has P w K mg base 43 "turn_at" (spTurn K) := by
  have S : FnScope ["one", "other", "place", "first"] ["one", "other", "place"] (defScope sTurn) := ⟨rfl, rfl, rfl, by decide +kernel, rfl, by decide +kernel, by decide +kernel⟩
  refine has0 D S (by rintro _ _ _ _ ⟨_, _, _, _, _, _, rfl, _⟩; rfl) (fun f cdv A outer s H vs Q E hr h => ?_)
  obtain ⟨v1, v2, v3, a, b, x, rfl, da, db, dx, ha, hb, hx, q⟩ := h
  obtain ⟨pa, a1, a2, rfl, sa, da1, da2⟩ := dp_place da
  obtain ⟨pb, b1, b2, rfl, sb, db1, db2⟩ := dp_place db
  obtain ⟨px, x1, x2, rfl, sx, dx1, dx2⟩ := dp_place dx
  refine ⟨_, pss_cons (ps_set (i := 3) S.nd rfl (.inl rfl) (pe_h hM hr (by decide) (by rfl) (pa_cons
        (pe_h hL hr (by decide) (by rfl) (pa_cons (pe_ix ix_tup (pv 1) pe_int (fun _ _ => rfl)) (pa_cons (pe_ix ix_tup (pv 0) pe_int (fun _ _ => rfl)) pa_nil))) (pa_cons
        (pe_h hL hr (by decide) (by rfl) (pa_cons (pe_ix ix_tup (pv 2) pe_int (fun _ _ => rfl)) (pa_cons (pe_ix ix_tup (pv 0) pe_int (fun _ _ => rfl)) pa_nil))) pa_nil))))
    (pss_one (ps_ret (pe_h hL hr (by decide) (by rfl) (pa_cons (pv 3) (pa_cons (pe_h hM hr (by decide) (by rfl) (pa_cons
        (pe_h hL hr (by decide) (by rfl) (pa_cons (pe_ix ix_tup (pv 1) pe_int (fun _ _ => rfl)) (pa_cons (pe_ix ix_tup (pv 0) pe_int (fun _ _ => rfl)) pa_nil))) (pa_cons
        (pe_h hL hr (by decide) (by rfl) (pa_cons (pe_ix ix_tup (pv 2) pe_int (fun _ _ => rfl)) (pa_cons (pe_ix ix_tup (pv 0) pe_int (fun _ _ => rfl)) pa_nil))) pa_nil))) pa_nil))))), ?_⟩
  refine ⟨_, rfl, pb, _, 0, _, rfl, rfl, sb, atI_nat (j := 0) rfl, _, rfl, pa, _, 0, _, rfl, rfl, sa, atI_nat (j := 0) rfl, _, _, _, _, rfl, db1, da1, szV hb.1, szV ha.1, trivial, fun u1 H1 m1 e1 => ?_⟩
  refine ⟨_, rfl, px, _, 1, _, rfl, rfl, Same.tup m1 sx, atI_nat (j := 1) rfl, _, rfl, pa, _, 1, _, rfl, rfl, Same.tup m1 sa, atI_nat (j := 1) rfl, _, _, _, _, rfl, dp_same m1 _ _ dx2, dp_same m1 _ _ da2, szV hx.2, szV ha.2, trivial, fun u2 H2 m2 e2 => ?_⟩
  refine ⟨_, _, _, _, rfl, dp_same m2 _ _ e1, e2, sz_le (ht_sub hb.1 ha.1) (by decide), sz_le (ht_sub hx.2 ha.2) (by decide), trivial, fun u3 H3 m3 e3 => ?_⟩
  have n3 : Same H H3 := m1.trans (m2.trans m3)
  refine ⟨_, rfl, _, rfl, pb, _, 1, _, rfl, rfl, Same.tup n3 sb, atI_nat (j := 1) rfl, _, rfl, pa, _, 1, _, rfl, rfl, Same.tup n3 sa, atI_nat (j := 1) rfl, _, _, _, _, rfl, dp_same n3 _ _ db2, dp_same n3 _ _ da2, szV hb.2, szV ha.2, trivial, fun u4 H4 m4 e4 => ?_⟩
  have n4 : Same H H4 := n3.trans m4
  refine ⟨_, rfl, px, _, 0, _, rfl, rfl, Same.tup n4 sx, atI_nat (j := 0) rfl, _, rfl, pa, _, 0, _, rfl, rfl, Same.tup n4 sa, atI_nat (j := 0) rfl, _, _, _, _, rfl, dp_same n4 _ _ dx1, dp_same n4 _ _ da1, szV hx.1, szV ha.1, trivial, fun u5 H5 m5 e5 => ?_⟩
  refine ⟨_, _, _, _, rfl, dp_same m5 _ _ e4, e5, sz_le (ht_sub hb.2 ha.2) (by decide), sz_le (ht_sub hx.1 ha.1) (by decide), trivial, fun u6 H6 m6 e6 => ?_⟩
  refine ⟨_, _, _, _, rfl, dp_same (m4.trans (m5.trans m6)) _ _ e3, e6, sz_le (ht_mul (ht_sub hb.1 ha.1) (ht_sub hx.2 ha.2)) (by decide), sz_le (ht_mul (ht_sub hb.2 ha.2) (ht_sub hx.1 ha.1)) (by decide), trivial, fun u7 H7 m7 e7 => ?_⟩
  exact q u7 H7 (n4.trans (m5.trans (m6.trans m7))) e7
end
end Yd

/-! Edges by their numbers, sums over them. No program here. -/
namespace Dial
theorem epath_get : ∀ (l : List Pt) (a : Pt) (k : Nat) (h : k < l.length), (epath a l)[k]? = some ((a :: l)[k]'(by simp; omega), l[k])
  | [], _, k, h => by simp at h
  | b :: t, a, 0, _ => rfl
  | b :: t, a, k + 1, h => by
    have := epath_get t b k (by simpa using h)
    simpa [epath] using this
theorem edges_get (P : List Pt) (k : Nat) (h : k < P.length) : (edges P)[k]? = some (P[k], P[(k + 1) % P.length]'(Nat.mod_lt _ (by omega))) := by
  cases P with
  | nil => simp at h
  | cons a t =>
    have e := epath_get (t ++ [a]) a k (by simpa using h)
    simp only [edges]
    rw [e]
    have h1 : (a :: (t ++ [a]))[k]'(by simp; simp at h; omega) = (a :: t)[k] := by
      have : (a :: (t ++ [a])) = (a :: t) ++ [a] := rfl
      simp only [this]
      exact List.getElem_append_left h
    have h2 : (t ++ [a])[k]'(by simpa using h) = (a :: t)[(k + 1) % (a :: t).length]'(Nat.mod_lt _ (by simp)) := by
      by_cases c : k < t.length
      · rw [List.getElem_append_left c]
        have : (k + 1) % (a :: t).length = k + 1 := Nat.mod_eq_of_lt (by simp; omega)
        simp only [this]
        rfl
      · have hk : k = t.length := by simp at h; omega
        have : (k + 1) % (a :: t).length = 0 := by rw [hk]; simp
        simp only [this]
        rw [List.getElem_append_right (by omega)]
        simp
    rw [h1, h2]
theorem cyc_sum (c : Pt → Pt → Rat) (P : List Pt) : cyc c P = sumOf (fun e => c e.1 e.2) (edges P) := by
  cases P with
  | nil => rfl
  | cons a t =>
    have : ∀ (l : List Pt) (b : Pt), path c b l = sumOf (fun e => c e.1 e.2) (epath b l) := by
      intro l
      induction l with
      | nil => intro b; rfl
      | cons d l ih => intro b; show c b d + path c d l = c b d + sumOf _ (epath d l); rw [ih d]
    exact this _ _
theorem sum_step {α : Type} (f : α → Rat) {l : List α} {k : Nat} {e : α} (h : l[k]? = some e) : sumOf f (l.take (k + 1)) = sumOf f (l.take k) + f e := by
  rw [List.take_add_one, h, sumOf_append]
  show _ = _ + f e
  show sumOf f (l.take k) + (f e + 0) = _
  grind
/-- the sum stays small -/
theorem sum_ht {α : Type} (f : α → Rat) (m : Nat) : ∀ (l : List α), (∀ e ∈ l, Ht m (f e)) → ∀ k, k ≤ l.length → Ht (k * (m + 1) + 1) (sumOf f (l.take k))
  | l, h, 0, _ => by
    have : sumOf f (l.take 0) = 0 := rfl
    rw [this]
    rw [Nat.zero_mul]
    exact ⟨by decide, by decide⟩
  | l, h, k + 1, hk => by
    have ih := sum_ht f m l h k (by omega)
    have hk2 : k < l.length := by omega
    rw [sum_step f (List.getElem?_eq_getElem hk2)]
    have := ht_add ih (h _ (List.getElem_mem hk2))
    exact this.mono (by rw [Nat.succ_mul]; omega)
theorem crs_ht {n : Nat} {u v : Pt} (hu : PHt n u) (hv : PHt n v) : Ht (4 * n + 1) (crs u v) := by
  have := ht_sub (ht_mul hu.1 hv.2) (ht_mul hv.1 hu.2)
  exact this.mono (by omega)
theorem cyc_part_ht {n : Nat} {P : List Pt} (h : ∀ z ∈ P, PHt n z) (k : Nat) (hk : k ≤ P.length) : Ht (k * (4 * n + 2) + 1) (sumOf (fun e => crs e.1 e.2) ((edges P).take k)) := by
  refine sum_ht _ (4 * n + 1) _ (fun e he => ?_) k (by rw [edges_len]; exact hk)
  have m := edges_mem he
  exact crs_ht (h _ m.1) (h _ m.2)
theorem cyc_ht {n : Nat} {P : List Pt} (h : ∀ z ∈ P, PHt n z) : Ht (P.length * (4 * n + 2) + 1) (cyc crs P) := by
  have := cyc_part_ht h P.length (Nat.le_refl _)
  rw [List.take_of_length_le (by rw [edges_len]; exact Nat.le_refl _)] at this
  rw [cyc_sum]
  exact this
theorem share_ht {n : Nat} {P : List Pt} (h : ∀ z ∈ P, PHt n z) : Ht (P.length * (4 * n + 2) + 3) (share P) := by
  have h1 : Ht 2 (1 / 2 : Rat) := ht_frac (N := 1) (D := 2) (by decide) (by simp; grind) (by decide) (by decide)
  have := ht_mul h1 (cyc_ht h)
  exact this.mono (by omega)
/-! the same for lists of any kind -/
section
variable {α : Type}
def gpath : α → List α → List (α × α)
  | _, [] => []
  | a, b :: t => (a, b) :: gpath b t
def gedges : List α → List (α × α)
  | [] => []
  | a :: t => gpath a (t ++ [a])
theorem gpath_len : ∀ (l : List α) (a : α), (gpath a l).length = l.length
  | [], _ => rfl
  | b :: t, _ => by simp only [gpath, List.length_cons]; rw [gpath_len t b]
theorem gedges_len (P : List α) : (gedges P).length = P.length := by
  cases P with
  | nil => rfl
  | cons a t => simp only [gedges, gpath_len, List.length_append, List.length_cons, List.length_nil]
theorem gpath_get : ∀ (l : List α) (a : α) (k : Nat) (h : k < l.length), (gpath a l)[k]? = some ((a :: l)[k]'(by simp; omega), l[k])
  | [], _, k, h => by simp at h
  | b :: t, a, 0, _ => rfl
  | b :: t, a, k + 1, h => by
    have := gpath_get t b k (by simpa using h)
    simpa [gpath] using this
theorem gedges_get (P : List α) (k : Nat) (h : k < P.length) : (gedges P)[k]? = some (P[k], P[(k + 1) % P.length]'(Nat.mod_lt _ (by omega))) := by
  cases P with
  | nil => simp at h
  | cons a t =>
    have e := gpath_get (t ++ [a]) a k (by simpa using h)
    simp only [gedges]
    rw [e]
    have h1 : (a :: (t ++ [a]))[k]'(by simp; simp at h; omega) = (a :: t)[k] := by
      have : (a :: (t ++ [a])) = (a :: t) ++ [a] := rfl
      simp only [this]
      exact List.getElem_append_left h
    have h2 : (t ++ [a])[k]'(by simpa using h) = (a :: t)[(k + 1) % (a :: t).length]'(Nat.mod_lt _ (by simp)) := by
      by_cases c : k < t.length
      · rw [List.getElem_append_left c]
        have : (k + 1) % (a :: t).length = k + 1 := Nat.mod_eq_of_lt (by simp; omega)
        simp only [this]
        rfl
      · have hk : k = t.length := by simp at h; omega
        have : (k + 1) % (a :: t).length = 0 := by rw [hk]; simp
        simp only [this]
        rw [List.getElem_append_right (by omega)]
        simp
    rw [h1, h2]
/-- what cutting leaves, edge by edge -/
def keptE (m : α → α → Rat → Rat → α) (e : (α × Rat) × (α × Rat)) : List α := here e.1 ++ mids m e.1 e.2
theorem keptC_edges (m : α → α → Rat → Rat → α) (L : List (α × Rat)) : keptC m L = (gedges L).flatMap (keptE m) := by
  have key : ∀ (l : List (α × Rat)) (a : α × Rat), keptP m a l = (gpath a l).flatMap (keptE m) := by
    intro l
    induction l with
    | nil => intro a; rfl
    | cons b t ih => intro a; simp only [keptP, gpath, List.flatMap_cons]; rw [ih b]; rfl
  cases L with
  | nil => rfl
  | cons a t => exact key _ _
theorem flat_step {β : Type} (f : β → List α) {l : List β} {k : Nat} {e : β} (h : l[k]? = some e) : (l.take (k + 1)).flatMap f = (l.take k).flatMap f ++ f e := by
  rw [List.take_add_one, h, List.flatMap_append]
  simp
theorem keptE_len (m : α → α → Rat → Rat → α) (l : List ((α × Rat) × (α × Rat))) : (l.flatMap (keptE m)).length ≤ 2 * l.length := by
  induction l with
  | nil => simp
  | cons e l ih =>
    rw [List.flatMap_cons, List.length_append, List.length_cons]
    have h1 : (here e.1).length ≤ 1 := by unfold here; split <;> simp
    have h2 : (mids m e.1 e.2).length ≤ 1 := by unfold mids; split <;> simp
    have : (keptE m e).length = (here e.1).length + (mids m e.1 e.2).length := by unfold keptE; rw [List.length_append]
    omega
end
/-- cutting goes with a map -/
theorem kept_map {α β : Type} (m : α → α → Rat → Rat → α) (m' : β → β → Rat → Rat → β) (f : α → β) (hf : ∀ a b h k, f (m a b h k) = m' (f a) (f b) h k) (L : List (α × Rat)) : (keptC m L).map f = keptC m' (L.map fun p => (f p.1, p.2)) := by
  have h1 : ∀ a : α × Rat, (here a).map f = here (f a.1, a.2) := fun a => by
    unfold here
    by_cases c : a.2 < 0
    · rw [if_neg (by simpa using c), if_neg (by simpa using c)]; rfl
    · rw [if_pos c, if_pos c]; rfl
  have h2 : ∀ a b : α × Rat, (mids m a b).map f = mids m' (f a.1, a.2) (f b.1, b.2) := fun a b => by
    unfold mids
    by_cases c : a.2 * b.2 < 0
    · rw [if_pos c, if_pos c, List.map_singleton, hf]
    · rw [if_neg c, if_neg c]; rfl
  have key : ∀ (l : List (α × Rat)) (a : α × Rat), (keptP m a l).map f = keptP m' (f a.1, a.2) (l.map fun p => (f p.1, p.2)) := by
    intro l
    induction l with
    | nil => intro a; rfl
    | cons b t ih =>
      intro a
      simp only [keptP, List.map_cons, List.map_append]
      rw [h1, h2, ih b]
  cases L with
  | nil => rfl
  | cons a t =>
    simp only [keptC, List.map_cons]
    rw [key, List.map_append, List.map_singleton]
end Dial

set_option Elab.async false
set_option linter.all false
set_option maxRecDepth 100000
set_option maxHeartbeats 4000000
namespace Yd
open PySem PySem.Spec PyProof.Rows L2 Dial
/-! ### share_of -/
theorem line_small {n : Nat} (h : n ≤ 1000000) : n < sizeLine := by rw [sizeLine_eq]; omega
theorem nat62 {n : Nat} (h : n ≤ 1000000) : -(2 ^ 62) ≤ (n : Int) ∧ (n : Int) < 2 ^ 62 := by omega
theorem ix_next (i n : Nat) : (0 + (i : Int) + 1) % (n : Int) = (((i + 1) % n : Nat) : Int) := by
  rw [Int.zero_add]
  exact (Int.natCast_emod (i + 1) n).symm
theorem half_int : Rat.divInt 1 2 = 1 / 2 := by
  have : (1 : Rat) / 2 = Rat.divInt 1 2 := by rw [Rat.div_def, ← Rat.num_divInt_den 1, ← Rat.num_divInt_den 2, Rat.inv_divInt, Rat.divInt_mul_divInt]; rfl
  exact this.symm
abbrev spShare (K : PySem.W.Frag) : Sp := fun vs H Q _ => ∃ (v : V) (R : List Pt), vs = [v] ∧ Dp K H v (dPart R) ∧ (∀ z ∈ R, PHt nV z) ∧ R.length ≤ most ∧ Gives K H Q (dR (share R))
section
variable {P : Program} {w : World} {K : PySem.W.Frag} {mg : Str → Option Value} {base : Heap}
theorem ok_share (D : Df K mg "share_of" sShare ["part"]) {aN : Addr} (mN : mg "NOUGHT" = some (.ref aN)) (dN : ∀ H, Dp K H (.ref aN) (dR 0)) (mr : mg "range" = none) (ml : mg "len" = none)
    (hS : Has P w K mg base 42 "ratio_sum" (spRat2 K (fun _ _ => True) (fun x y => x + y))) (hL : Has P w K mg base 42 "ratio_less" (spRat2 K (fun _ _ => True) (fun x y => x - y)))
    (hM : Has P w K mg base 42 "ratio_times" (spRat2 K (fun _ _ => True) (fun x y => x * y))) (hR : Has P w K mg base 41 "ratio_of" (spRatioOf K)) : Has P w K mg base 43 "share_of" (spShare K) := by
  have S : FnScope ["part", "found", "k", "one", "other"] ["part"] (defScope sShare) := ⟨rfl, rfl, rfl, by decide +kernel, rfl, by decide +kernel, by decide +kernel⟩
  refine has0 D S (by rintro _ _ _ _ ⟨_, _, rfl, _⟩; rfl) (fun f cdv A outer s H vs Q E hr h => ?_)
  obtain ⟨v, R, rfl, dv, hp, hlen, q⟩ := h
  obtain ⟨a, xs, rfl, sa, da⟩ := dp_lst dv
  have hx : xs.length = R.length := map_len da
  have hm : R.length ≤ 1000000 := Nat.le_trans hlen (by decide)
  refine ⟨_, pss_cons (ps_set (i := 1) S.nd rfl (.inl rfl) (pe_glob (v := .ref aN) (by rfl) mN rfl))
    (pss_cons (ps_for PassesOwn.never rfl (pi_range1 (by rfl) mr (pa_cons (pe_callB call_len_seq (by rfl) ml PySem.boot_len (pa_cons (pv 0) pa_nil)) pa_nil)) (pg_name (i := 2) S.nd rfl (.inl rfl))
      (pss_cons (ps_set (i := 3) S.nd rfl (.inl rfl) (pe_ix ix_list (pv 0) (pv 2) (fun _ _ => rfl)))
      (pss_cons (ps_set (i := 4) S.nd rfl (.inl rfl) (pe_ix ix_list (pv 0) (pe_op op_mod (pe_op op_add (pv 2) pe_int) (pe_callB call_len_seq (by rfl) ml PySem.boot_len (pa_cons (pv 0) pa_nil))) (fun _ _ => rfl)))
      (pss_one (ps_set (i := 1) S.nd rfl (.inl rfl) (pe_h hS hr (by decide) (by rfl) (pa_cons (pv 1) (pa_cons
        (pe_h hL hr (by decide) (by rfl) (pa_cons
          (pe_h hM hr (by decide) (by rfl) (pa_cons (pe_ix ix_tup (pv 3) pe_int (fun _ _ => rfl)) (pa_cons (pe_ix ix_tup (pv 4) pe_int (fun _ _ => rfl)) pa_nil))) (pa_cons
          (pe_h hM hr (by decide) (by rfl) (pa_cons (pe_ix ix_tup (pv 4) pe_int (fun _ _ => rfl)) (pa_cons (pe_ix ix_tup (pv 3) pe_int (fun _ _ => rfl)) pa_nil))) pa_nil))) pa_nil))))))))
    (pss_one (ps_ret (pe_h hM hr (by decide) (by rfl) (pa_cons (pe_h hR hr (by decide) (by rfl) (pa_cons pe_int (pa_cons pe_int pa_nil))) (pa_cons (pv 1) pa_nil)))))), ?_⟩
  refine ⟨_, rfl, a, _, rfl, .inl sa, _, rfl, ?_⟩
  rw [hx]
  refine ⟨(nat62 hm).1, (nat62 hm).2, ?_⟩
  refine for_range (lo := 0) (n := R.length) (fun i σ H' => ∃ vf y2 y3 y4, σ = [some (.ref a), some vf, y2, y3, y4] ∧ Same H H' ∧ Dp K H' vf (dR (sumOf (fun e => crs e.1 e.2) ((edges R).take i))))
    ⟨.ref aN, none, none, none, rfl, Same.refl H, dN H⟩ (fun i σ H' hi hI => ?_) (fun σ H' hI => ?_)
  · obtain ⟨vf, y2, y3, y4, rfl, m, df⟩ := hI
    have eg := edges_get R i hi
    obtain ⟨x1, g1, d1⟩ := map_get da hi
    obtain ⟨x2, g2, d2⟩ := map_get da (i := (i + 1) % R.length) (Nat.mod_lt _ (by omega))
    have p1 := hp _ (List.getElem_mem hi)
    have p2 := hp _ (List.getElem_mem (Nat.mod_lt (i + 1) (show 0 < R.length by omega)))
    obtain ⟨b1, s1, t1, rfl, q1, ds1, dt1⟩ := dp_place (dp_same m _ _ d1)
    obtain ⟨b2, s2, t2, rfl, q2, ds2, dt2⟩ := dp_place (dp_same m _ _ d2)
    have hf := cyc_part_ht hp i (by omega)
    have hfz : Sz (sumOf (fun e => crs e.1 e.2) ((edges R).take i)) := sz_le hf (by
      have : i * (4 * nV + 2) ≤ most * (4 * nV + 2) := Nat.mul_le_mul_right _ (by omega)
      have : most * (4 * nV + 2) ≤ 50000000 := by decide
      omega)
    rw [sum_step _ eg]
    refine ⟨_, rfl, _, rfl, a, xs, _, _, rfl, rfl, m.seq sa, at_of (Int.zero_add _) g1, ?_⟩
    refine ⟨_, rfl, _, rfl, _, _, rfl, rfl, _, rfl, a, xs, rfl, .inl (m.seq sa), _, _, rfl, rfl, (by rw [hx]; omega), a, xs, _, _, rfl, rfl, m.seq sa, at_of (by rw [hx]; exact ix_next i R.length) g2, ?_⟩
    refine ⟨_, rfl, _, rfl, b1, _, 0, _, rfl, rfl, q1, atI_nat (j := 0) rfl, _, rfl, b2, _, 1, _, rfl, rfl, q2, atI_nat (j := 1) rfl, _, _, _, _, rfl, ds1, dt2, szV p1.1, szV p2.2, trivial, fun u1 H1 m1 e1 => ?_⟩
    refine ⟨_, rfl, b2, _, 0, _, rfl, rfl, Same.tup m1 q2, atI_nat (j := 0) rfl, _, rfl, b1, _, 1, _, rfl, rfl, Same.tup m1 q1, atI_nat (j := 1) rfl, _, _, _, _, rfl, dp_same m1 _ _ ds2, dp_same m1 _ _ dt1, szV p2.1, szV p1.2, trivial, fun u2 H2 m2 e2 => ?_⟩
    refine ⟨_, _, _, _, rfl, dp_same m2 _ _ e1, e2, sz_le (ht_mul p1.1 p2.2) (by decide), sz_le (ht_mul p2.1 p1.2) (by decide), trivial, fun u3 H3 m3 e3 => ?_⟩
    have n3 := m1.trans (m2.trans m3)
    refine ⟨_, _, _, _, rfl, dp_same n3 _ _ df, e3, hfz, sz_le (ht_sub (ht_mul p1.1 p2.2) (ht_mul p2.1 p1.2)) (by decide), trivial, fun u4 H4 m4 e4 => ?_⟩
    exact ⟨u4, _, _, _, rfl, m.trans (n3.trans m4), e4⟩
  · obtain ⟨vf, y2, y3, y4, rfl, m, df⟩ := hI
    have el : (edges R).take R.length = edges R := List.take_of_length_le (by rw [edges_len]; exact Nat.le_refl _)
    rw [el, ← cyc_sum] at df
    refine ⟨1, 2, rfl, by decide, fun u1 H1 m1 e1 => ?_⟩
    refine ⟨_, rfl, _, _, _, _, rfl, e1, dp_same m1 _ _ df, ?_, ?_, trivial, fun u2 H2 m2 e2 => ?_⟩
    · rw [half_int]; exact sz_le (ht_frac (n := 2) (N := 1) (D := 2) (by decide) (by simp; grind) (by decide) (by decide)) (by decide)
    · refine sz_le (cyc_ht hp) ?_
      have : R.length * (4 * nV + 2) ≤ most * (4 * nV + 2) := Nat.mul_le_mul_right _ hlen
      have : most * (4 * nV + 2) ≤ 50000000 := by decide
      omega
    · rw [half_int] at e2
      exact q u2 H2 (m.trans (m1.trans m2)) e2
end
end Yd

set_option Elab.async false
set_option linter.all false
set_option maxRecDepth 100000
set_option maxHeartbeats 4000000
namespace Yd
open PySem PySem.Spec PyProof.Rows L2 Dial
/-! ### a list that grows: what its items are does not hang on it -/
def hide (D : Addr) (H : Hp) : Hp := fun b => if b = D then none else H b
theorem hide_ne {D b : Addr} {H : Hp} (h : b ≠ D) : hide D H b = H b := by unfold hide; rw [if_neg h]
theorem same_hide {D : Addr} {H H' : Hp} (h : Same H H') (n : H D = none) : Same H (hide D H') := fun b o e => by
  rw [hide_ne (ne_of_none e n)]
  exact h b o e
theorem hide_hide {D : Addr} {H H' : Hp} (h : Same H H') : Same (hide D H) (hide D H') := fun b o e => by
  by_cases c : b = D
  · subst c; unfold hide at e; rw [if_pos rfl] at e; cases e
  · rw [hide_ne c] at e ⊢
    exact h b o e
theorem hide_sub (D : Addr) (H : Hp) : Same (hide D H) H := fun b o e => by
  by_cases c : b = D
  · subst c; unfold hide at e; rw [if_pos rfl] at e; cases e
  · rw [hide_ne c] at e
    exact e
theorem hide_upd (D : Addr) (H : Hp) (o : HO) : hide D (upd H D o) = hide D H := by
  funext b
  by_cases c : b = D
  · subst c; unfold hide; rw [if_pos rfl, if_pos rfl]
  · rw [hide_ne c, hide_ne c, upd_ne c]
/-! data without lists -/
mutual
def lf : PyData → Bool
  | .list _ => false
  | .dict _ => false
  | .tuple ds => lfAll ds
  | _ => true
def lfAll : List PyData → Bool
  | [] => true
  | d :: ds => lf d && lfAll ds
end
section
variable {K : PySem.W.Frag} {H H' : Hp}
theorem tup_hide {D a : Addr} {zs xs : List V} (hD : H D = some (.lst zs)) (h : SqT K H a xs) : SqT K (hide D H) a xs := by
  rcases h with (h | ⟨o, h⟩) | h
  · refine .inl (.inl ?_)
    rw [hide_ne (ne_of h hD (by intro z; cases z))]; exact h
  · refine .inl (.inr ⟨o, ?_⟩)
    rw [hide_ne (ne_of h hD (by intro z; cases z))]; exact h
  · exact .inr h
mutual
theorem dp_hide {D : Addr} {zs : List V} (hD : H D = some (.lst zs)) : ∀ (d : PyData) (v : V), lf d = true → Dp K H v d → Dp K (hide D H) v d
  | .none, _, _, h => by cases h; exact .non
  | .bool b, _, _, h => by cases h; exact .bl b
  | .int i, _, _, h => by cases h; exact .int i
  | .str x, _, _, h => by cases h; exact .str x
  | .list ds, _, e, _ => by simp [lf] at e
  | .tuple ds, _, e, h => by
    cases h with
    | tup hs ha => exact .tup (tup_hide hD hs) (dpAll_hide hD ds _ (by simpa [lf] using e) ha)
  | .dict _, _, _, h => by cases h
theorem dpAll_hide {D : Addr} {zs : List V} (hD : H D = some (.lst zs)) : ∀ (ds : List PyData) (vs : List V), lfAll ds = true → DpAll K H vs ds → DpAll K (hide D H) vs ds
  | [], _, _, h => by cases h; exact .nil
  | d :: ds, _, e, h => by
    simp only [lfAll, Bool.and_eq_true] at e
    cases h with
    | cons h1 h2 => exact .cons (dp_hide hD d _ e.1 h1) (dpAll_hide hD ds _ e.2 h2)
end
end
theorem lf_rats (l : List Rat) : lf (dRs l) = true := by
  simp only [lf]
  induction l with
  | nil => rfl
  | cons x l ih => simp only [List.map_cons, lfAll, lf, Bool.and_true, Bool.true_and]; exact ih
/-- a list at D that grows over the heap B: B stands, the items are the data ds -/
structure Grown (K : PySem.W.Frag) (B : Hp) (D : Addr) (ds : List PyData) (H : Hp) : Prop where
  free : B D = none
  same : Same B H
  ex : ∃ acc, H D = some (.lst acc) ∧ DpAll K (hide D H) acc ds
section
variable {K : PySem.W.Frag} {B H H' : Hp} {D : Addr} {ds : List PyData}
theorem Grown.start (h : B D = none) : Grown K B D [] (upd B D (.lst [])) := ⟨h, same_new h _, [], upd_same, .nil⟩
theorem Grown.step (g : Grown K B D ds H) (m : Same H H') : Grown K B D ds H' := by
  obtain ⟨acc, h1, h2⟩ := g.ex
  exact ⟨g.free, g.same.trans m, acc, m _ _ h1, dpAll_same (hide_hide m) _ _ h2⟩
/-- one more, as a comprehension or append lays it -/
theorem Grown.more (g : Grown K B D ds H) {v : V} {d : PyData} (hv : Dp K (hide D H) v d) : ∃ acc, H D = some (.lst acc) ∧ acc.length = ds.length ∧ Grown K B D (ds ++ [d]) (upd H D (.lst (acc ++ [v]))) := by
  obtain ⟨acc, h1, h2⟩ := g.ex
  refine ⟨acc, h1, dpAll_len h2, g.free, fun b o e => ?_, acc ++ [v], upd_same, ?_⟩
  · rw [upd_ne (ne_of_none e g.free)]
    exact g.same b o e
  · rw [hide_upd]
    exact dpAll_app h2 (.cons hv .nil)
theorem Grown.hid (g : Grown K B D ds H) {d : PyData} {v : V} (e : lf d = true) (h : Dp K H v d) : Dp K (hide D H) v d := by
  obtain ⟨acc, h1, _⟩ := g.ex
  exact dp_hide h1 d v e h
theorem Grown.old (g : Grown K B D ds H) {d : PyData} {v : V} (h : Dp K B v d) : Dp K (hide D H) v d := dp_same (same_hide g.same g.free) _ _ h
theorem Grown.dp (g : Grown K B D ds H) : Dp K H (.ref D) (.list ds) := by
  obtain ⟨acc, h1, h2⟩ := g.ex
  exact .lst (SqL.of h1) (dpAll_same (hide_sub D H) _ _ h2)
end
theorem tyes_if {σ : L2.St} {H : Hp} {F G : Hp → Prop} (h : F H) : tYes σ H fun b H3 => if b = true then F H3 else G H3 := by
  show if true = true then F H else G H
  exact iteT h
/-! ### zip of two tuples, walked -/
theorem walk_zipT {K : PySem.W.Frag} {a b : Addr} {xs ys : List V} {n : Nat} (hx : xs.length = n) (hy : ys.length = n) : Walk (RZ.ItzT K a b) n (fun H => SqT K H a xs ∧ SqT K H b ys) (YPair (fun i => xs[i]?) (fun i => ys[i]?)) where
  goes := fun i H hi q => ⟨xs, ys, xs[i]'(by omega), ys[i]'(by omega), q.1, q.2, List.getElem?_eq_getElem (by omega), List.getElem?_eq_getElem (by omega)⟩
  stops := fun H q => ⟨xs, ys, q.1, q.2, .inl (by omega)⟩
  yields := fun i H v H' _ q y => by
    obtain ⟨T, x, z, h1, h2, h3, h4, h5⟩ := y
    exact ⟨T, x, z, h1, h2, h3, h4 xs q.1, h5 ys q.2⟩
/-! ### between -/
abbrev sBetween : Stmt := topS 19
def midL (a b : List Rat) (h k : Rat) : List Rat := List.zipWith (fun x y => x + h / (h - k) * (y - x)) a b
theorem midL_pt (a b : Pt) (h k : Rat) : midL (lp a) (lp b) h k = lp (cross a b h k) := rfl
abbrev spBetween (K : PySem.W.Frag) : Sp := fun vs H Q _ => ∃ (v1 v2 v3 v4 : V) (a b : List Rat) (h k : Rat), vs = [v1, v2, v3, v4] ∧ Dp K H v1 (dRs a) ∧ Dp K H v2 (dRs b) ∧ Dp K H v3 (dR h) ∧ Dp K H v4 (dR k) ∧
  a.length = b.length ∧ a.length ≤ 3 ∧ (∀ x ∈ a, Ht nV x) ∧ (∀ x ∈ b, Ht nV x) ∧ Ht nH h ∧ Ht nH k ∧ h * k < 0 ∧ Gives K H Q (dRs (midL a b h k))
section
variable {P : Program} {w : World} {K : PySem.W.Frag} {mg : Str → Option Value} {base : Heap}
theorem ok_between (D : Df K mg "between" sBetween ["one", "other", "here", "there"]) (mt : mg "tuple" = none) (mz : mg "zip" = none)
    (hS : Has P w K mg base 42 "ratio_sum" (spRat2 K (fun _ _ => True) (fun x y => x + y))) (hL : Has P w K mg base 42 "ratio_less" (spRat2 K (fun _ _ => True) (fun x y => x - y)))
    (hM : Has P w K mg base 42 "ratio_times" (spRat2 K (fun _ _ => True) (fun x y => x * y))) (hB : Has P w K mg base 42 "ratio_by" (spRat2 K (fun _ y => y ≠ 0) (fun x y => x / y))) : Has P w K mg base 43 "between" (spBetween K) := by
  have S : FnScope ["one", "other", "here", "there", "share", "a", "b"] ["one", "other", "here", "there"] (defScope sBetween) := ⟨rfl, rfl, rfl, by decide +kernel, rfl, by decide +kernel, by decide +kernel⟩
  refine has0 D S (by rintro _ _ _ _ ⟨_, _, _, _, _, _, _, _, rfl, _⟩; rfl) (fun f cdv A outer s H vs Q E hr h => ?_)
  obtain ⟨v1, v2, v3, v4, a, b, h, k, rfl, d1, d2, d3, d4, hl, h3, za, zb, zh, zk, hs, q⟩ := h
  obtain ⟨pa, xs, rfl, sa, da⟩ := dp_tup d1
  obtain ⟨pb, ys, rfl, sb, db⟩ := dp_tup d2
  have hx : xs.length = a.length := map_len da
  have hy : ys.length = a.length := by rw [hl]; exact map_len db
  have hne : h - k ≠ 0 := by rcases sgn_cases hs with z | z <;> grind
  refine ⟨_, pss_cons (ps_set (i := 4) S.nd rfl (.inr rfl) (pe_h hB hr (by decide) (by rfl) (pa_cons (pv 2) (pa_cons (pe_h hL hr (by decide) (by rfl) (pa_cons (pv 2) (pa_cons (pv 3) pa_nil))) pa_nil))))
    (pss_one (ps_ret (pe_tupleOf (by rfl) mt (pe_lc (own := [("a", 5), ("b", 6)]) (g := gTup K 2 (gCons (gName 5) (gCons (gName 6) gNil))) (tt := tYes) rfl S.nd (RZ.pi_zipA (by rfl) mz (pa_cons (pv 0) (pa_cons (pv 1) pa_nil)))
      (blkOk_by (own := [("a", 5), ("b", 6)]) (N := ["one", "other", "here", "there", "share", "a", "b"]) (sc := defScope sBetween) (by decide +kernel))
      (fun _ _ _ _ _ => by
        refine pg_tup rfl (pgs_cons ?_ (pgs_cons ?_ pgs_nil))
        · exact pg_name (i := 5) S.nd rfl (.inl rfl)
        · exact pg_name (i := 6) S.nd rfl (.inl rfl)) (fun _ _ _ _ _ => pts_nil)
      (fun _ _ _ _ _ => by exact pe_h hS hr (by decide) (by rfl) (pa_cons (pv 5) (pa_cons (pe_h hM hr (by decide) (by rfl) (pa_cons (pv 4) (pa_cons (pe_h hL hr (by decide) (by rfl) (pa_cons (pv 6) (pa_cons (pv 5) pa_nil))) pa_nil))) pa_nil))))))), ?_⟩
  refine ⟨_, rfl, _, rfl, _, rfl, _, _, _, _, rfl, d3, d4, szH zh, szH zk, trivial, fun u1 H1 m1 e1 => ?_⟩
  refine ⟨_, _, _, _, rfl, dp_same m1 _ _ d3, e1, szH zh, sz_le (ht_sub zh zk) (by decide), hne, fun u2 H2 m2 e2 => ?_⟩
  have n2 := m1.trans m2
  have zs : Ht 126001 (h / (h - k)) := (ht_div zh (ht_sub zh zk) hne).mono (by decide)
  refine ⟨_, rfl, _, rfl, pa, pb, xs, ys, rfl, .inr ⟨Same.tup n2 sa, Same.tup n2 sb, fun D hD => ?_⟩⟩
  refine lc_it (walk_zipT hx hy) (fun i H' => Grown K H2 D ((((midL a b h k).take i).map dR)) H') (Grown.start hD) (fun i H' _ g => ⟨Same.tup (n2.trans g.same) sa, Same.tup (n2.trans g.same) sb⟩) ?_ ?_
  · rintro i x H' H'' hi g ⟨T, x1, y1, rfl, nT, rfl, g1, g2⟩
    have hib : i < b.length := by omega
    obtain ⟨x1', g1', dx⟩ := map_get da hi
    obtain ⟨y1', g2', dy⟩ := map_get db hib
    have ex : x1 = x1' := Option.some.inj (g1.symm.trans g1')
    have ey : y1 = y1' := Option.some.inj (g2.symm.trans g2')
    subst ex ey
    have mT : Same H' (upd H' T (.tup [x1, y1])) := same_new nT _
    have gT := g.step mT
    have mm : Same H (upd H' T (.tup [x1, y1])) := n2.trans gT.same
    have hxa := za _ (List.getElem_mem hi)
    have hyb := zb _ (List.getElem_mem hib)
    refine ⟨T, [x1, y1], rfl, SqT.of upd_same, rfl, x1, [y1], rfl, y1, [], rfl, rfl, rfl, ?_⟩
    refine tyes_if ?_
    refine ⟨_, rfl, _, rfl, _, rfl, _, rfl, _, _, _, _, rfl, dp_same mm _ _ dy, dp_same mm _ _ dx, szV hyb, szV hxa, trivial, fun u3 H3 m3 e3 => ?_⟩
    refine ⟨_, _, _, _, rfl, dp_same (gT.same.trans m3) _ _ e2, e3, sz_le zs (by decide), sz_le (ht_sub hyb hxa) (by decide), trivial, fun u4 H4 m4 e4 => ?_⟩
    refine ⟨_, _, _, _, rfl, dp_same (mm.trans (m3.trans m4)) _ _ dx, e4, szV hxa, sz_le (ht_mul zs (ht_sub hyb hxa)) (by decide), trivial, fun u5 H5 m5 e5 => ?_⟩
    have g5 := gT.step (m3.trans (m4.trans m5))
    obtain ⟨acc, k1, k2, k3⟩ := g5.more (g5.hid rfl e5)
    refine ⟨acc, k1, ?_, ?_⟩
    · rw [k2, List.length_map, List.length_take]; exact line_small (by omega)
    · have hmi : (midL a b h k)[i]? = some (a[i] + h / (h - k) * (b[i] - a[i])) := by
        unfold midL
        rw [List.getElem?_zipWith, List.getElem?_eq_getElem hi, List.getElem?_eq_getElem hib]
      rw [List.take_add_one, hmi, List.map_append]
      exact k3
  · intro H' g
    have el : (midL a b h k).take a.length = midL a b h k := List.take_of_length_le (by unfold midL; rw [List.length_zipWith]; omega)
    rw [el] at g
    obtain ⟨acc, k1, k2⟩ := g.ex
    refine .inl ⟨D, acc, rfl, SqL.of k1, fun p hp => ?_⟩
    refine q _ _ (n2.trans (g.same.trans (same_new hp _))) ?_
    exact .tup (SqT.of upd_same) (dpAll_same ((hide_sub D H').trans (same_new hp _)) _ _ k2)
end
end Yd

set_option Elab.async false
set_option linter.all false
set_option maxRecDepth 100000
set_option maxHeartbeats 4000000
namespace Yd
open PySem PySem.Spec PyProof.Rows L2 Dial
/-- what a def gives back that makes a list: a new one -/
abbrev GivesL (K : PySem.W.Frag) (H : Hp) (Q : VK) (ds : List PyData) : Prop := ∀ p H', Grown K H p ds H' → Q (.ref p) H'
/-! ### kept_side -/
abbrev sKept : Stmt := topS 20
def zipR (cs : List (List Rat)) (hs : List Rat) : List (List Rat × Rat) := cs.zip hs
theorem zip_get {α β : Type} {xs : List α} {ys : List β} {i : Nat} (h : i < xs.length) (k : i < ys.length) (hz : i < (xs.zip ys).length) : (xs.zip ys)[i]'hz = (xs[i], ys[i]) := by
  rw [List.getElem_zip]
abbrev spKept (K : PySem.W.Frag) : Sp := fun vs H Q _ => ∃ (v1 v2 : V) (m : Nat) (cs : List (List Rat)) (hs : List Rat), vs = [v1, v2] ∧ Dp K H v1 (.list (cs.map dRs)) ∧ Dp K H v2 (.list (hs.map dR)) ∧
  cs.length = hs.length ∧ cs.length ≤ 1000 ∧ m ≤ 3 ∧ (∀ c ∈ cs, c.length = m ∧ ∀ x ∈ c, Ht nV x) ∧ (∀ h ∈ hs, Ht nH h) ∧ GivesL K H Q ((keptC midL (cs.zip hs)).map dRs)
section
variable {P : Program} {w : World} {K : PySem.W.Frag} {mg : Str → Option Value} {base : Heap}
theorem ok_kept (D : Df K mg "kept_side" sKept ["corners", "heights"]) {aN : Addr} (mN : mg "NOUGHT" = some (.ref aN)) (dN : ∀ H, Dp K H (.ref aN) (dR 0)) (mr : mg "range" = none) (ml : mg "len" = none)
    (hU : Has P w K mg base 1 "is_under" (spUnder K)) (hM : Has P w K mg base 42 "ratio_times" (spRat2 K (fun _ _ => True) (fun x y => x * y))) (hB : Has P w K mg base 43 "between" (spBetween K)) : Has P w K mg base 44 "kept_side" (spKept K) := by
  have S : FnScope ["corners", "heights", "found", "k", "later"] ["corners", "heights"] (defScope sKept) := ⟨rfl, rfl, rfl, by decide +kernel, rfl, by decide +kernel, by decide +kernel⟩
  refine has0 D S (by rintro _ _ _ _ ⟨_, _, _, _, _, rfl, _⟩; rfl) (fun f cdv A outer s H vs Q E hr h => ?_)
  obtain ⟨v1, v2, m, cs, hs, rfl, d1, d2, hl, hcap, hm, zc, zh, q⟩ := h
  obtain ⟨a, xs, rfl, sa, da⟩ := dp_lst d1
  obtain ⟨b, ys, rfl, sb, db⟩ := dp_lst d2
  have hx : xs.length = cs.length := map_len da
  have hy : ys.length = hs.length := map_len db
  have hm1 : cs.length ≤ 1000000 := by omega
  have hzl : (cs.zip hs).length = cs.length := by rw [List.length_zip]; omega
  refine ⟨_, pss_cons (ps_set (i := 2) S.nd rfl (.inl rfl) (pe_lst pa_nil))
    (pss_cons (ps_for PassesOwn.never rfl (pi_range1 (by rfl) mr (pa_cons (pe_callB call_len_seq (by rfl) ml PySem.boot_len (pa_cons (pv 0) pa_nil)) pa_nil)) (pg_name (i := 3) S.nd rfl (.inl rfl))
      (pss_cons (ps_set (i := 4) S.nd rfl (.inl rfl) (pe_op op_mod (pe_op op_add (pv 3) pe_int) (pe_callB call_len_seq (by rfl) ml PySem.boot_len (pa_cons (pv 0) pa_nil))))
      (Evl.pss_cut (ps_if (pt_not (pt_val (pe_h hU hr (by decide) (by rfl) (pa_cons (pe_ix ix_list (pv 1) (pv 3) (fun _ _ => rfl)) (pa_cons (pe_glob (v := .ref aN) (by rfl) mN rfl) pa_nil)))))
        (pss_one (ps_expr (pe_bm PySem.F.plainAttrs_list PySem.F.slot_list_append PySem.F.type_list_append mt_append (pv 2) (pa_cons (pe_ix ix_list (pv 0) (pv 3) (fun _ _ => rfl)) pa_nil)))) pss_nil)
      (pss_one (ps_if (pt_val (pe_h hU hr (by decide) (by rfl) (pa_cons (pe_h hM hr (by decide) (by rfl) (pa_cons (pe_ix ix_list (pv 1) (pv 3) (fun _ _ => rfl)) (pa_cons (pe_ix ix_list (pv 1) (pv 4) (fun _ _ => rfl)) pa_nil))) (pa_cons (pe_glob (v := .ref aN) (by rfl) mN rfl) pa_nil))))
        (pss_one (ps_expr (pe_bm PySem.F.plainAttrs_list PySem.F.slot_list_append PySem.F.type_list_append mt_append (pv 2) (pa_cons (pe_h hB hr (by decide) (by rfl)
          (pa_cons (pe_ix ix_list (pv 0) (pv 3) (fun _ _ => rfl)) (pa_cons (pe_ix ix_list (pv 0) (pv 4) (fun _ _ => rfl)) (pa_cons (pe_ix ix_list (pv 1) (pv 3) (fun _ _ => rfl)) (pa_cons (pe_ix ix_list (pv 1) (pv 4) (fun _ _ => rfl)) pa_nil))))) pa_nil)))) pss_nil)))))
    (pss_one (ps_ret (pv 2)))), ?_⟩
  refine ⟨Nat.zero_le _, fun o no => ?_⟩
  have g0 := Grown.start (K := K) no
  refine ⟨_, rfl, a, _, rfl, .inl (g0.same.seq sa), _, rfl, ?_⟩
  rw [hx]
  refine ⟨(nat62 hm1).1, (nat62 hm1).2, ?_⟩
  refine for_range (lo := 0) (n := cs.length) (fun i σ H' => ∃ y3 y4, σ = [some (.ref a), some (.ref b), some (.ref o), y3, y4] ∧ Grown K H o ((((gedges (cs.zip hs)).take i).flatMap (keptE midL)).map dRs) H')
    ⟨none, none, rfl, g0⟩ (fun i σ H' hi hI => ?_) (fun σ H' hI => ?_)
  · obtain ⟨y3, y4, rfl, g⟩ := hI
    have hn : (i + 1) % cs.length < cs.length := Nat.mod_lt _ (by omega)
    have eg := gedges_get (cs.zip hs) i (by omega)
    have ej : (i + 1) % (cs.zip hs).length = (i + 1) % cs.length := by rw [hzl]
    have e1 : (cs.zip hs)[i]'(by omega) = (cs[i], hs[i]'(by omega)) := zip_get _ _ _
    have e2 : (cs.zip hs)[(i + 1) % (cs.zip hs).length]'(Nat.mod_lt _ (by omega)) = (cs[(i + 1) % cs.length], hs[(i + 1) % cs.length]'(by omega)) := by
      rw [List.getElem_zip]
      simp only [ej]
    rw [e1, e2] at eg
    obtain ⟨c1, gc1, dc1⟩ := map_get da hi
    obtain ⟨c2, gc2, dc2⟩ := map_get da hn
    obtain ⟨h1, gh1, dh1⟩ := map_get db (i := i) (by omega)
    obtain ⟨h2, gh2, dh2⟩ := map_get db (i := (i + 1) % cs.length) (by omega)
    have zc1 := zc _ (List.getElem_mem hi)
    have zc2 := zc _ (List.getElem_mem hn)
    have zh1 := zh _ (List.getElem_mem (show i < hs.length by omega))
    have zh2 := zh _ (List.getElem_mem (show (i + 1) % cs.length < hs.length by omega))
    have len0 : (((gedges (cs.zip hs)).take i).flatMap (keptE midL)).length ≤ 2000 := by
      have := keptE_len midL ((gedges (cs.zip hs)).take i)
      rw [List.length_take, gedges_len, hzl] at this
      omega
    rw [flat_step (keptE midL) eg]
    generalize ((gedges (cs.zip hs)).take i).flatMap (keptE midL) = F at *
    generalize cs[i] = ca at *
    generalize cs[(i + 1) % cs.length] = cb at *
    generalize hs[i]'(by omega) = ha at *
    generalize hs[(i + 1) % cs.length]'(by omega) = hb at *
    have at1 : atI xs (0 + (i : Int)) = some c1 := at_of (Int.zero_add _) gc1
    have at2 : atI xs ((0 + (i : Int) + 1) % (cs.length : Int)) = some c2 := at_of (ix_next i cs.length) gc2
    have at3 : atI ys (0 + (i : Int)) = some h1 := at_of (Int.zero_add _) gh1
    have at4 : atI ys ((0 + (i : Int) + 1) % (cs.length : Int)) = some h2 := at_of (ix_next i cs.length) gh2
    refine ⟨_, rfl, _, _, rfl, rfl, _, rfl, a, xs, rfl, .inl (g.same.seq sa), _, _, rfl, rfl, (by rw [hx]; omega), ?_⟩
    rw [hx]
    refine ⟨fun σ' H1 => σ' = [some (.ref a), some (.ref b), some (.ref o), some (.int (0 + (i : Int))), some (.int ((0 + (i : Int) + 1) % (cs.length : Int)))] ∧ Grown K H o ((F ++ Dial.here (ca, ha)).map dRs) H1, ?_, ?_⟩
    · refine ⟨_, rfl, _, rfl, b, ys, _, _, rfl, rfl, g.same.seq sb, at3, _, _, _, _, rfl, dp_same g.same _ _ dh1, dN _, szH zh1, sz_le (n := 1) ⟨by decide, by decide⟩ (by decide), _, rfl, ?_⟩
      unfold Dial.here
      by_cases c : ha < 0
      · rw [decide_eq_true c, if_neg (by simpa using c)]
        refine iteF ?_
        refine ⟨rfl, ?_⟩
        rw [List.append_nil]; exact g
      · rw [decide_eq_false c, if_pos c]
        refine iteT ?_
        obtain ⟨acc, k1, k2, k3⟩ := g.more (g.old dc1)
        refine ⟨_, rfl, .inl ⟨rfl, _, SqL.of k1⟩, _, rfl, _, rfl, a, xs, _, _, rfl, rfl, g.same.seq sa, at1, o, acc, _, rfl, rfl, k1, ?_, rfl, ?_⟩
        · rw [k2, List.length_map]; exact line_small (by omega)
        · rw [List.map_append]; exact k3
    · rintro σ1 H1 ⟨rfl, g1⟩
      have len1 : (F ++ Dial.here (ca, ha)).length ≤ 2001 := by
        have : (Dial.here (ca, ha)).length ≤ 1 := by unfold Dial.here; split <;> simp
        rw [List.length_append]; omega
      have fin : F ++ keptE midL ((ca, ha), (cb, hb)) = (F ++ Dial.here (ca, ha)) ++ mids midL (ca, ha) (cb, hb) := by unfold keptE; rw [List.append_assoc]
      rw [fin]
      generalize F ++ Dial.here (ca, ha) = G at *
      refine ⟨_, rfl, _, rfl, b, ys, _, _, rfl, rfl, g1.same.seq sb, at3, _, rfl, _, rfl, b, ys, _, _, rfl, rfl, g1.same.seq sb, at4, _, _, _, _, rfl, dp_same g1.same _ _ dh1, dp_same g1.same _ _ dh2, szH zh1, szH zh2, trivial, fun u2 H2 m2 e2 => ?_⟩
      have g2 := g1.step m2
      refine ⟨_, _, _, _, rfl, e2, dN _, sz_le (ht_mul zh1 zh2) (by decide), sz_le (n := 1) ⟨by decide, by decide⟩ (by decide), _, rfl, ?_⟩
      unfold mids
      by_cases c : ha * hb < 0
      · rw [decide_eq_true c, if_pos c]
        refine iteT ?_
        obtain ⟨acc0, k0, _⟩ := g2.ex
        refine ⟨_, rfl, .inl ⟨rfl, _, SqL.of k0⟩, _, rfl, _, rfl, a, xs, _, _, rfl, rfl, g2.same.seq sa, at1, _, rfl, _, rfl, a, xs, _, _, rfl, rfl, g2.same.seq sa, at2, _, rfl, _, rfl, b, ys, _, _, rfl, rfl, g2.same.seq sb, at3, _, rfl, _, rfl, b, ys, _, _, rfl, rfl, g2.same.seq sb, at4, ?_⟩
        refine ⟨_, _, _, _, ca, cb, ha, hb, rfl, dp_same g2.same _ _ dc1, dp_same g2.same _ _ dc2, dp_same g2.same _ _ dh1, dp_same g2.same _ _ dh2, by rw [zc1.1, zc2.1], by rw [zc1.1]; exact hm, zc1.2, zc2.2, zh1, zh2, c, fun u3 H3 m3 e3 => ?_⟩
        have g3 := g2.step m3
        obtain ⟨acc, k1, k2, k3⟩ := g3.more (g3.hid (lf_rats _) e3)
        refine ⟨o, acc, _, rfl, rfl, k1, ?_, _, _, rfl, ?_⟩
        · rw [k2, List.length_map]; exact line_small (by omega)
        · rw [List.map_append]; exact k3
      · rw [decide_eq_false c, if_neg c]
        refine iteF ?_
        refine ⟨_, _, rfl, ?_⟩
        rw [List.append_nil]; exact g2
  · obtain ⟨y3, y4, rfl, g⟩ := hI
    have el : (gedges (cs.zip hs)).take cs.length = gedges (cs.zip hs) := List.take_of_length_le (by rw [gedges_len]; omega)
    rw [el, ← keptC_edges] at g
    exact ⟨.ref o, rfl, q o H' g⟩
end
end Yd

/-! Tidying, by the numbers of the corners. No program here. -/
namespace Dial
def keepU (n : Nat) (e : Pt × Pt) : List Pt := if e.2 ≠ e.1 ∨ n = 1 then [e.2] else []
theorem unlikeC_flat (P : List Pt) : unlikeC P = (epath (lastD (0, 0) P) P).flatMap (keepU P.length) := by
  unfold unlikeC
  by_cases h : P.length = 1
  · rw [if_pos h]
    obtain ⟨a, rfl⟩ := List.length_eq_one_iff.mp h
    simp [epath, keepU, lastD]
  · rw [if_neg h]
    have key : ∀ (l : List Pt) (p : Pt), unlikeP p l = (epath p l).flatMap (keepU P.length) := by
      intro l
      induction l with
      | nil => intro p; rfl
      | cons b t ih =>
        intro p
        simp only [unlikeP, epath, List.flatMap_cons]
        rw [ih b]
        unfold keepU
        by_cases c : b = p
        · rw [if_neg (by simp [c]), if_neg (by simp [c, h])]
        · rw [if_pos c, if_pos (Or.inl c)]
    exact key _ _
theorem lastD_get : ∀ (U : List Pt) (d : Pt) (h : U.length - 1 < U.length), lastD d U = U[U.length - 1]
  | [], _, h => by simp at h
  | [a], _, _ => rfl
  | a :: b :: t, d, h => by
    have := lastD_get (b :: t) a (by simp)
    simp only [lastD] at this ⊢
    rw [this]
    simp
/-- the one ahead, all round -/
def prv (U : List Pt) (k : Nat) : Pt := (lastD (0, 0) U :: U).getD k (0, 0)
theorem epath_prv (U : List Pt) (k : Nat) (h : k < U.length) : (epath (lastD (0, 0) U) U)[k]? = some (prv U k, U[k]) := by
  rw [epath_get U _ k h]
  unfold prv
  rw [List.getD_eq_getElem?_getD, List.getElem?_eq_getElem (by simp; omega)]
  rfl
theorem prv_zero {U : List Pt} (h : 0 < U.length) : prv U 0 = U[U.length - 1] := lastD_get U (0, 0) (by omega)
theorem prv_succ {U : List Pt} {k : Nat} (h : k < U.length) : prv U (k + 1) = U[k] := by
  unfold prv
  rw [List.getD_eq_getElem?_getD, List.getElem?_cons_succ, List.getElem?_eq_getElem h]
  rfl
theorem prv_mem {U : List Pt} {k : Nat} (h : k < U.length) : prv U k ∈ U := by
  cases k with
  | zero => rw [prv_zero h]; exact List.getElem_mem _
  | succ k => rw [prv_succ (by omega)]; exact List.getElem_mem _
def trip : Pt → List Pt → List (Pt × Pt × Pt)
  | p, b :: d :: t => (p, b, d) :: trip b (d :: t)
  | _, _ => []
def trips : List Pt → List (Pt × Pt × Pt)
  | [] => []
  | a :: t => trip (lastD a t) (a :: t ++ [a])
def keepF (e : Pt × Pt × Pt) : List Pt := if turn e.1 e.2.1 e.2.2 ≠ 0 then [e.2.1] else []
theorem foundP_flat' : ∀ (l : List Pt) (p : Pt), foundP p l = (trip p l).flatMap keepF
  | [], _ => rfl
  | [_], _ => rfl
  | b :: d :: t, p => by
    simp only [foundP, trip, List.flatMap_cons]
    rw [foundP_flat' (d :: t) b]
    rfl
theorem foundC_flat (U : List Pt) : foundC U = (trips U).flatMap keepF := by
  cases U with
  | nil => rfl
  | cons a t => exact foundP_flat' _ _
theorem trip_len : ∀ (l : List Pt) (p : Pt), (trip p l).length = l.length - 1
  | [], _ => rfl
  | [_], _ => rfl
  | b :: d :: t, p => by
    simp only [trip, List.length_cons]
    rw [trip_len (d :: t) b]
    simp
theorem trip_get : ∀ (l : List Pt) (p : Pt) (k : Nat) (h : k + 1 < l.length), (trip p l)[k]? = some ((p :: l)[k]'(by simp; omega), l[k]'(by omega), l[k + 1])
  | [], _, _, h => by simp at h
  | [_], _, _, h => by simp at h
  | b :: d :: t, p, 0, _ => rfl
  | b :: d :: t, p, k + 1, h => by
    have := trip_get (d :: t) b k (by simpa using h)
    simpa [trip] using this
theorem trips_len (U : List Pt) : (trips U).length = U.length := by
  cases U with
  | nil => rfl
  | cons a t => simp only [trips]; rw [trip_len]; simp
theorem trips_get (U : List Pt) (k : Nat) (h : k < U.length) : (trips U)[k]? = some (prv U k, U[k], U[(k + 1) % U.length]'(Nat.mod_lt _ (by omega))) := by
  cases U with
  | nil => simp at h
  | cons a t =>
    simp only [trips]
    rw [trip_get _ _ k (by simp at h ⊢; omega)]
    have h1 : (lastD a t :: (a :: t ++ [a]))[k]'(by simp at h ⊢; omega) = prv (a :: t) k := by
      unfold prv
      rw [List.getD_eq_getElem?_getD]
      have e : (lastD a t :: (a :: t ++ [a])) = (lastD (0, 0) (a :: t) :: (a :: t)) ++ [a] := rfl
      have hk : k < (lastD (0, 0) (a :: t) :: (a :: t)).length := by simp at h ⊢; omega
      rw [List.getElem?_eq_getElem hk]
      simp only [e]
      rw [List.getElem_append_left hk]
      rfl
    have h2 : (a :: t ++ [a])[k]'(by simp at h ⊢; omega) = (a :: t)[k] := List.getElem_append_left h
    have h3 : (a :: t ++ [a])[k + 1]'(by simp at h ⊢; omega) = (a :: t)[(k + 1) % (a :: t).length]'(Nat.mod_lt _ (by simp)) := by
      by_cases c : k + 1 < (a :: t).length
      · rw [List.getElem_append_left c]
        have : (k + 1) % (a :: t).length = k + 1 := Nat.mod_eq_of_lt c
        simp only [this]
      · have hk : k + 1 = (a :: t).length := by omega
        have : (k + 1) % (a :: t).length = 0 := by rw [hk]; simp
        simp only [this]
        rw [List.getElem_append_right (by omega)]
        simp
    rw [h1, h2, h3]
theorem keepU_len (n : Nat) (l : List (Pt × Pt)) : (l.flatMap (keepU n)).length ≤ l.length := by
  induction l with
  | nil => simp
  | cons e l ih =>
    rw [List.flatMap_cons, List.length_append, List.length_cons]
    have : (keepU n e).length ≤ 1 := by unfold keepU; split <;> simp
    omega
theorem keepF_len (l : List (Pt × Pt × Pt)) : (l.flatMap keepF).length ≤ l.length := by
  induction l with
  | nil => simp
  | cons e l ih =>
    rw [List.flatMap_cons, List.length_append, List.length_cons]
    have : (keepF e).length ≤ 1 := by unfold keepF; split <;> simp
    omega
theorem leastTo_lt (G : List Pt) : ∀ k, k < G.length → leastTo G k < G.length
  | 0, h => h
  | k + 1, h => by
    simp only [leastTo]
    split
    · exact h
    · exact leastTo_lt G k (by omega)
theorem getD_get {G : List Pt} {k : Nat} (h : k < G.length) : G.getD k (0, 0) = G[k] := by
  rw [List.getD_eq_getElem?_getD, List.getElem?_eq_getElem h]; rfl
end Dial

set_option Elab.async false
set_option linter.all false
set_option maxRecDepth 100000
set_option maxHeartbeats 4000000
namespace Yd
open PySem PySem.Spec PyProof.Rows L2 Dial
/-! ### == of data -/
theorem eqv_rat (x y : Rat) : PyData.eqv (dR x) (dR y) = decide (x = y) := by
  show (x.num == y.num && ((x.den : Int) == (y.den : Int) && true)) = decide (x = y)
  by_cases c : x = y
  · subst c; simp
  · rw [decide_eq_false c]
    by_cases a : x.num = y.num
    · have b : x.den ≠ y.den := fun b => c (Rat.ext a b)
      have b2 : ¬ (x.den : Int) = (y.den : Int) := by omega
      simp [a, b2]
    · simp [a]
theorem eqv_pt (p q : Pt) : PyData.eqv (dP p) (dP q) = decide (p = q) := by
  show (PyData.eqv (dR p.1) (dR q.1) && (PyData.eqv (dR p.2) (dR q.2) && true)) = decide (p = q)
  rw [eqv_rat, eqv_rat, Bool.and_true]
  by_cases c : p = q
  · subst c; simp
  · rw [decide_eq_false c]
    by_cases a : p.1 = q.1
    · have b : ¬ p.2 = q.2 := fun b => c (Prod.ext a b)
      simp [a, b]
    · simp [a]
theorem shaped_rat (x : Rat) : SeqAt.shaped (dR x) = true := rfl
theorem shaped_pt (p : Pt) : SeqAt.shaped (dP p) = true := rfl
theorem part_lay : ∀ (R : List Pt), PyData.canLayAll0 (R.map dP) = true ∧ PyData.depthAll (R.map dP) ≤ 2
  | [] => ⟨rfl, by decide⟩
  | p :: R => by
    obtain ⟨a, b⟩ := part_lay R
    constructor
    · show (PyData.canLay0 (dP p) && PyData.canLayAll0 (R.map dP)) = true
      rw [a]; rfl
    · show max (PyData.depth (dP p)) (PyData.depthAll (R.map dP)) ≤ 2
      have : PyData.depth (dP p) = 2 := rfl
      omega
theorem shaped_part (R : List Pt) : SeqAt.shaped (dPart R) = true := by
  obtain ⟨a, b⟩ := part_lay R
  unfold SeqAt.shaped
  have h1 : PyData.canLay0 (dPart R) = true := a
  have h2 : PyData.depth (dPart R) = PyData.depthAll (R.map dP) + 1 := rfl
  rw [h1, h2]
  simp
  omega
theorem eqv_nil (R : List Pt) : PyData.eqv (dPart R) (.list []) = decide (R = []) := by
  cases R with
  | nil => rfl
  | cons p R => simp [PyData.eqv, PyData.eqvAll]
theorem nil_dp {K : PySem.W.Frag} {H : Hp} {p : Addr} (h : H p = some (.lst [])) : Dp K H (.ref p) (.list []) := .lst (SqL.of h) .nil
/-! rules whose reading does not name the context (within a comprehension) -/
theorem ixl {X : Cx} {K : PySem.W.Frag} (h : X.K = K) : IxR X (rIxL K) := by subst h; exact ix_list
theorem ixt {X : Cx} {K : PySem.W.Frag} (h : X.K = K) : IxR X (rIxT K) := by subst h; exact ix_tup
theorem neD {X : Cx} {K : PySem.W.Frag} (h : X.K = K) (hu : X.A.units + 64 < cLine) : OpR X (compareOp .NotEq) (rNeD K) := by subst h; exact op_neD hu
theorem eqD {X : Cx} {K : PySem.W.Frag} (h : X.K = K) (hu : X.A.units + 64 < cLine) : OpR X (compareOp .Eq) (rEqD K) := by subst h; exact op_eqD hu
def rLenS (K : PySem.W.Frag) : List V → Hp → VK → Prop := fun xs H Q => ∃ p ys, xs = [.ref p] ∧ (SqL K H p ys ∨ SqT K H p ys) ∧ Q (.int ys.length) H
theorem lenS {X : Cx} {K : PySem.W.Frag} (h : X.K = K) : CallR X (.builtin "len") (rLenS K) := by subst h; exact call_len_seq
/-! ### is_before -/
abbrev sBefore : Stmt := topS 21
abbrev sTidied : Stmt := topS 22
def spBefore (K : PySem.W.Frag) : Sp := fun vs H Q _ => ∃ (v1 v2 : V) (a b : Pt), vs = [v1, v2] ∧ Dp K H v1 (dP a) ∧ Dp K H v2 (dP b) ∧ PHt nV a ∧ PHt nV b ∧ Q (.bl (before a b)) H
section
variable {P : Program} {w : World} {K : PySem.W.Frag} {mg : Str → Option Value} {base : Heap}
theorem ok_before (D : Df K mg "is_before" sBefore ["one", "other"]) (hU : Has P w K mg base 1 "is_under" (spUnder K)) : Has P w K mg base 2 "is_before" (spBefore K) := by
  have S : FnScope ["one", "other"] ["one", "other"] (defScope sBefore) := ⟨rfl, rfl, rfl, by decide +kernel, rfl, by decide +kernel, by decide +kernel⟩
  refine has0 D S (by rintro _ _ _ _ ⟨_, _, _, _, rfl, _⟩; rfl) (fun f cdv A outer s H vs Q E hr h => ?_)
  obtain ⟨v1, v2, a, b, rfl, da, db, ha, hb, q⟩ := h
  obtain ⟨pa, a1, a2, rfl, sa, da1, da2⟩ := dp_place da
  obtain ⟨pb, b1, b2, rfl, sb, db1, db2⟩ := dp_place db
  refine ⟨_, pss_cons (ps_if (pt_cmpR (op_neD hr.units) (pe_ix ix_tup (pv 0) pe_int (fun _ _ => rfl)) (pe_ix ix_tup (pv 1) pe_int (fun _ _ => rfl)) (nomark _))
      (pss_one (ps_ret (pe_h hU hr (by decide) (by rfl) (pa_cons (pe_ix ix_tup (pv 0) pe_int (fun _ _ => rfl)) (pa_cons (pe_ix ix_tup (pv 1) pe_int (fun _ _ => rfl)) pa_nil))))) pss_nil)
    (pss_one (ps_ret (pe_h hU hr (by decide) (by rfl) (pa_cons (pe_ix ix_tup (pv 0) pe_int (fun _ _ => rfl)) (pa_cons (pe_ix ix_tup (pv 1) pe_int (fun _ _ => rfl)) pa_nil))))), ?_⟩
  refine ⟨_, rfl, pa, _, 0, _, rfl, rfl, sa, atI_nat (j := 0) rfl, _, rfl, pb, _, 0, _, rfl, rfl, sb, atI_nat (j := 0) rfl, _, _, da1, db1, shaped_rat _, shaped_rat _, _, rfl, ?_⟩
  rw [eqv_rat]
  unfold before at q
  by_cases c : a.1 = b.1
  · rw [decide_eq_true c]
    rw [if_neg (by simpa using c)] at q
    refine iteF ?_
    exact ⟨_, rfl, pa, _, 1, _, rfl, rfl, sa, atI_nat (j := 1) rfl, _, rfl, pb, _, 1, _, rfl, rfl, sb, atI_nat (j := 1) rfl, _, _, _, _, rfl, da2, db2, szV ha.2, szV hb.2, q⟩
  · rw [decide_eq_false c]
    rw [if_pos c] at q
    refine iteT ?_
    exact ⟨_, rfl, pa, _, 0, _, rfl, rfl, sa, atI_nat (j := 0) rfl, _, rfl, pb, _, 0, _, rfl, rfl, sb, atI_nat (j := 0) rfl, _, _, _, _, rfl, da1, db1, szV ha.1, szV hb.1, q⟩
end
theorem Grown.base {K : PySem.W.Frag} {A B H : Hp} {D : Addr} {ds : List PyData} (g : Grown K B D ds H) (m : Same A B) : Grown K A D ds H := ⟨m.free g.free, m.trans g.same, g.ex⟩
/-! ### tidied_part -/
theorem prv_get {K : PySem.W.Frag} {H : Hp} {U : List Pt} {xs : List V} (h : DpAll K H xs (U.map dP)) {k : Nat} (hk : k < U.length) : ∃ v, atI xs ((k : Int) - 1) = some v ∧ Dp K H v (dP (prv U k)) := by
  have hl : xs.length = U.length := map_len h
  cases k with
  | zero =>
    obtain ⟨v, g, d⟩ := map_get h (i := U.length - 1) (by omega)
    refine ⟨v, ?_, by rw [prv_zero hk]; exact d⟩
    have e : ixN xs.length (((0 : Nat) : Int) - 1) = some (U.length - 1) := by
      unfold ixN
      rw [if_neg (by omega), if_pos (by omega)]
      congr 1
      omega
    unfold atI
    rw [e]
    exact g
  | succ k =>
    obtain ⟨v, g, d⟩ := map_get h (i := k) (by omega)
    refine ⟨v, at_of (by omega) g, by rw [prv_succ (by omega)]; exact d⟩
theorem cut_from {α : Type} {xs : List V} {k : Nat} (h : k ≤ xs.length) : cutV xs (some (k : Int)) none = xs.drop k := by
  unfold cutV
  rw [HT.sIx_nat, HT.sIx_none, Nat.min_eq_left h]
  exact List.take_of_length_le (by rw [List.length_drop]; exact Nat.le_refl _)
theorem cut_to {xs : List V} {k : Nat} (h : k ≤ xs.length) : cutV xs none (some (k : Int)) = xs.take k := by
  unfold cutV
  rw [HT.sIx_nat, HT.sIx_none, Nat.min_eq_left h]
  simp
abbrev spTidied (K : PySem.W.Frag) : Sp := fun vs H Q _ => ∃ (v : V) (R : List Pt), vs = [v] ∧ Dp K H v (dPart R) ∧ (∀ z ∈ R, PHt nV z) ∧ R.length ≤ most ∧ GivesL K H Q ((tidy R).map dP)
section
variable {P : Program} {w : World} {K : PySem.W.Frag} {mg : Str → Option Value} {base : Heap}
theorem ok_tidied (D : Df K mg "tidied_part" sTidied ["corners"]) {aN : Addr} (mN : mg "NOUGHT" = some (.ref aN)) (dN : ∀ H, Dp K H (.ref aN) (dR 0)) (mr : mg "range" = none) (ml : mg "len" = none)
    (hU : Has P w K mg base 1 "is_under" (spUnder K)) (hT : Has P w K mg base 43 "turn_at" (spTurn K)) (hS : Has P w K mg base 43 "share_of" (spShare K)) (hB : Has P w K mg base 2 "is_before" (spBefore K)) : Has P w K mg base 44 "tidied_part" (spTidied K) := by
  have S : FnScope ["corners", "k", "unlike", "many", "found", "first"] ["corners"] (defScope sTidied) := ⟨rfl, rfl, rfl, by decide +kernel, rfl, by decide +kernel, by decide +kernel⟩
  refine has0 D S (by rintro _ _ _ _ ⟨_, _, rfl, _⟩; rfl) (fun f cdv A outer s H vs Q E hr h => ?_)
  obtain ⟨v, R, rfl, dv, hp, hlen, q⟩ := h
  obtain ⟨a, xs, rfl, sa, da⟩ := dp_lst dv
  have hx : xs.length = R.length := map_len da
  have hm : R.length ≤ 1000 := Nat.le_trans hlen (by decide)
  refine ⟨_, pss_cons (ps_setLc (i := 2) (own := [("k", 1)]) (g := gName 1) rfl S.nd rfl rfl (sw_true rfl rfl rfl (by decide +kernel))
      (pi_range1 (by rfl) mr (pa_cons (pe_callB call_len_seq (by rfl) ml PySem.boot_len (pa_cons (pv 0) pa_nil)) pa_nil))
      (blkOk_by (own := [("k", 1)]) (N := ["corners", "k", "unlike", "many", "found", "first"]) (sc := defScope sTidied) (by decide +kernel))
      (fun _ _ _ _ _ => pg_name (i := 1) S.nd rfl (.inl rfl))
      (fun _ _ _ _ _ => by exact pts_one (PW.pt (pw_or (pt_cmpR (neD (K := K) rfl hr.units) (pe_ix (ixl (K := K) rfl) (pv 0) (pv 1) (fun _ _ => rfl)) (pe_ix (ixl (K := K) rfl) (pv 0) (pe_op op_sub (pv 1) pe_int) (fun _ _ => rfl)) (nomark _))
        (pw_or1 (pt_cmpR op_eq (pe_callB (lenS (K := K) rfl) (by rfl) ml PySem.boot_len (pa_cons (pv 0) pa_nil)) pe_int (nomark _))))))
      (fun _ _ _ _ _ => by exact pe_ix (ixl (K := K) rfl) (pv 0) (pv 1) (fun _ _ => rfl)))
    (pss_cons (ps_set (i := 3) S.nd rfl (.inl rfl) (pe_callB call_len_seq (by rfl) ml PySem.boot_len (pa_cons (pv 2) pa_nil)))
    (pss_cons (ps_set (i := 4) S.nd rfl (.inl rfl) (pe_lst pa_nil))
    (pss_cons (ps_for PassesOwn.never rfl (pi_range1 (by rfl) mr (pa_cons (pv 3) pa_nil)) (pg_name (i := 1) S.nd rfl (.inl rfl))
      (pss_one (ps_if (pt_cmpR (op_neD hr.units) (pe_h hT hr (by decide) (by rfl) (pa_cons (pe_ix ix_list (pv 2) (pe_op op_sub (pv 1) pe_int) (fun _ _ => rfl)) (pa_cons (pe_ix ix_list (pv 2) (pv 1) (fun _ _ => rfl))
          (pa_cons (pe_ix ix_list (pv 2) (pe_op op_mod (pe_op op_add (pv 1) pe_int) (pv 3)) (fun _ _ => rfl)) pa_nil)))) (pe_glob (v := .ref aN) (by rfl) mN rfl) (nomark _))
        (pss_one (ps_expr (pe_bm PySem.F.plainAttrs_list PySem.F.slot_list_append PySem.F.type_list_append mt_append (pv 4) (pa_cons (pe_ix ix_list (pv 2) (pv 1) (fun _ _ => rfl)) pa_nil)))) pss_nil)))
    (pss_cons (ps_if (pt_cmpR op_lt (pe_callB call_len_seq (by rfl) ml PySem.boot_len (pa_cons (pv 4) pa_nil)) pe_int (nomark _)) (pss_one (ps_ret (pe_lst pa_nil))) pss_nil)
    (Evl.pss_cut (ps_if (pt_val (pe_h hU hr (by decide) (by rfl) (pa_cons (pe_h hS hr (by decide) (by rfl) (pa_cons (pv 4) pa_nil)) (pa_cons (pe_glob (v := .ref aN) (by rfl) mN rfl) pa_nil))))
        (pss_one (ps_set (i := 4) S.nd rfl (.inl rfl) (pe_revL (pv 4)))) pss_nil)
    (pss_cons (ps_set (i := 5) S.nd rfl (.inl rfl) pe_int)
    (pss_cons (ps_for PassesOwn.never rfl (pi_range2 (by rfl) mr (pa_cons pe_int (pa_cons (pe_callB call_len_seq (by rfl) ml PySem.boot_len (pa_cons (pv 4) pa_nil)) pa_nil))) (pg_name (i := 1) S.nd rfl (.inl rfl))
      (pss_one (ps_if (pt_val (pe_h hB hr (by decide) (by rfl) (pa_cons (pe_ix ix_list (pv 4) (pv 1) (fun _ _ => rfl)) (pa_cons (pe_ix ix_list (pv 4) (pv 5) (fun _ _ => rfl)) pa_nil))))
        (pss_one (ps_set (i := 5) S.nd rfl (.inl rfl) (pv 1))) pss_nil)))
    (pss_one (ps_ret (pe_op op_cat (pe_slice sl_list (pv 4) (po_some (pv 5)) po_none) (pe_slice sl_list (pv 4) po_none (po_some (pv 5))))))))))))), ?_⟩
  refine ⟨_, rfl, a, _, rfl, .inl sa, _, rfl, ?_⟩
  rw [hx]
  refine ⟨(nat62 (show R.length ≤ 1000000 by omega)).1, (nat62 (show R.length ≤ 1000000 by omega)).2, fun D hD => ?_⟩
  refine lc_range (lo := 0) (n := R.length) (fun i H' => Grown K H D ((((epath (lastD (0, 0) R) R).take i).flatMap (keepU R.length)).map dP) H') (Grown.start hD) (fun i H' hi g => ?_) (fun H1 g1 => ?_)
  · have eg := epath_prv R i hi
    obtain ⟨c1, gc1, dc1⟩ := map_get da hi
    obtain ⟨c0, gc0, dc0⟩ := prv_get da hi
    have at1 : atI xs (0 + (i : Int)) = some c1 := at_of (Int.zero_add _) gc1
    have at0 : atI xs (0 + (i : Int) - 1) = some c0 := by rw [Int.zero_add]; exact gc0
    have len0 : (((epath (lastD (0, 0) R) R).take i).flatMap (keepU R.length)).length ≤ 1000 := by
      have := keepU_len R.length ((epath (lastD (0, 0) R) R).take i)
      rw [List.length_take] at this
      omega
    rw [flat_step (keepU R.length) eg]
    refine ⟨rfl, _, rfl, _, rfl, a, xs, _, _, rfl, rfl, g.same.seq sa, at1, _, rfl, _, rfl, _, _, rfl, rfl, a, xs, _, _, rfl, rfl, g.same.seq sa, at0, _, _, dp_same g.same _ _ dc1, dp_same g.same _ _ dc0, shaped_pt _, shaped_pt _, _, rfl, ?_⟩
    rw [eqv_pt]
    have put : Grown K H D ((((epath (lastD (0, 0) R) R).take i).flatMap (keepU R.length) ++ [R[i]]).map dP) = Grown K H D ((((epath (lastD (0, 0) R) R).take i).flatMap (keepU R.length)).map dP ++ [dP R[i]]) := by rw [List.map_append]; rfl
    generalize ((epath (lastD (0, 0) R) R).take i).flatMap (keepU R.length) = F at *
    have app : ∀ {p : Prop}, (Grown K H D ((F ++ [R[i]]).map dP) = Grown K H D (F.map dP ++ [dP R[i]])) → ∃ acc, H' D = some (.lst acc) ∧ acc.length < sizeLine ∧ Grown K H D ((F ++ [R[i]]).map dP) (upd H' D (.lst (acc ++ [c1]))) := fun {_} e => by
      obtain ⟨acc, k1, k2, k3⟩ := g.more (g.old dc1)
      refine ⟨acc, k1, ?_, by rw [e]; exact k3⟩
      rw [k2, List.length_map]; exact line_small (by omega)
    by_cases c : R[i] = prv R i
    · rw [decide_eq_true c]
      refine iteF ?_
      refine ⟨_, rfl, a, xs, rfl, .inl (g.same.seq sa), rfl, _, rfl, ?_⟩
      rw [hx]
      by_cases c2 : R.length = 1
      · have e2 : decide (V.int (R.length : Int) = V.int 1) = true := decide_eq_true (by rw [c2]; rfl)
        rw [e2]
        refine iteT ?_
        have ek : keepU R.length (prv R i, R[i]) = [R[i]] := by unfold keepU; rw [if_pos (.inr c2)]
        rw [ek]
        exact ⟨_, rfl, _, rfl, a, xs, _, _, rfl, rfl, g.same.seq sa, at1, app (p := True) put⟩
      · have e2 : decide (V.int (R.length : Int) = V.int 1) = false := decide_eq_false (fun z => c2 (by have := V.int.inj z; omega))
        rw [e2]
        refine iteF ?_
        have ek : keepU R.length (prv R i, R[i]) = [] := by unfold keepU; rw [if_neg (by simp [c, c2])]
        rw [ek, List.append_nil]
        exact g
    · rw [decide_eq_false c]
      refine iteT ?_
      refine iteT ?_
      have ek : keepU R.length (prv R i, R[i]) = [R[i]] := by unfold keepU; rw [if_pos (.inl c)]
      rw [ek]
      exact ⟨_, rfl, _, rfl, a, xs, _, _, rfl, rfl, g.same.seq sa, at1, app (p := True) put⟩
  -- unlike stands
  have eU : ((epath (lastD (0, 0) R) R).take R.length).flatMap (keepU R.length) = unlikeC R := by
    rw [unlikeC_flat, List.take_of_length_le]
    have : ∀ (l : List Pt) (b : Pt), (epath b l).length = l.length := by
      intro l
      induction l with
      | nil => intro b; rfl
      | cons c l ih => intro b; simp only [epath, List.length_cons]; rw [ih c]
    rw [this]; exact Nat.le_refl _
  rw [eU] at g1
  have hU1 : ∀ z ∈ unlikeC R, PHt nV z := fun z hz => hp z ((unlikeC_sub R).subset hz)
  have hU2 : (unlikeC R).length ≤ 1000 := Nat.le_trans (unlikeC_sub R).length_le hm
  have hF1 : (foundC (unlikeC R)).length ≤ most := Nat.le_trans (found_sub R).length_le hlen
  have hF2 : ∀ z ∈ foundC (unlikeC R), PHt nV z := fun z hz => hp z ((found_sub R).subset hz)
  have eT : tidy R = if (foundC (unlikeC R)).length < 3 then [] else rotA (leastTo (fore (foundC (unlikeC R))) ((fore (foundC (unlikeC R))).length - 1)) (fore (foundC (unlikeC R))) := rfl
  rw [eT] at q
  obtain ⟨a2, us, ea2, su, du⟩ := dp_lst g1.dp
  cases ea2
  have hu : us.length = (unlikeC R).length := map_len du
  have eFC := foundC_flat (unlikeC R)
  have eTl := trips_len (unlikeC R)
  have eTg := trips_get (unlikeC R)
  generalize hUU : unlikeC R = U at *
  refine ⟨_, rfl, D, us, rfl, .inl su, ?_⟩
  rw [hu]
  refine ⟨Nat.zero_le _, fun o no => ?_⟩
  refine ⟨_, rfl, _, rfl, (nat62 (show U.length ≤ 1000000 by omega)).1, (nat62 (show U.length ≤ 1000000 by omega)).2, ?_⟩
  refine for_range (lo := 0) (n := U.length) (fun i σ H' => ∃ y1, σ = [some (.ref a), y1, some (.ref D), some (.int U.length), some (.ref o), none] ∧ Grown K H1 o ((((trips U).take i).flatMap keepF).map dP) H')
    ⟨none, rfl, Grown.start no⟩ (fun i σ H' hi hI => ?_) (fun σ H2 hI => ?_)
  · obtain ⟨y1, rfl, g⟩ := hI
    have hn : (i + 1) % U.length < U.length := Nat.mod_lt _ (by omega)
    obtain ⟨c1, gc1, dc1⟩ := map_get du hi
    obtain ⟨c2, gc2, dc2⟩ := map_get du hn
    obtain ⟨c0, gc0, dc0⟩ := prv_get du hi
    have at1 : atI us (0 + (i : Int)) = some c1 := at_of (Int.zero_add _) gc1
    have at0 : atI us (0 + (i : Int) - 1) = some c0 := by rw [Int.zero_add]; exact gc0
    have at2 : atI us ((0 + (i : Int) + 1) % (U.length : Int)) = some c2 := at_of (ix_next i U.length) gc2
    have len0 : (((trips U).take i).flatMap keepF).length ≤ 1000 := by
      have := keepF_len ((trips U).take i)
      rw [List.length_take] at this
      omega
    have p0 := hU1 _ (prv_mem hi)
    have p1 := hU1 _ (List.getElem_mem hi)
    have p2 := hU1 _ (List.getElem_mem hn)
    rw [flat_step keepF (eTg i hi)]
    refine ⟨_, rfl, _, rfl, _, _, rfl, rfl, D, us, _, _, rfl, rfl, g.same.seq su, at0, _, rfl, _, rfl, D, us, _, _, rfl, rfl, g.same.seq su, at1, _, rfl, _, rfl, _, _, rfl, rfl, _, rfl, _, _, rfl, rfl, (by omega), D, us, _, _, rfl, rfl, g.same.seq su, at2, ?_⟩
    refine ⟨_, _, _, _, _, _, rfl, dp_same g.same _ _ dc0, dp_same g.same _ _ dc1, dp_same g.same _ _ dc2, p0, p1, p2, fun u2 H2 m2 e2 => ?_⟩
    have g2 := g.step m2
    refine ⟨_, _, e2, dN _, shaped_rat _, shaped_rat _, _, rfl, ?_⟩
    rw [eqv_rat]
    by_cases c : turn (prv U i) U[i] (U[(i + 1) % U.length]'hn) = 0
    · have ek : keepF (prv U i, U[i], U[(i + 1) % U.length]'hn) = [] := by unfold keepF; rw [if_neg (by simp [c])]
      rw [decide_eq_true c, ek, List.append_nil]
      exact iteF ⟨_, rfl, g2⟩
    · have ek : keepF (prv U i, U[i], U[(i + 1) % U.length]'hn) = [U[i]] := by unfold keepF; rw [if_pos c]
      rw [decide_eq_false c, ek]
      refine iteT ?_
      obtain ⟨acc, k1, k2, k3⟩ := g2.more (g2.old dc1)
      refine ⟨_, rfl, .inl ⟨rfl, _, SqL.of k1⟩, _, rfl, _, rfl, D, us, _, _, rfl, rfl, g2.same.seq su, at1, o, acc, _, rfl, rfl, k1, ?_, _, rfl, ?_⟩
      · rw [k2, List.length_map]; exact line_small (by omega)
      · rw [List.map_append]; exact k3
  -- found stands
  obtain ⟨y1, rfl, g2⟩ := hI
  have eF : ((trips U).take U.length).flatMap keepF = foundC U := by
    rw [eFC, List.take_of_length_le (by omega)]
  rw [eF] at g2
  obtain ⟨ao, fs, eo, sf, df⟩ := dp_lst g2.dp
  cases eo
  have hf : fs.length = (foundC U).length := map_len df
  have n2 : Same H H2 := g1.same.trans g2.same
  generalize hFF : foundC U = F at *
  refine ⟨_, rfl, o, fs, rfl, .inl sf, _, _, rfl, rfl, _, rfl, ?_⟩
  rw [hf]
  by_cases c3 : F.length < 3
  · rw [if_pos c3] at q
    have e3 : decide ((F.length : Int) < 3) = true := decide_eq_true (by omega)
    rw [e3]
    refine iteT ?_
    exact ⟨Nat.zero_le _, fun p hp2 => q p _ ((Grown.start hp2).base n2)⟩
  rw [if_neg c3] at q
  have e3 : decide ((F.length : Int) < 3) = false := decide_eq_false (by omega)
  rw [e3]
  refine iteF ?_
  have hFl : (fore F).length = F.length := by
    unfold fore
    split
    · exact List.length_reverse
    · rfl
  have hFm : ∀ z ∈ fore F, PHt nV z := fun z hz => by
    unfold fore at hz
    split at hz
    · exact hF2 z (List.mem_reverse.mp hz)
    · exact hF2 z hz
  have dFo : fore F = if share F < 0 then F.reverse else F := rfl
  refine ⟨fun σ' H' => ∃ o', σ' = [some (.ref a), y1, some (.ref D), some (.int U.length), some (.ref o'), none] ∧ Same H H' ∧ Dp K H' (.ref o') (dPart (fore F)), ?_, ?_⟩
  · refine ⟨_, rfl, _, F, rfl, g2.dp, hF2, hF1, fun u3 H3 m3 e3 => ?_⟩
    refine ⟨_, _, _, _, rfl, e3, dN _, sz_le (share_ht hF2) ?_, sz_le (n := 1) ⟨by decide, by decide⟩ (by decide), _, rfl, ?_⟩
    · have : F.length * (4 * nV + 2) ≤ most * (4 * nV + 2) := Nat.mul_le_mul_right _ hF1
      have : most * (4 * nV + 2) ≤ 50000000 := by decide
      omega
    by_cases c : share F < 0
    · rw [decide_eq_true c]
      refine iteT ?_
      refine ⟨_, rfl, o, fs, rfl, m3.seq sf, fun p hp2 => ?_⟩
      refine ⟨p, rfl, n2.trans (m3.trans (same_new hp2 _)), ?_⟩
      rw [dFo, if_pos c]
      refine .lst (SqL.of upd_same) ?_
      rw [List.map_reverse]
      exact dpAll_rev (dpAll_same (m3.trans (same_new hp2 _)) _ _ df)
    · rw [decide_eq_false c]
      refine iteF ?_
      refine ⟨o, rfl, n2.trans m3, ?_⟩
      rw [dFo, if_neg c]
      exact dp_same m3 _ _ g2.dp
  rintro σ3 H3 ⟨o', rfl, n3, d3⟩
  obtain ⟨ao', gs, eo', sg, dg⟩ := dp_lst d3
  cases eo'
  have hg : gs.length = (fore F).length := map_len dg
  generalize fore F = G at *
  have hGm : G.length ≤ 1000000 := by rw [hFl]; exact Nat.le_trans hF1 (by decide)
  have G0 : 0 < G.length := by omega
  refine ⟨_, rfl, o', gs, rfl, .inl sg, _, _, rfl, ⟨by decide, by decide, by rw [hg]; exact (nat62 hGm).1, by rw [hg]; exact (nat62 hGm).2⟩, ?_⟩
  rw [hg, show ((G.length : Int) - 1).toNat = G.length - 1 by omega]
  refine for_range (lo := 1) (n := G.length - 1) (fun i σ H' => ∃ y1, σ = [some (.ref a), y1, some (.ref D), some (.int U.length), some (.ref o'), some (.int (leastTo G i))] ∧ H' = H3)
    ⟨y1, rfl, rfl⟩ (fun i σ H' hi hI => ?_) (fun σ H' hI => ?_)
  · obtain ⟨y1, rfl, rfl⟩ := hI
    have hi1 : i + 1 < G.length := by omega
    have hl := leastTo_lt G i (by omega)
    obtain ⟨c1, gc1, dc1⟩ := map_get dg hi1
    obtain ⟨c2, gc2, dc2⟩ := map_get dg hl
    refine ⟨_, rfl, _, rfl, o', gs, _, _, rfl, rfl, sg, at_of (j := i + 1) (by omega) gc1, _, rfl, _, rfl, o', gs, _, _, rfl, rfl, sg, atI_nat gc2, ?_⟩
    refine ⟨_, _, _, _, rfl, dc1, dc2, hFm _ (List.getElem_mem hi1), hFm _ (List.getElem_mem hl), _, rfl, ?_⟩
    simp only [leastTo]
    rw [getD_get hi1, getD_get hl]
    cases hb : before (G[i + 1]'hi1) (G[leastTo G i]'hl) with
    | true =>
      refine iteT ?_
      refine ⟨_, rfl, some (.int (1 + (i : Int))), ?_, rfl⟩
      have e1 : (1 : Int) + (i : Int) = ((i + 1 : Nat) : Int) := by omega
      rw [if_pos rfl, e1]
      rfl
    | false =>
      refine iteF ?_
      refine ⟨some (.int (1 + (i : Int))), ?_, rfl⟩
      rw [if_neg (by simp)]
      rfl
  · obtain ⟨y1, rfl, rfl⟩ := hI
    have hl := leastTo_lt G (G.length - 1) (by omega)
    generalize leastTo G (G.length - 1) = j at *
    refine ⟨_, rfl, _, rfl, _, rfl, o', gs, rfl, sg, fun p1 hp1 => ?_⟩
    have m1 := same_new hp1 (.lst (cutV gs (some (j : Int)) none))
    refine ⟨_, rfl, _, rfl, _, rfl, o', gs, rfl, m1.seq sg, fun p2 hp2 => ?_⟩
    have m2 := same_new hp2 (.lst (cutV gs none (some (j : Int))))
    refine ⟨p1, p2, _, _, rfl, rfl, m2 _ _ upd_same, upd_same, ?_, fun p hp3 => ?_⟩
    · rw [cut_from (α := V) (by omega), cut_to (by omega), List.length_drop, List.length_take, sizeLine_eq]; omega
    · have m3 := same_new hp3 (.lst (cutV gs (some (j : Int)) none ++ cutV gs none (some (j : Int))))
      refine q p _ ⟨(n3.trans (m1.trans m2)).free hp3, n3.trans (m1.trans (m2.trans m3)), _, upd_same, ?_⟩
      have el : cutV gs (some (j : Int)) none ++ cutV gs none (some (j : Int)) = gs.drop j ++ gs.take j := by rw [cut_from (α := V) (by omega), cut_to (by omega)]
      rw [hide_upd, el]
      have ew : (rotA j G).map dP = (G.map dP).drop j ++ (G.map dP).take j := by unfold rotA; rw [List.map_append, List.map_drop, List.map_take]
      rw [ew]
      have dg2 := dpAll_same (same_hide (m1.trans m2) (m1.free (m2.free hp3)) |> fun z => z) _ _ dg
      exact dpAll_app (dpAll_drop j dg2) (dpAll_take j dg2)
end
end Yd

set_option Elab.async false
set_option linter.all false
set_option maxRecDepth 100000
set_option maxHeartbeats 4000000
namespace Yd
open PySem PySem.Spec PyProof.Rows L2 Dial
def nL : Nat := 2599
abbrev sBoth : Stmt := topS 23
abbrev spBoth (K : PySem.W.Frag) : Sp := fun vs H Q _ => ∃ (v1 v2 : V) (R T : List Pt), vs = [v1, v2] ∧ Dp K H v1 (dPart R) ∧ Dp K H v2 (dPart T) ∧ CC 1 R ∧ VD R ∧ Bd nV nL R ∧ (∀ z ∈ T, PHt nV z) ∧ (∀ e ∈ edges T, On nL e.1 e.2) ∧
  R.length + 4 * T.length ≤ most ∧ GivesL K H Q ((both R T).map dP)
theorem cuts_step {R : List Pt} {es : List (Pt × Pt)} {i : Nat} {e : Pt × Pt} (h : es[i]? = some e) : cuts R (es.take (i + 1)) = cutBy (cuts R (es.take i)) e := by
  unfold cuts
  rw [List.take_add_one, h, List.foldl_append]
  rfl
theorem zip_hts (e : Pt × Pt) (F : List Pt) : (F.map lp).zip (F.map fun p => turn e.1 e.2 p) = (hts e F).map fun p => (lp p.1, p.2) := by
  unfold hts
  rw [List.map_map]
  induction F with
  | nil => rfl
  | cons p F ih => simp only [List.map_cons, List.zip_cons_cons]; rw [ih]; rfl
theorem kept_data (e : Pt × Pt) (F : List Pt) : (keptC midL ((F.map lp).zip (F.map fun p => turn e.1 e.2 p))).map dRs = (cutBy F e).map dP := by
  have h := kept_map cross midL lp (fun a b h k => rfl) (hts e F)
  rw [zip_hts, ← h]
  unfold cutBy
  rw [List.map_map]
  rfl
section
variable {P : Program} {w : World} {K : PySem.W.Frag} {mg : Str → Option Value} {base : Heap}
theorem ok_both (D : Df K mg "both_of" sBoth ["one", "other"]) (mr : mg "range" = none) (ml : mg "len" = none)
    (hT : Has P w K mg base 43 "turn_at" (spTurn K)) (hK : Has P w K mg base 44 "kept_side" (spKept K)) (hY : Has P w K mg base 44 "tidied_part" (spTidied K)) : Has P w K mg base 45 "both_of" (spBoth K) := by
  have S : FnScope ["one", "other", "found", "k", "here", "there", "place"] ["one", "other"] (defScope sBoth) := ⟨rfl, rfl, rfl, by decide +kernel, rfl, by decide +kernel, by decide +kernel⟩
  refine has0 D S (by rintro _ _ _ _ ⟨_, _, _, _, rfl, _⟩; rfl) (fun f cdv A outer s H vs Q E hr h => ?_)
  obtain ⟨v1, v2, R, T, rfl, d1, d2, hC, hV, hB, zT, lT, hlen, q⟩ := h
  obtain ⟨a, xs, rfl, sa, da⟩ := dp_lst d1
  obtain ⟨b, ys, rfl, sb, db⟩ := dp_lst d2
  have hx : xs.length = R.length := map_len da
  have hy : ys.length = T.length := map_len db
  have hmost : most ≤ 300 := by decide
  refine ⟨_, pss_cons (ps_if (PW.pt (pw_or (pt_cmpR (op_eqD hr.units) (pv 0) (pe_lst pa_nil) (nomark _)) (pw_or1 (pt_cmpR (op_eqD hr.units) (pv 1) (pe_lst pa_nil) (nomark _))))) (pss_one (ps_ret (pe_lst pa_nil))) pss_nil)
    (pss_cons (ps_set (i := 2) S.nd rfl (.inl rfl) (pv 0))
    (pss_cons (ps_for PassesOwn.never rfl (pi_range1 (by rfl) mr (pa_cons (pe_callB call_len_seq (by rfl) ml PySem.boot_len (pa_cons (pv 1) pa_nil)) pa_nil)) (pg_name (i := 3) S.nd rfl (.inl rfl))
      (pss_cons (ps_set (i := 4) S.nd rfl (.inr rfl) (pe_ix ix_list (pv 1) (pv 3) (fun _ _ => rfl)))
      (pss_cons (ps_set (i := 5) S.nd rfl (.inr rfl) (pe_ix ix_list (pv 1) (pe_op op_mod (pe_op op_add (pv 3) pe_int) (pe_callB call_len_seq (by rfl) ml PySem.boot_len (pa_cons (pv 1) pa_nil))) (fun _ _ => rfl)))
      (pss_one (ps_set (i := 2) S.nd rfl (.inl rfl) (pe_h hK hr (by decide) (by rfl) (pa_cons (pv 2) (pa_cons
        (pe_lc (own := [("place", 6)]) (g := gName 6) (tt := tYes) rfl S.nd (pi_list (pv 2))
          (blkOk_by (own := [("place", 6)]) (N := ["one", "other", "found", "k", "here", "there", "place"]) (sc := defScope sBoth) (by decide +kernel))
          (fun _ _ _ _ _ => by exact pg_name (i := 6) S.nd rfl (.inl rfl)) (fun _ _ _ _ _ => pts_nil)
          (fun _ _ _ _ _ => by exact pe_h hT hr (by decide) (by rfl) (pa_cons (pv 4) (pa_cons (pv 5) (pa_cons (pv 6) pa_nil))))) pa_nil))))))))
    (pss_one (ps_ret (pe_h hY hr (by decide) (by rfl) (pa_cons (pv 2) pa_nil)))))), ?_⟩
  have eB : both R T = if R = [] ∨ T = [] then [] else tidy (cuts R (edges T)) := rfl
  rw [eB] at q
  refine ⟨_, rfl, Nat.zero_le _, fun p1 hp1 => ?_⟩
  have m1 := same_new hp1 (.lst [])
  refine ⟨_, _, dp_same m1 _ _ d1, nil_dp upd_same, shaped_part R, by decide +kernel, _, rfl, ?_⟩
  rw [eqv_nil]
  by_cases c1 : R = []
  · rw [decide_eq_true c1]
    rw [if_pos (.inl c1)] at q
    refine iteT ?_
    refine iteT ?_
    exact ⟨Nat.zero_le _, fun p hp => q p _ ((Grown.start hp).base m1)⟩
  rw [decide_eq_false c1]
  refine iteF ?_
  refine ⟨_, rfl, Nat.zero_le _, fun p2 hp2 => ?_⟩
  have m2 := m1.trans (same_new hp2 (.lst []))
  refine ⟨_, _, dp_same m2 _ _ d2, nil_dp upd_same, shaped_part T, by decide +kernel, _, rfl, ?_⟩
  rw [eqv_nil]
  by_cases c2 : T = []
  · rw [decide_eq_true c2]
    rw [if_pos (.inr c2)] at q
    refine iteT ?_
    exact ⟨Nat.zero_le _, fun p hp => q p _ ((Grown.start hp).base m2)⟩
  rw [decide_eq_false c2]
  refine iteF ?_
  rw [if_neg (by simp [c1, c2])] at q
  generalize (upd (upd H p1 (.lst [])) p2 (.lst [])) = H2 at *
  refine ⟨_, rfl, _, rfl, b, ys, rfl, .inl (m2.seq sb), _, rfl, ?_⟩
  have hT1 : T.length ≤ 1000000 := by omega
  rw [hy]
  refine ⟨(nat62 hT1).1, (nat62 hT1).2, ?_⟩
  refine for_range (lo := 0) (n := T.length) (fun i σ H' => ∃ vf y3 y4 y5, σ = [some (.ref a), some (.ref b), some vf, y3, y4, y5, none] ∧ Same H H' ∧ Dp K H' vf (dPart (cuts R ((edges T).take i))))
    ⟨.ref a, none, none, none, rfl, m2, dp_same m2 _ _ d1⟩ (fun i σ H' hi hI => ?_) (fun σ H' hI => ?_)
  · obtain ⟨vf, y3, y4, y5, rfl, m, df⟩ := hI
    have hn : (i + 1) % T.length < T.length := Nat.mod_lt _ (by omega)
    have eg := edges_get T i hi
    obtain ⟨c1, gc1, dc1⟩ := map_get db hi
    obtain ⟨c2, gc2, dc2⟩ := map_get db hn
    have at1 : atI ys (0 + (i : Int)) = some c1 := at_of (Int.zero_add _) gc1
    have at2 : atI ys ((0 + (i : Int) + 1) % (T.length : Int)) = some c2 := at_of (ix_next i T.length) gc2
    rw [cuts_step eg]
    have hes : ∀ e ∈ (edges T).take i, On nL e.1 e.2 := fun e he => lT e (List.mem_of_mem_take he)
    have hBF : Bd nV nL (cuts R ((edges T).take i)) := Bd.cuts (by decide) _ hB hes
    have hlF : (cuts R ((edges T).take i)).length ≤ 300 := by
      have := cuts_len ((edges T).take i) hV
      rw [List.length_take, edges_len] at this
      omega
    generalize cuts R ((edges T).take i) = F at *
    have zt1 := zT _ (List.getElem_mem hi)
    have zt2 := zT _ (List.getElem_mem hn)
    have kd := kept_data (T[i], T[(i + 1) % T.length]'hn) F
    generalize T[i] = ea at *
    generalize T[(i + 1) % T.length]'hn = eb at *
    obtain ⟨fa, fs, rfl, sf, dfs⟩ := dp_lst df
    have hf : fs.length = F.length := map_len dfs
    refine ⟨_, rfl, _, rfl, b, ys, _, _, rfl, rfl, m.seq sb, at1, ?_⟩
    refine ⟨_, rfl, _, rfl, _, _, rfl, rfl, _, rfl, b, ys, rfl, .inl (m.seq sb), _, _, rfl, rfl, (by rw [hy]; omega), b, ys, _, _, rfl, rfl, m.seq sb, (by rw [hy]; exact at2), ?_⟩
    refine ⟨_, rfl, _, rfl, fa, rfl, ⟨fs, sf⟩, fun D hD => ?_⟩
    refine lc_list (K := K) (a := fa) (xs := fs) (fun j H'' => Grown K H' D (((F.map fun p => turn ea eb p).take j).map dR) H'') (Grown.start hD) (fun j H'' _ g => g.same.seq sf) (fun j x H'' gx g => ?_) (fun H3 g3 => ?_)
    · have hj : j < F.length := by rw [← hf]; exact (List.getElem?_eq_some_iff.mp gx).1
      obtain ⟨x', gx', dx⟩ := map_get dfs hj
      have ex : x = x' := Option.some.inj (gx.symm.trans gx')
      subst ex
      have mm : Same H H'' := m.trans g.same
      refine ⟨rfl, ?_⟩
      refine tyes_if ?_
      refine ⟨_, rfl, _, rfl, _, rfl, _, _, _, _, _, _, rfl, dp_same mm _ _ dc1, dp_same mm _ _ dc2, dp_same g.same _ _ dx, zt1, zt2, hBF.pts _ (List.getElem_mem hj), fun u4 H4 m4 e4 => ?_⟩
      have g4 := g.step m4
      obtain ⟨acc, k1, k2, k3⟩ := g4.more (g4.hid rfl e4)
      refine ⟨acc, k1, ?_, ?_⟩
      · rw [k2, List.length_map, List.length_take, List.length_map]; exact line_small (by omega)
      · have e5 : (F.map fun p => turn ea eb p)[j]? = some (turn ea eb F[j]) := by rw [List.getElem?_map, List.getElem?_eq_getElem hj]; rfl
        rw [List.take_add_one, e5, List.map_append]
        exact k3
    · have el : (F.map fun p => turn ea eb p).take fs.length = F.map fun p => turn ea eb p := List.take_of_length_le (by rw [List.length_map]; omega)
      rw [el] at g3
      have e6 : (F.map lp).map dRs = F.map dP := by rw [List.map_map]; rfl
      refine ⟨_, _, 2, F.map lp, F.map fun p => turn ea eb p, rfl, ?_, g3.dp, by rw [List.length_map, List.length_map], by rw [List.length_map]; omega, by decide, fun c hc => ?_, fun h hh => ?_, fun p H4 g4 => ?_⟩
      · rw [e6]; exact dp_same g3.same _ _ df
      · obtain ⟨z, hz, rfl⟩ := List.mem_map.mp hc
        refine ⟨rfl, fun x hx => ?_⟩
        have := hBF.pts z hz
        simp only [List.mem_cons, List.not_mem_nil, or_false] at hx
        rcases hx with rfl | rfl
        · exact this.1
        · exact this.2
      · obtain ⟨z, hz, rfl⟩ := List.mem_map.mp hh
        exact turn_ht zt1 zt2 (hBF.pts z hz)
      · rw [kd] at g4
        exact ⟨.ref p, _, _, _, rfl, m.trans (g3.same.trans g4.same), g4.dp⟩
  · obtain ⟨vf, y3, y4, y5, rfl, m, df⟩ := hI
    have el : (edges T).take T.length = edges T := List.take_of_length_le (by rw [edges_len]; exact Nat.le_refl _)
    rw [el] at df
    have hBF : Bd nV nL (cuts R (edges T)) := Bd.cuts (by decide) _ hB lT
    have hlF : (cuts R (edges T)).length ≤ most := by
      have := cuts_len (edges T) hV
      rw [edges_len] at this
      omega
    exact ⟨_, rfl, _, _, rfl, df, hBF.pts, hlF, fun p H3 g3 => q p H3 (g3.base m)⟩
end
end Yd

set_option Elab.async false
set_option linter.all false
set_option maxRecDepth 100000
set_option maxHeartbeats 4000000
namespace Yd
open PySem PySem.Spec PyProof.Rows L2 Dial
/-! ### triples of whole numbers -/
abbrev T3 := Int × Int × Int
abbrev dT (t : T3) : PyData := .tuple [.int t.1, .int t.2.1, .int t.2.2]
def TB (n : Nat) (t : T3) : Prop := t.1.natAbs < 2 ^ n ∧ t.2.1.natAbs < 2 ^ n ∧ t.2.2.natAbs < 2 ^ n
def tPlus (x y : T3) : T3 := (x.1 + y.1, x.2.1 + y.2.1, x.2.2 + y.2.2)
def tMinus (x y : T3) : T3 := (x.1 - y.1, x.2.1 - y.2.1, x.2.2 - y.2.2)
def tInner (x y : T3) : Int := x.1 * y.1 + x.2.1 * y.2.1 + x.2.2 * y.2.2
def tCrs (x y : T3) : T3 := (x.2.1 * y.2.2 - x.2.2 * y.2.1, x.2.2 * y.1 - x.1 * y.2.2, x.1 * y.2.1 - x.2.1 * y.1)
theorem dp_t3 {K : PySem.W.Frag} {H : Hp} {v : V} {t : T3} (h : Dp K H v (dT t)) : ∃ a, v = .ref a ∧ SqT K H a [.int t.1, .int t.2.1, .int t.2.2] := by
  obtain ⟨a, xs, rfl, hs, ha⟩ := dp_tup h
  obtain ⟨x, y, z, rfl, h1, h2, h3⟩ := all3 ha
  rw [dp_int h1, dp_int h2, dp_int h3] at hs
  exact ⟨a, rfl, hs⟩
theorem t3_dp {K : PySem.W.Frag} {H : Hp} {a : Addr} {x y z : Int} (h : SqT K H a [.int x, .int y, .int z]) : Dp K H (.ref a) (dT (x, y, z)) := .tup h (.cons (.int _) (.cons (.int _) (.cons (.int _) .nil)))
theorem mul60 {a b : Int} (h : a.natAbs < 2 ^ 60) (k : b.natAbs < 2 ^ 60) : CMulG a b := mulG h k (by decide)
theorem TB.mono {n m : Nat} {t : T3} (h : TB n t) (e : n ≤ m) : TB m t := by
  have : 2 ^ n ≤ 2 ^ m := Nat.pow_le_pow_right (by decide) e
  obtain ⟨a, b, c⟩ := h
  exact ⟨by omega, by omega, by omega⟩
theorem TB.plus {n : Nat} {x y : T3} (h : TB n x) (k : TB n y) : TB (n + 1) (tPlus x y) := by
  have : 2 ^ (n + 1) = 2 * 2 ^ n := by rw [Nat.pow_succ]; omega
  obtain ⟨a, b, c⟩ := h
  obtain ⟨d, e, f⟩ := k
  refine ⟨?_, ?_, ?_⟩ <;> (rw [this]; unfold tPlus; dsimp only; omega)
theorem TB.minus {n : Nat} {x y : T3} (h : TB n x) (k : TB n y) : TB (n + 1) (tMinus x y) := by
  have : 2 ^ (n + 1) = 2 * 2 ^ n := by rw [Nat.pow_succ]; omega
  obtain ⟨a, b, c⟩ := h
  obtain ⟨d, e, f⟩ := k
  refine ⟨?_, ?_, ?_⟩ <;> (rw [this]; unfold tMinus; dsimp only; omega)
theorem nat_mul_lt {a b : Int} {n m : Nat} (h : a.natAbs < 2 ^ n) (k : b.natAbs < 2 ^ m) : (a * b).natAbs < 2 ^ (n + m) := by
  rw [Int.natAbs_mul, Nat.pow_add]
  exact Nat.mul_lt_mul'' h k
theorem TB.cross {n m : Nat} {x y : T3} (h : TB n x) (k : TB m y) : TB (n + m + 1) (tCrs x y) := by
  have e2 : 2 ^ (n + m + 1) = 2 * 2 ^ (n + m) := by rw [Nat.pow_succ]; omega
  obtain ⟨a, b, c⟩ := h
  obtain ⟨d, e, f⟩ := k
  have q1 := nat_mul_lt b f
  have q2 := nat_mul_lt c e
  have q3 := nat_mul_lt c d
  have q4 := nat_mul_lt a f
  have q5 := nat_mul_lt a e
  have q6 := nat_mul_lt b d
  refine ⟨?_, ?_, ?_⟩ <;> (rw [e2]; unfold tCrs; dsimp only; omega)
theorem TB.dot {n m : Nat} {x y : T3} (h : TB n x) (k : TB m y) : (tInner x y).natAbs < 2 ^ (n + m + 2) := by
  have e2 : 2 ^ (n + m + 2) = 4 * 2 ^ (n + m) := by rw [Nat.pow_add]; omega
  obtain ⟨a, b, c⟩ := h
  obtain ⟨d, e, f⟩ := k
  have q1 := nat_mul_lt a d
  have q2 := nat_mul_lt b e
  have q3 := nat_mul_lt c f
  rw [e2]; unfold tInner; omega
abbrev spT2 (K : PySem.W.Frag) (f : T3 → T3 → T3) : Sp := fun vs H Q _ => ∃ (v u : V) (x y : T3), vs = [v, u] ∧ Dp K H v (dT x) ∧ Dp K H u (dT y) ∧ TB 60 x ∧ TB 60 y ∧ Gives K H Q (dT (f x y))
abbrev spDot (K : PySem.W.Frag) : Sp := fun vs H Q _ => ∃ (v u : V) (x y : T3), vs = [v, u] ∧ Dp K H v (dT x) ∧ Dp K H u (dT y) ∧ TB 60 x ∧ TB 60 y ∧ Q (.int (tInner x y)) H
section
variable {P : Program} {w : World} {K : PySem.W.Frag} {mg : Str → Option Value} {base : Heap}
theorem ok_triple_sum (D : Df K mg "triple_sum" (topS 25) ["one", "other"]) : Has P w K mg base 1 "triple_sum" (spT2 K tPlus) := by
  have S : FnScope ["one", "other"] ["one", "other"] (defScope (topS 25)) := ⟨rfl, rfl, rfl, by decide +kernel, rfl, by decide +kernel, by decide +kernel⟩
  refine has0 D S (by rintro _ _ _ _ ⟨_, _, _, _, rfl, _⟩; rfl) (fun f cdv A outer s H vs Q E hr h => ?_)
  obtain ⟨v, u, x, y, rfl, dx, dy, zx, zy, q⟩ := h
  obtain ⟨a, rfl, sa⟩ := dp_t3 dx
  obtain ⟨b, rfl, sb⟩ := dp_t3 dy
  refine ⟨_, pss_one (ps_ret (pe_tup (pa_cons (pe_op op_add (pe_ix ix_tup (pv 0) pe_int (fun _ _ => rfl)) (pe_ix ix_tup (pv 1) pe_int (fun _ _ => rfl))) (pa_cons (pe_op op_add (pe_ix ix_tup (pv 0) pe_int (fun _ _ => rfl)) (pe_ix ix_tup (pv 1) pe_int (fun _ _ => rfl))) (pa_cons (pe_op op_add (pe_ix ix_tup (pv 0) pe_int (fun _ _ => rfl)) (pe_ix ix_tup (pv 1) pe_int (fun _ _ => rfl))) pa_nil))))), ?_⟩
  refine ⟨_, rfl, a, _, 0, _, rfl, rfl, sa, atI_nat (j := 0) rfl, _, rfl, b, _, 0, _, rfl, rfl, sb, atI_nat (j := 0) rfl, _, _, rfl, rfl, _, rfl, a, _, 1, _, rfl, rfl, sa, atI_nat (j := 1) rfl, _, rfl, b, _, 1, _, rfl, rfl, sb, atI_nat (j := 1) rfl, _, _, rfl, rfl, _, rfl, a, _, 2, _, rfl, rfl, sa, atI_nat (j := 2) rfl, _, rfl, b, _, 2, _, rfl, rfl, sb, atI_nat (j := 2) rfl, _, _, rfl, rfl, (by show 3 ≤ sizeLine; decide), fun r hr2 => ?_⟩
  exact q _ _ (same_new hr2 _) (t3_dp (SqT.of upd_same))
theorem ok_triple_less (D : Df K mg "triple_less" (topS 26) ["one", "other"]) : Has P w K mg base 1 "triple_less" (spT2 K tMinus) := by
  have S : FnScope ["one", "other"] ["one", "other"] (defScope (topS 26)) := ⟨rfl, rfl, rfl, by decide +kernel, rfl, by decide +kernel, by decide +kernel⟩
  refine has0 D S (by rintro _ _ _ _ ⟨_, _, _, _, rfl, _⟩; rfl) (fun f cdv A outer s H vs Q E hr h => ?_)
  obtain ⟨v, u, x, y, rfl, dx, dy, zx, zy, q⟩ := h
  obtain ⟨a, rfl, sa⟩ := dp_t3 dx
  obtain ⟨b, rfl, sb⟩ := dp_t3 dy
  refine ⟨_, pss_one (ps_ret (pe_tup (pa_cons (pe_op op_sub (pe_ix ix_tup (pv 0) pe_int (fun _ _ => rfl)) (pe_ix ix_tup (pv 1) pe_int (fun _ _ => rfl))) (pa_cons (pe_op op_sub (pe_ix ix_tup (pv 0) pe_int (fun _ _ => rfl)) (pe_ix ix_tup (pv 1) pe_int (fun _ _ => rfl))) (pa_cons (pe_op op_sub (pe_ix ix_tup (pv 0) pe_int (fun _ _ => rfl)) (pe_ix ix_tup (pv 1) pe_int (fun _ _ => rfl))) pa_nil))))), ?_⟩
  refine ⟨_, rfl, a, _, 0, _, rfl, rfl, sa, atI_nat (j := 0) rfl, _, rfl, b, _, 0, _, rfl, rfl, sb, atI_nat (j := 0) rfl, _, _, rfl, rfl, _, rfl, a, _, 1, _, rfl, rfl, sa, atI_nat (j := 1) rfl, _, rfl, b, _, 1, _, rfl, rfl, sb, atI_nat (j := 1) rfl, _, _, rfl, rfl, _, rfl, a, _, 2, _, rfl, rfl, sa, atI_nat (j := 2) rfl, _, rfl, b, _, 2, _, rfl, rfl, sb, atI_nat (j := 2) rfl, _, _, rfl, rfl, (by show 3 ≤ sizeLine; decide), fun r hr2 => ?_⟩
  exact q _ _ (same_new hr2 _) (t3_dp (SqT.of upd_same))
theorem ok_dot_of (D : Df K mg "dot_of" (topS 27) ["one", "other"]) : Has P w K mg base 1 "dot_of" (spDot K) := by
  have S : FnScope ["one", "other"] ["one", "other"] (defScope (topS 27)) := ⟨rfl, rfl, rfl, by decide +kernel, rfl, by decide +kernel, by decide +kernel⟩
  refine has0 D S (by rintro _ _ _ _ ⟨_, _, _, _, rfl, _⟩; rfl) (fun f cdv A outer s H vs Q E hr h => ?_)
  obtain ⟨v, u, x, y, rfl, dx, dy, zx, zy, q⟩ := h
  obtain ⟨a, rfl, sa⟩ := dp_t3 dx
  obtain ⟨b, rfl, sb⟩ := dp_t3 dy
  refine ⟨_, pss_one (ps_ret (pe_op op_add (pe_op op_add (pe_op op_mulG (pe_ix ix_tup (pv 0) pe_int (fun _ _ => rfl)) (pe_ix ix_tup (pv 1) pe_int (fun _ _ => rfl))) (pe_op op_mulG (pe_ix ix_tup (pv 0) pe_int (fun _ _ => rfl)) (pe_ix ix_tup (pv 1) pe_int (fun _ _ => rfl)))) (pe_op op_mulG (pe_ix ix_tup (pv 0) pe_int (fun _ _ => rfl)) (pe_ix ix_tup (pv 1) pe_int (fun _ _ => rfl))))), ?_⟩
  exact ⟨_, rfl, a, _, 0, _, rfl, rfl, sa, atI_nat (j := 0) rfl, _, rfl, b, _, 0, _, rfl, rfl, sb, atI_nat (j := 0) rfl, _, _, rfl, rfl, mul60 zx.1 zy.1, _, rfl, a, _, 1, _, rfl, rfl, sa, atI_nat (j := 1) rfl, _, rfl, b, _, 1, _, rfl, rfl, sb, atI_nat (j := 1) rfl, _, _, rfl, rfl, mul60 zx.2.1 zy.2.1, _, _, rfl, rfl, _, rfl, a, _, 2, _, rfl, rfl, sa, atI_nat (j := 2) rfl, _, rfl, b, _, 2, _, rfl, rfl, sb, atI_nat (j := 2) rfl, _, _, rfl, rfl, mul60 zx.2.2 zy.2.2, _, _, rfl, rfl, q⟩
theorem ok_law_dot (D : Df K mg "_law_dot" (topS 58) ["_law_one", "_law_other"]) : Has P w K mg base 1 "_law_dot" (spDot K) := by
  have S : FnScope ["_law_one", "_law_other"] ["_law_one", "_law_other"] (defScope (topS 58)) := ⟨rfl, rfl, rfl, by decide +kernel, rfl, by decide +kernel, by decide +kernel⟩
  refine has0 D S (by rintro _ _ _ _ ⟨_, _, _, _, rfl, _⟩; rfl) (fun f cdv A outer s H vs Q E hr h => ?_)
  obtain ⟨v, u, x, y, rfl, dx, dy, zx, zy, q⟩ := h
  obtain ⟨a, rfl, sa⟩ := dp_t3 dx
  obtain ⟨b, rfl, sb⟩ := dp_t3 dy
  refine ⟨_, pss_one (ps_ret (pe_op op_add (pe_op op_add (pe_op op_mulG (pe_ix ix_tup (pv 0) pe_int (fun _ _ => rfl)) (pe_ix ix_tup (pv 1) pe_int (fun _ _ => rfl))) (pe_op op_mulG (pe_ix ix_tup (pv 0) pe_int (fun _ _ => rfl)) (pe_ix ix_tup (pv 1) pe_int (fun _ _ => rfl)))) (pe_op op_mulG (pe_ix ix_tup (pv 0) pe_int (fun _ _ => rfl)) (pe_ix ix_tup (pv 1) pe_int (fun _ _ => rfl))))), ?_⟩
  exact ⟨_, rfl, a, _, 0, _, rfl, rfl, sa, atI_nat (j := 0) rfl, _, rfl, b, _, 0, _, rfl, rfl, sb, atI_nat (j := 0) rfl, _, _, rfl, rfl, mul60 zx.1 zy.1, _, rfl, a, _, 1, _, rfl, rfl, sa, atI_nat (j := 1) rfl, _, rfl, b, _, 1, _, rfl, rfl, sb, atI_nat (j := 1) rfl, _, _, rfl, rfl, mul60 zx.2.1 zy.2.1, _, _, rfl, rfl, _, rfl, a, _, 2, _, rfl, rfl, sa, atI_nat (j := 2) rfl, _, rfl, b, _, 2, _, rfl, rfl, sb, atI_nat (j := 2) rfl, _, _, rfl, rfl, mul60 zx.2.2 zy.2.2, _, _, rfl, rfl, q⟩
theorem ok_cross_of (D : Df K mg "cross_of" (topS 28) ["one", "other"]) : Has P w K mg base 1 "cross_of" (spT2 K tCrs) := by
  have S : FnScope ["one", "other", "a", "b", "c", "d", "e", "f"] ["one", "other"] (defScope (topS 28)) := ⟨rfl, rfl, rfl, by decide +kernel, rfl, by decide +kernel, by decide +kernel⟩
  refine has0 D S (by rintro _ _ _ _ ⟨_, _, _, _, rfl, _⟩; rfl) (fun f cdv A outer s H vs Q E hr h => ?_)
  obtain ⟨v, u, x, y, rfl, dx, dy, zx, zy, q⟩ := h
  obtain ⟨a, rfl, sa⟩ := dp_t3 dx
  obtain ⟨b, rfl, sb⟩ := dp_t3 dy
  refine ⟨_, pss_cons (ps_asg (pv 0) (pg_tup rfl (pgs_cons (pg_name (i := 2) S.nd rfl (.inl rfl)) (pgs_cons (pg_name (i := 3) S.nd rfl (.inl rfl)) (pgs_cons (pg_name (i := 4) S.nd rfl (.inl rfl)) pgs_nil))))) (pss_cons (ps_asg (pv 1) (pg_tup rfl (pgs_cons (pg_name (i := 5) S.nd rfl (.inl rfl)) (pgs_cons (pg_name (i := 6) S.nd rfl (.inl rfl)) (pgs_cons (pg_name (i := 7) S.nd rfl (.inl rfl)) pgs_nil))))) (pss_one (ps_ret (pe_tup (pa_cons (pe_op op_sub (pe_op op_mulG (pv 3) (pv 7)) (pe_op op_mulG (pv 4) (pv 6))) (pa_cons (pe_op op_sub (pe_op op_mulG (pv 4) (pv 5)) (pe_op op_mulG (pv 2) (pv 7))) (pa_cons (pe_op op_sub (pe_op op_mulG (pv 2) (pv 6)) (pe_op op_mulG (pv 3) (pv 5))) pa_nil))))))), ?_⟩
  refine ⟨_, rfl, a, _, rfl, sa, rfl, _, _, rfl, _, _, rfl, _, _, rfl, rfl, ?_⟩
  refine ⟨_, rfl, b, _, rfl, sb, rfl, _, _, rfl, _, _, rfl, _, _, rfl, rfl, ?_⟩
  refine ⟨_, rfl, _, rfl, _, _, rfl, rfl, mul60 zx.2.1 zy.2.2, _, rfl, _, rfl, _, _, rfl, rfl, mul60 zx.2.2 zy.2.1, _, _, rfl, rfl, ?_⟩
  refine ⟨_, rfl, _, rfl, _, _, rfl, rfl, mul60 zx.2.2 zy.1, _, rfl, _, rfl, _, _, rfl, rfl, mul60 zx.1 zy.2.2, _, _, rfl, rfl, ?_⟩
  refine ⟨_, rfl, _, rfl, _, _, rfl, rfl, mul60 zx.1 zy.2.1, _, rfl, _, rfl, _, _, rfl, rfl, mul60 zx.2.1 zy.1, _, _, rfl, rfl, (by show 3 ≤ sizeLine; decide), fun r hr2 => ?_⟩
  exact q _ _ (same_new hr2 _) (t3_dp (SqT.of upd_same))
theorem ok_law_cross (D : Df K mg "_law_cross" (topS 57) ["_law_one", "_law_other"]) : Has P w K mg base 1 "_law_cross" (spT2 K tCrs) := by
  have S : FnScope ["_law_one", "_law_other", "_law_a", "_law_b", "_law_c", "_law_d", "_law_e", "_law_f"] ["_law_one", "_law_other"] (defScope (topS 57)) := ⟨rfl, rfl, rfl, by decide +kernel, rfl, by decide +kernel, by decide +kernel⟩
  refine has0 D S (by rintro _ _ _ _ ⟨_, _, _, _, rfl, _⟩; rfl) (fun f cdv A outer s H vs Q E hr h => ?_)
  obtain ⟨v, u, x, y, rfl, dx, dy, zx, zy, q⟩ := h
  obtain ⟨a, rfl, sa⟩ := dp_t3 dx
  obtain ⟨b, rfl, sb⟩ := dp_t3 dy
  refine ⟨_, pss_cons (ps_asg (pv 0) (pg_tup rfl (pgs_cons (pg_name (i := 2) S.nd rfl (.inl rfl)) (pgs_cons (pg_name (i := 3) S.nd rfl (.inl rfl)) (pgs_cons (pg_name (i := 4) S.nd rfl (.inl rfl)) pgs_nil))))) (pss_cons (ps_asg (pv 1) (pg_tup rfl (pgs_cons (pg_name (i := 5) S.nd rfl (.inl rfl)) (pgs_cons (pg_name (i := 6) S.nd rfl (.inl rfl)) (pgs_cons (pg_name (i := 7) S.nd rfl (.inl rfl)) pgs_nil))))) (pss_one (ps_ret (pe_tup (pa_cons (pe_op op_sub (pe_op op_mulG (pv 3) (pv 7)) (pe_op op_mulG (pv 4) (pv 6))) (pa_cons (pe_op op_sub (pe_op op_mulG (pv 4) (pv 5)) (pe_op op_mulG (pv 2) (pv 7))) (pa_cons (pe_op op_sub (pe_op op_mulG (pv 2) (pv 6)) (pe_op op_mulG (pv 3) (pv 5))) pa_nil))))))), ?_⟩
  refine ⟨_, rfl, a, _, rfl, sa, rfl, _, _, rfl, _, _, rfl, _, _, rfl, rfl, ?_⟩
  refine ⟨_, rfl, b, _, rfl, sb, rfl, _, _, rfl, _, _, rfl, _, _, rfl, rfl, ?_⟩
  refine ⟨_, rfl, _, rfl, _, _, rfl, rfl, mul60 zx.2.1 zy.2.2, _, rfl, _, rfl, _, _, rfl, rfl, mul60 zx.2.2 zy.2.1, _, _, rfl, rfl, ?_⟩
  refine ⟨_, rfl, _, rfl, _, _, rfl, rfl, mul60 zx.2.2 zy.1, _, rfl, _, rfl, _, _, rfl, rfl, mul60 zx.1 zy.2.2, _, _, rfl, rfl, ?_⟩
  refine ⟨_, rfl, _, rfl, _, _, rfl, rfl, mul60 zx.1 zy.2.1, _, rfl, _, rfl, _, _, rfl, rfl, mul60 zx.2.1 zy.1, _, _, rfl, rfl, (by show 3 ≤ sizeLine; decide), fun r hr2 => ?_⟩
  exact q _ _ (same_new hr2 _) (t3_dp (SqT.of upd_same))
end
end Yd

set_option Elab.async false
set_option linter.all false
set_option maxRecDepth 100000
set_option maxHeartbeats 4000000
namespace Yd
open PySem PySem.Spec PyProof.Rows L2 Dial
/-! ### plates -/
abbrev Pl := T3 × T3 × T3
abbrev dPl (p : Pl) : PyData := .tuple [dT p.1, dT p.2.1, dT p.2.2]
def PB (n : Nat) (p : Pl) : Prop := TB n p.1 ∧ TB n p.2.1 ∧ TB n p.2.2
def front (p : Pl) : T3 := tCrs p.2.1 p.2.2
theorem PB.front {n : Nat} {p : Pl} (h : PB n p) : TB (n + n + 1) (front p) := TB.cross h.2.1 h.2.2
theorem dp_pl {K : PySem.W.Frag} {H : Hp} {v : V} {p : Pl} (h : Dp K H v (dPl p)) : ∃ a x y z, v = .ref a ∧ SqT K H a [x, y, z] ∧ Dp K H x (dT p.1) ∧ Dp K H y (dT p.2.1) ∧ Dp K H z (dT p.2.2) := by
  obtain ⟨a, xs, rfl, hs, ha⟩ := dp_tup h
  obtain ⟨x, y, z, rfl, h1, h2, h3⟩ := all3 ha
  exact ⟨a, x, y, z, rfl, hs, h1, h2, h3⟩
theorem dR_int (n : Int) : dR (n : Rat) = .tuple [.int n, .int 1] := by
  show PyData.tuple [.int (n : Rat).num, .int ((n : Rat).den : Int)] = _
  rw [Rat.num_intCast, Rat.den_intCast]; rfl
theorem int_dp {K : PySem.W.Frag} {H : Hp} {a : Addr} {n : Int} (h : SqT K H a [.int n, .int 1]) : Dp K H (.ref a) (dR (n : Rat)) := by
  rw [dR_int]
  exact .tup h (.cons (.int _) (.cons (.int _) .nil))
abbrev t3l (t : T3) : List Int := [t.1, t.2.1, t.2.2]
def gapL (l : List Rat) (t : T3) : List Rat := List.zipWith (fun (x : Rat) (n : Int) => x - (n : Rat)) l (t3l t)
def pdot (l : List Rat) (t : T3) : Rat := sumOf (fun e : Rat × Int => e.1 * (e.2 : Rat)) (l.zip (t3l t))
def meetL (p : Pl) (d : T3) (l : List Rat) : Pt := (pdot (gapL l p.1) (tCrs p.2.2 d) / ((tInner (front p) d : Int) : Rat), pdot (gapL l p.1) (tCrs d p.2.1) / ((tInner (front p) d : Int) : Rat))
theorem t3_ht {n : Nat} {t : T3} (h : TB n t) (e : 1 ≤ n) : ∀ c ∈ t3l t, Ht n (c : Rat) := fun c hc => by
  simp only [t3l, List.mem_cons, List.not_mem_nil, or_false] at hc
  rcases hc with rfl | rfl | rfl
  · exact ht_int h.1 e
  · exact ht_int h.2.1 e
  · exact ht_int h.2.2 e
theorem gap_ht {n m : Nat} {l : List Rat} {t : T3} (h : ∀ x ∈ l, Ht n x) (k : TB m t) (e : 1 ≤ m) : ∀ x ∈ gapL l t, Ht (n + m + 1) x := fun x hx => by
  unfold gapL at hx
  obtain ⟨i, hi, rfl⟩ := List.getElem_of_mem hx
  rw [List.getElem_zipWith]
  rw [List.length_zipWith] at hi
  exact ht_sub (h _ (List.getElem_mem (by omega))) (t3_ht k e _ (List.getElem_mem (by omega)))
theorem pdot_part {n m : Nat} {l : List Rat} {t : T3} (h : ∀ x ∈ l, Ht n x) (k : TB m t) (e : 1 ≤ m) (i : Nat) (hi : i ≤ (l.zip (t3l t)).length) : Ht (i * (n + m + 1) + 1) (sumOf (fun e : Rat × Int => e.1 * (e.2 : Rat)) ((l.zip (t3l t)).take i)) :=
  sum_ht _ (n + m) _ (fun p hp => ht_mul (h _ (List.of_mem_zip hp).1) (t3_ht k e _ (List.of_mem_zip hp).2)) i hi
theorem pdot_ht {n m : Nat} {l : List Rat} {t : T3} (h : ∀ x ∈ l, Ht n x) (k : TB m t) (e : 1 ≤ m) : Ht (3 * (n + m + 1) + 1) (pdot l t) := by
  have := pdot_part h k e (l.zip (t3l t)).length (Nat.le_refl _)
  rw [List.take_of_length_le (Nat.le_refl _)] at this
  refine this.mono ?_
  have hl : (l.zip (t3l t)).length ≤ 3 := by rw [List.length_zip]; exact Nat.min_le_right _ _
  have := Nat.mul_le_mul_right (n + m + 1) hl
  omega
theorem meet_ht {p : Pl} {d : T3} {l : List Rat} (hp : PB 10 p) (hd : TB 7 d) (hl : ∀ x ∈ l, Ht 150 x) (hb : tInner (front p) d ≠ 0) : PHt 649 (meetL p d l) := by
  have hg := gap_ht hl hp.1 (by decide)
  have hbt := TB.dot hp.front hd
  have hb' : ((tInner (front p) d : Int) : Rat) ≠ 0 := fun z => hb (by exact_mod_cast z)
  have hbh : Ht 30 ((tInner (front p) d : Int) : Rat) := ht_int hbt (by decide)
  refine ⟨?_, ?_⟩
  · exact (ht_div (pdot_ht hg (TB.cross hp.2.2 hd) (by decide)) hbh hb').mono (by decide)
  · exact (ht_div (pdot_ht hg (TB.cross hd hp.2.1) (by decide)) hbh hb').mono (by decide)
abbrev spFront (K : PySem.W.Frag) : Sp := fun vs H Q _ => ∃ (v : V) (p : Pl), vs = [v] ∧ Dp K H v (dPl p) ∧ PB 20 p ∧ Gives K H Q (dT (front p))
abbrev spAhead (K : PySem.W.Frag) : Sp := fun vs H Q _ => ∃ (v u : V) (p : Pl) (d : T3), vs = [v, u] ∧ Dp K H v (dPl p) ∧ Dp K H u (dT d) ∧ PB 20 p ∧ TB 20 d ∧ ∀ H', Same H H' → Q (.bl (decide (0 < tInner (front p) d))) H'
abbrev spPLess (K : PySem.W.Frag) : Sp := fun vs H Q _ => ∃ (v u : V) (l : List Rat) (t : T3), vs = [v, u] ∧ Dp K H v (dRs l) ∧ Dp K H u (dT t) ∧ l.length = 3 ∧ (∀ x ∈ l, Ht nV x) ∧ TB 60 t ∧ Gives K H Q (dRs (gapL l t))
abbrev spPDot (K : PySem.W.Frag) : Sp := fun vs H Q _ => ∃ (v u : V) (l : List Rat) (t : T3), vs = [v, u] ∧ Dp K H v (dRs l) ∧ Dp K H u (dT t) ∧ l.length = 3 ∧ (∀ x ∈ l, Ht nV x) ∧ TB 60 t ∧ Gives K H Q (dR (pdot l t))
abbrev spMeet (K : PySem.W.Frag) : Sp := fun vs H Q _ => ∃ (v1 v2 v3 : V) (p : Pl) (l : List Rat) (d : T3), vs = [v1, v2, v3] ∧ Dp K H v1 (dPl p) ∧ Dp K H v2 (dRs l) ∧ Dp K H v3 (dT d) ∧ PB 10 p ∧ TB 7 d ∧ l.length = 3 ∧ (∀ x ∈ l, Ht 150 x) ∧
  tInner (front p) d ≠ 0 ∧ Gives K H Q (dP (meetL p d l))
section
variable {P : Program} {w : World} {K : PySem.W.Frag} {mg : Str → Option Value} {base : Heap}
theorem ok_front (D : Df K mg "front_of" (topS 30) ["plate"]) (hC : Has P w K mg base 1 "cross_of" (spT2 K tCrs)) : Has P w K mg base 2 "front_of" (spFront K) := by
  have S : FnScope ["plate"] ["plate"] (defScope (topS 30)) := ⟨rfl, rfl, rfl, by decide +kernel, rfl, by decide +kernel, by decide +kernel⟩
  refine has0 D S (by rintro _ _ _ _ ⟨_, _, rfl, _⟩; rfl) (fun f cdv A outer s H vs Q E hr h => ?_)
  obtain ⟨v, p, rfl, dp, hp, q⟩ := h
  obtain ⟨a, x, y, z, rfl, sa, d1, d2, d3⟩ := dp_pl dp
  refine ⟨_, pss_one (ps_ret (pe_h hC hr (by decide) (by rfl) (pa_cons (pe_ix ix_tup (pv 0) pe_int (fun _ _ => rfl)) (pa_cons (pe_ix ix_tup (pv 0) pe_int (fun _ _ => rfl)) pa_nil)))), ?_⟩
  exact ⟨_, rfl, a, _, 1, _, rfl, rfl, sa, atI_nat (j := 1) rfl, _, rfl, a, _, 2, _, rfl, rfl, sa, atI_nat (j := 2) rfl, _, _, _, _, rfl, d2, d3, hp.2.1.mono (by decide), hp.2.2.mono (by decide), q⟩
theorem ok_ahead (D : Df K mg "comes_from_ahead" (topS 31) ["plate", "direction"]) (hF : Has P w K mg base 2 "front_of" (spFront K)) (hD : Has P w K mg base 1 "dot_of" (spDot K)) : Has P w K mg base 3 "comes_from_ahead" (spAhead K) := by
  have S : FnScope ["plate", "direction"] ["plate", "direction"] (defScope (topS 31)) := ⟨rfl, rfl, rfl, by decide +kernel, rfl, by decide +kernel, by decide +kernel⟩
  refine has0 D S (by rintro _ _ _ _ ⟨_, _, _, _, rfl, _⟩; rfl) (fun f cdv A outer s H vs Q E hr h => ?_)
  obtain ⟨v, u, p, d, rfl, dp, dd, hp, hd, q⟩ := h
  refine ⟨_, pss_one (ps_ret (pe_cmpR op_gt (pe_h hD hr (by decide) (by rfl) (pa_cons (pe_h hF hr (by decide) (by rfl) (pa_cons (pv 0) pa_nil)) (pa_cons (pv 1) pa_nil))) pe_int (nomark _))), ?_⟩
  refine ⟨_, rfl, _, p, rfl, dp, hp, fun u1 H1 m1 e1 => ?_⟩
  exact ⟨_, rfl, _, _, _, _, rfl, e1, dp_same m1 _ _ dd, hp.front.mono (by decide), hd.mono (by decide), _, _, rfl, rfl, q H1 m1⟩
theorem ok_pless (D : Df K mg "point_less" (topS 33) ["one", "other"]) (mt : mg "tuple" = none) (mz : mg "zip" = none) (hL : Has P w K mg base 42 "ratio_less" (spRat2 K (fun _ _ => True) (fun x y => x - y))) : Has P w K mg base 43 "point_less" (spPLess K) := by
  have S : FnScope ["one", "other", "here", "there"] ["one", "other"] (defScope (topS 33)) := ⟨rfl, rfl, rfl, by decide +kernel, rfl, by decide +kernel, by decide +kernel⟩
  refine has0 D S (by rintro _ _ _ _ ⟨_, _, _, _, rfl, _⟩; rfl) (fun f cdv A outer s H vs Q E hr h => ?_)
  obtain ⟨v, u, l, t, rfl, d1, d2, hl, zl, zt, q⟩ := h
  obtain ⟨pa, xs, rfl, sa, da⟩ := dp_tup d1
  obtain ⟨pb, rfl, sb⟩ := dp_t3 d2
  have hx : xs.length = 3 := by rw [map_len da, hl]
  have db : ∀ i : Nat, i < 3 → [V.int t.1, V.int t.2.1, V.int t.2.2][i]? = (t3l t)[i]?.map V.int := fun i _ => by rw [← List.getElem?_map]; rfl
  refine ⟨_, pss_one (ps_ret (pe_tupleOf (by rfl) mt (pe_lc (own := [("here", 2), ("there", 3)]) (g := gTup K 2 (gCons (gName 2) (gCons (gName 3) gNil))) (tt := tYes) rfl S.nd (RZ.pi_zipA (by rfl) mz (pa_cons (pv 0) (pa_cons (pv 1) pa_nil)))
      (blkOk_by (own := [("here", 2), ("there", 3)]) (N := ["one", "other", "here", "there"]) (sc := defScope (topS 33)) (by decide +kernel))
      (fun _ _ _ _ _ => by
        refine pg_tup rfl (pgs_cons ?_ (pgs_cons ?_ pgs_nil))
        · exact pg_name (i := 2) S.nd rfl (.inl rfl)
        · exact pg_name (i := 3) S.nd rfl (.inl rfl)) (fun _ _ _ _ _ => pts_nil)
      (fun _ _ _ _ _ => by exact pe_h hL hr (by decide) (by rfl) (pa_cons (pv 2) (pa_cons (pe_tup (pa_cons (pv 3) (pa_cons pe_int pa_nil))) pa_nil)))))), ?_⟩
  refine ⟨_, rfl, _, rfl, pa, pb, xs, _, rfl, .inr ⟨sa, sb, fun D hD => ?_⟩⟩
  refine lc_it (walk_zipT hx rfl) (fun i H' => Grown K H D (((gapL l t).take i).map dR) H') (Grown.start hD) (fun i H' _ g => ⟨Same.tup g.same sa, Same.tup g.same sb⟩) ?_ ?_
  · rintro i x H' H'' hi g ⟨T, x1, y1, rfl, nT, rfl, g1, g2⟩
    have hil : i < l.length := by omega
    have hit : i < (t3l t).length := hi
    obtain ⟨x1', g1', dx⟩ := map_get da hil
    have ex : x1 = x1' := Option.some.inj (g1.symm.trans g1')
    subst ex
    have g2 : [V.int t.1, V.int t.2.1, V.int t.2.2][i]? = some y1 := g2
    rw [db i hi, List.getElem?_eq_getElem hit] at g2
    have ey : V.int (t3l t)[i] = y1 := Option.some.inj g2
    subst ey
    have mT : Same H' (upd H' T (.tup [x1, .int (t3l t)[i]])) := same_new nT _
    have gT := g.step mT
    have hxa := zl _ (List.getElem_mem hil)
    have hyb := t3_ht zt (by decide) _ (List.getElem_mem hit)
    refine ⟨T, [x1, .int (t3l t)[i]], rfl, SqT.of upd_same, rfl, x1, [.int (t3l t)[i]], rfl, .int (t3l t)[i], [], rfl, rfl, rfl, ?_⟩
    refine tyes_if ?_
    refine ⟨_, rfl, _, rfl, (by show 2 ≤ sizeLine; decide), fun r hr2 => ?_⟩
    have mr := same_new hr2 (.tup [.int (t3l t)[i], .int 1])
    refine ⟨_, _, _, _, rfl, dp_same (gT.same.trans mr) _ _ dx, int_dp (SqT.of upd_same), szV hxa, sz_le hyb (by decide), trivial, fun u5 H5 m5 e5 => ?_⟩
    have g5 := gT.step (mr.trans m5)
    obtain ⟨acc, k1, k2, k3⟩ := g5.more (g5.hid rfl e5)
    refine ⟨acc, k1, ?_, ?_⟩
    · rw [k2, List.length_map, List.length_take]; exact line_small (by omega)
    · have hmi : (gapL l t)[i]? = some (l[i] - ((t3l t)[i] : Rat)) := by
        unfold gapL
        rw [List.getElem?_zipWith, List.getElem?_eq_getElem hil, List.getElem?_eq_getElem hit]
      rw [List.take_add_one, hmi, List.map_append]
      exact k3
  · intro H' g
    have el : (gapL l t).take 3 = gapL l t := List.take_of_length_le (by unfold gapL; rw [List.length_zipWith, hl]; exact Nat.min_le_left _ _)
    rw [el] at g
    obtain ⟨acc, k1, k2⟩ := g.ex
    refine .inl ⟨D, acc, rfl, SqL.of k1, fun p hp => ?_⟩
    refine q _ _ (g.same.trans (same_new hp _)) ?_
    exact .tup (SqT.of upd_same) (dpAll_same ((hide_sub D H').trans (same_new hp _)) _ _ k2)
theorem ok_pdot (D : Df K mg "point_dot" (topS 34) ["point", "triple"]) (mz : mg "zip" = none) (hS : Has P w K mg base 42 "ratio_sum" (spRat2 K (fun _ _ => True) (fun x y => x + y))) (hM : Has P w K mg base 42 "ratio_times" (spRat2 K (fun _ _ => True) (fun x y => x * y))) : Has P w K mg base 43 "point_dot" (spPDot K) := by
  have S : FnScope ["point", "triple", "found", "here", "there"] ["point", "triple"] (defScope (topS 34)) := ⟨rfl, rfl, rfl, by decide +kernel, rfl, by decide +kernel, by decide +kernel⟩
  refine has0 D S (by rintro _ _ _ _ ⟨_, _, _, _, rfl, _⟩; rfl) (fun f cdv A outer s H vs Q E hr h => ?_)
  obtain ⟨v, u, l, t, rfl, d1, d2, hl, zl, zt, q⟩ := h
  obtain ⟨pa, xs, rfl, sa, da⟩ := dp_tup d1
  obtain ⟨pb, rfl, sb⟩ := dp_t3 d2
  have hx : xs.length = 3 := by rw [map_len da, hl]
  have db : ∀ i : Nat, i < 3 → [V.int t.1, V.int t.2.1, V.int t.2.2][i]? = (t3l t)[i]?.map V.int := fun i _ => by rw [← List.getElem?_map]; rfl
  have hzl : (l.zip (t3l t)).length = 3 := by rw [List.length_zip, hl]; rfl
  refine ⟨_, pss_cons (ps_set (i := 2) S.nd rfl (.inl rfl) (pe_tup (pa_cons pe_int (pa_cons pe_int pa_nil))))
    (pss_cons (ps_for PassesOwn.never rfl (RZ.pi_zipA (by rfl) mz (pa_cons (pv 0) (pa_cons (pv 1) pa_nil))) (pg_tup rfl (pgs_cons (pg_name (i := 3) S.nd rfl (.inl rfl)) (pgs_cons (pg_name (i := 4) S.nd rfl (.inl rfl)) pgs_nil)))
      (pss_one (ps_set (i := 2) S.nd rfl (.inl rfl) (pe_h hS hr (by decide) (by rfl) (pa_cons (pv 2) (pa_cons
        (pe_h hM hr (by decide) (by rfl) (pa_cons (pv 3) (pa_cons (pe_tup (pa_cons (pv 4) (pa_cons pe_int pa_nil))) pa_nil))) pa_nil))))))
    (pss_one (ps_ret (pv 2)))), ?_⟩
  refine ⟨(by show 2 ≤ sizeLine; decide), fun r0 hr0 => ?_⟩
  have m0 := same_new hr0 (.tup [.int 0, .int 1])
  have d0 : Dp K (upd H r0 (.tup [.int 0, .int 1])) (.ref r0) (dR 0) := int_dp (n := 0) (SqT.of upd_same)
  refine ⟨_, rfl, _, rfl, pa, pb, xs, _, rfl, .inr ⟨Same.tup m0 sa, Same.tup m0 sb, ?_⟩⟩
  refine for_it (walk_zipT (K := K) (a := pa) (b := pb) (xs := xs) (ys := [V.int t.1, V.int t.2.1, V.int t.2.2]) hx rfl) (fun i σ H' => ∃ vf y3 y4, σ = [some (.ref pa), some (.ref pb), some vf, y3, y4] ∧ Same H H' ∧ Dp K H' vf (dR (sumOf (fun e : Rat × Int => e.1 * (e.2 : Rat)) ((l.zip (t3l t)).take i))))
    ⟨.ref r0, none, none, rfl, m0, d0⟩ (fun i σ H' _ hI => ?_) ?_ ?_
  · obtain ⟨_, _, _, _, m, _⟩ := hI
    exact ⟨Same.tup m sa, Same.tup m sb⟩
  · rintro i x σ H' H'' hi ⟨vf, y3, y4, rfl, m, df⟩ ⟨T, x1, y1, rfl, nT, rfl, g1, g2⟩
    have hil : i < l.length := by omega
    have hit : i < (t3l t).length := hi
    obtain ⟨x1', g1', dx⟩ := map_get da hil
    have ex : x1 = x1' := Option.some.inj (g1.symm.trans g1')
    subst ex
    have g2 : [V.int t.1, V.int t.2.1, V.int t.2.2][i]? = some y1 := g2
    rw [db i hi, List.getElem?_eq_getElem hit] at g2
    have ey : V.int (t3l t)[i] = y1 := Option.some.inj g2
    subst ey
    have mT : Same H' (upd H' T (.tup [x1, .int (t3l t)[i]])) := same_new nT _
    have hxa := zl _ (List.getElem_mem hil)
    have hyb := t3_ht zt (by decide) _ (List.getElem_mem hit)
    have hz : (l.zip (t3l t))[i]? = some (l[i], (t3l t)[i]) := by
      rw [List.getElem?_eq_getElem (by omega), List.getElem_zip]
    rw [sum_step _ hz]
    have hf := pdot_part zl zt (by decide) i (by omega)
    have hfz : Sz (sumOf (fun e : Rat × Int => e.1 * (e.2 : Rat)) ((l.zip (t3l t)).take i)) := sz_le hf (by
      have : i * (nV + 60 + 1) ≤ 3 * (nV + 60 + 1) := Nat.mul_le_mul_right _ (by omega)
      have : 3 * (nV + 60 + 1) ≤ 50000000 := by decide
      omega)
    refine ⟨T, [x1, .int (t3l t)[i]], rfl, SqT.of upd_same, rfl, x1, [.int (t3l t)[i]], rfl, .int (t3l t)[i], [], rfl, rfl, ?_⟩
    refine ⟨_, rfl, _, rfl, _, rfl, (by show 2 ≤ sizeLine; decide), fun r hr2 => ?_⟩
    have mr := same_new hr2 (.tup [.int (t3l t)[i], .int 1])
    refine ⟨_, _, _, _, rfl, dp_same (m.trans (mT.trans mr)) _ _ dx, int_dp (SqT.of upd_same), szV hxa, sz_le hyb (by decide), trivial, fun u5 H5 m5 e5 => ?_⟩
    refine ⟨_, _, _, _, rfl, dp_same (mT.trans (mr.trans m5)) _ _ df, e5, hfz, sz_le (ht_mul hxa hyb) (by decide), trivial, fun u6 H6 m6 e6 => ?_⟩
    exact ⟨u6, _, _, rfl, m.trans (mT.trans (mr.trans (m5.trans m6))), e6⟩
  · rintro σ H' ⟨vf, y3, y4, rfl, m, df⟩
    rw [List.take_of_length_le (by omega)] at df
    exact ⟨vf, rfl, q vf H' m df⟩
theorem ok_meet (D : Df K mg "meeting_of" (topS 35) ["plate", "point", "direction"]) (hC : Has P w K mg base 1 "cross_of" (spT2 K tCrs)) (hD : Has P w K mg base 1 "dot_of" (spDot K)) (hF : Has P w K mg base 2 "front_of" (spFront K))
    (hL : Has P w K mg base 43 "point_less" (spPLess K)) (hP : Has P w K mg base 43 "point_dot" (spPDot K)) (hB : Has P w K mg base 42 "ratio_by" (spRat2 K (fun _ y => y ≠ 0) (fun x y => x / y))) : Has P w K mg base 44 "meeting_of" (spMeet K) := by
  have S : FnScope ["plate", "point", "direction", "corner", "side", "other", "bottom", "gap", "s", "t"] ["plate", "point", "direction"] (defScope (topS 35)) := ⟨rfl, rfl, rfl, by decide +kernel, rfl, by decide +kernel, by decide +kernel⟩
  refine has0 D S (by rintro _ _ _ _ ⟨_, _, _, _, _, _, rfl, _⟩; rfl) (fun f cdv A outer s H vs Q E hr h => ?_)
  obtain ⟨v1, v2, v3, p, l, d, rfl, d1, d2, d3, hp, hd, hl, zl, hb, q⟩ := h
  obtain ⟨a, c1, c2, c3, rfl, sa, e1, e2, e3⟩ := dp_pl d1
  have zg := gap_ht zl hp.1 (by decide)
  have hbt := TB.dot hp.front hd
  have hb' : ((tInner (front p) d : Int) : Rat) ≠ 0 := fun z => hb (by exact_mod_cast z)
  have zb : Sz ((tInner (front p) d : Int) : Rat) := sz_le (ht_int hbt (by decide)) (by decide)
  have hgl : (gapL l p.1).length = 3 := by unfold gapL; rw [List.length_zipWith, hl]; rfl
  have zx1 := TB.cross hp.2.2 hd
  have zx2 := TB.cross hd hp.2.1
  have zd1 := sz_le (pdot_ht zg zx1 (by decide)) (by decide)
  have zd2 := sz_le (pdot_ht zg zx2 (by decide)) (by decide)
  refine ⟨_, pss_cons (ps_asg (pv 0) (pg_tup rfl (pgs_cons (pg_name (i := 3) S.nd rfl (.inl rfl)) (pgs_cons (pg_name (i := 4) S.nd rfl (.inl rfl)) (pgs_cons (pg_name (i := 5) S.nd rfl (.inl rfl)) pgs_nil)))))
    (pss_cons (ps_set (i := 6) S.nd rfl (.inl rfl) (pe_h hD hr (by decide) (by rfl) (pa_cons (pe_h hF hr (by decide) (by rfl) (pa_cons (pv 0) pa_nil)) (pa_cons (pv 2) pa_nil))))
    (pss_cons (ps_if (pt_cmpR op_eq (pv 6) pe_int (nomark _)) pss_never pss_nil)
    (pss_cons (ps_set (i := 7) S.nd rfl (.inl rfl) (pe_h hL hr (by decide) (by rfl) (pa_cons (pv 1) (pa_cons (pv 3) pa_nil))))
    (pss_cons (ps_set (i := 8) S.nd rfl (.inl rfl) (pe_h hB hr (by decide) (by rfl) (pa_cons (pe_h hP hr (by decide) (by rfl) (pa_cons (pv 7) (pa_cons (pe_h hC hr (by decide) (by rfl) (pa_cons (pv 5) (pa_cons (pv 2) pa_nil))) pa_nil))) (pa_cons (pe_tup (pa_cons (pv 6) (pa_cons pe_int pa_nil))) pa_nil))))
    (pss_cons (ps_set (i := 9) S.nd rfl (.inl rfl) (pe_h hB hr (by decide) (by rfl) (pa_cons (pe_h hP hr (by decide) (by rfl) (pa_cons (pv 7) (pa_cons (pe_h hC hr (by decide) (by rfl) (pa_cons (pv 2) (pa_cons (pv 4) pa_nil))) pa_nil))) (pa_cons (pe_tup (pa_cons (pv 6) (pa_cons pe_int pa_nil))) pa_nil))))
    (pss_one (ps_ret (pe_tup (pa_cons (pv 8) (pa_cons (pv 9) pa_nil)))))))))), ?_⟩
  refine ⟨_, rfl, a, _, rfl, sa, rfl, _, _, rfl, _, _, rfl, _, _, rfl, rfl, ?_⟩
  refine ⟨_, rfl, _, p, rfl, d1, ⟨hp.1.mono (by decide), hp.2.1.mono (by decide), hp.2.2.mono (by decide)⟩, fun u1 H1 m1 f1 => ?_⟩
  refine ⟨_, rfl, _, _, _, _, rfl, f1, dp_same m1 _ _ d3, hp.front.mono (by decide), hd.mono (by decide), ?_⟩
  refine ⟨_, rfl, rfl, _, rfl, ?_⟩
  rw [decide_eq_false (fun z => hb (V.int.inj z))]
  refine iteF ?_
  refine ⟨_, rfl, _, rfl, _, _, _, _, rfl, dp_same m1 _ _ d2, dp_same m1 _ _ e1, hl, fun x hx => (zl x hx).mono (by decide), hp.1.mono (by decide), fun u2 H2 m2 f2 => ?_⟩
  have n2 := m1.trans m2
  refine ⟨_, rfl, _, rfl, _, rfl, _, _, _, _, rfl, dp_same n2 _ _ e3, dp_same n2 _ _ d3, hp.2.2.mono (by decide), hd.mono (by decide), fun u3 H3 m3 f3 => ?_⟩
  refine ⟨_, _, _, _, rfl, dp_same m3 _ _ f2, f3, hgl, fun x hx => (zg x hx).mono (by decide), zx1.mono (by decide), fun u4 H4 m4 f4 => ?_⟩
  refine ⟨_, rfl, (by show 2 ≤ sizeLine; decide), fun r hr2 => ?_⟩
  have mr := same_new hr2 (.tup [.int (tInner (front p) d), .int 1])
  refine ⟨_, _, _, _, rfl, dp_same mr _ _ f4, int_dp (SqT.of upd_same), zd1, zb, hb', fun u5 H5 m5 f5 => ?_⟩
  have n5 := n2.trans (m3.trans (m4.trans (mr.trans m5)))
  have f2' := dp_same (m3.trans (m4.trans (mr.trans m5))) _ _ f2
  refine ⟨_, rfl, _, rfl, _, rfl, _, _, _, _, rfl, dp_same n5 _ _ d3, dp_same n5 _ _ e2, hd.mono (by decide), hp.2.1.mono (by decide), fun u6 H6 m6 f6 => ?_⟩
  refine ⟨_, _, _, _, rfl, dp_same m6 _ _ f2', f6, hgl, fun x hx => (zg x hx).mono (by decide), zx2.mono (by decide), fun u7 H7 m7 f7 => ?_⟩
  refine ⟨_, rfl, (by show 2 ≤ sizeLine; decide), fun r8 hr8 => ?_⟩
  have m8 := same_new hr8 (.tup [.int (tInner (front p) d), .int 1])
  refine ⟨_, _, _, _, rfl, dp_same m8 _ _ f7, int_dp (SqT.of upd_same), zd2, zb, hb', fun u9 H9 m9 f9 => ?_⟩
  have n9 := m6.trans (m7.trans (m8.trans m9))
  refine ⟨_, rfl, _, rfl, (by show 2 ≤ sizeLine; decide), fun r10 hr10 => ?_⟩
  have m10 := same_new hr10 (.tup [u5, u9])
  exact q _ _ (n5.trans (n9.trans m10)) (.tup (SqT.of upd_same) (.cons (dp_same (n9.trans m10) _ _ f5) (.cons (dp_same m10 _ _ f9) .nil)))
end
end Yd

set_option Elab.async false
set_option linter.all false
set_option maxRecDepth 100000
set_option maxHeartbeats 4000000
namespace Yd
open PySem PySem.Spec PyProof.Rows L2 Dial
/-! ### what one plate shades of another, in plain numbers -/
def cornersOf (p : Pl) : List T3 := [p.1, tPlus p.1 p.2.1, tPlus (tPlus p.1 p.2.1) p.2.2, tPlus p.1 p.2.2]
def heightsOf (a b : Pl) : List Int := (cornersOf b).map fun c => tInner (front a) (tMinus c a.1)
abbrev Q3 := Rat × Rat × Rat
abbrev l3 (q : Q3) : List Rat := [q.1, q.2.1, q.2.2]
abbrev q3 (t : T3) : Q3 := ((t.1 : Rat), (t.2.1 : Rat), (t.2.2 : Rat))
def mid3 (a b : Q3) (h k : Rat) : Q3 := (a.1 + h / (h - k) * (b.1 - a.1), a.2.1 + h / (h - k) * (b.2.1 - a.2.1), a.2.2 + h / (h - k) * (b.2.2 - a.2.2))
theorem midL_l3 (a b : Q3) (h k : Rat) : l3 (mid3 a b h k) = midL (l3 a) (l3 b) h k := rfl
def aheadOf (a b : Pl) : List (List Rat) := keptC midL (((cornersOf b).map fun c => l3 (q3 c)).zip ((heightsOf a b).map fun (n : Int) => (n : Rat)))
def flatOf (a : Pl) (d : T3) (b : Pl) : List Pt := tidy ((aheadOf a b).map (meetL a d))
def shade (a : Pl) (d : T3) (b : Pl) : List Pt := if tInner (front b) d = 0 ∨ (∀ y ∈ heightsOf a b, y ≤ 0) then [] else both (flatOf a d b) whole
def cornH (a b : Pl) : List (Q3 × Rat) := (cornersOf b).map fun c => (q3 c, ((tInner (front a) (tMinus c a.1) : Int) : Rat))
theorem ahead3 (a b : Pl) : aheadOf a b = (keptC mid3 (cornH a b)).map l3 := by
  rw [kept_map mid3 midL l3 (fun _ _ _ _ => rfl)]
  rfl
theorem pdot3 (q : Q3) (c t : T3) : pdot (gapL (l3 q) c) t = (q.1 - (c.1 : Rat)) * (t.1 : Rat) + ((q.2.1 - (c.2.1 : Rat)) * (t.2.1 : Rat) + ((q.2.2 - (c.2.2 : Rat)) * (t.2.2 : Rat) + 0)) := rfl
theorem meet_mid (p : Pl) (d : T3) (a b : Q3) (h k : Rat) : meetL p d (l3 (mid3 a b h k)) = cross (meetL p d (l3 a)) (meetL p d (l3 b)) h k := by
  unfold meetL cross along
  simp only [pdot3, Rat.div_def]
  generalize (((tInner (front p) d : Int) : Rat))⁻¹ = v
  unfold mid3
  simp only [Rat.div_def]
  generalize h * (h - k)⁻¹ = s
  refine Prod.ext ?_ ?_ <;> grind
theorem meet_par (p : Pl) (d : T3) (b : Pl) : ∃ w x y z : Pt, ((cornersOf b).map fun c => meetL p d (l3 (q3 c))) = [w, x, y, z] ∧ w.1 + y.1 = x.1 + z.1 ∧ w.2 + y.2 = x.2 + z.2 := by
  refine ⟨_, _, _, _, rfl, ?_, ?_⟩
  all_goals
    unfold meetL
    simp only [pdot3, Rat.div_def, q3, tPlus, Rat.intCast_add]
    generalize (((tInner (front p) d : Int) : Rat))⁻¹ = v
    grind
theorem flat_eq (a : Pl) (d : T3) (b : Pl) : flatOf a d b = tidy (keptC cross (((cornersOf b).map fun c => (meetL a d (l3 (q3 c)), ((tInner (front a) (tMinus c a.1) : Int) : Rat))))) := by
  unfold flatOf
  rw [ahead3, List.map_map, kept_map mid3 cross (meetL a d ∘ l3) (fun x y h k => meet_mid a d x y h k)]
  congr 2
theorem flat_ok (a : Pl) (d : T3) (b : Pl) : CC 1 (flatOf a d b) ∧ VD (flatOf a d b) := by
  rw [flat_eq]
  obtain ⟨w, x, y, z, e, h1, h2⟩ := meet_par a d b
  generalize hL : ((cornersOf b).map fun c => (meetL a d (l3 (q3 c)), ((tInner (front a) (tMinus c a.1) : Int) : Rat))) = L
  have eL : L.map (·.1) = [w, x, y, z] := by rw [← hL, List.map_map, ← e]; rfl
  refine ⟨?_, tidy_VD (VD.kept L (by rw [eL]; exact vd4 h1 h2))⟩
  rcases cc4 h1 h2 with c | c
  · exact tidy_CC (CC.kept L (by rw [eL]; exact c))
  · exact tidy_CC_neg (CC.kept L (by rw [eL]; exact c))
theorem gedges_mem {α : Type} {L : List α} {e : α × α} (h : e ∈ gedges L) : e.1 ∈ L ∧ e.2 ∈ L := by
  obtain ⟨i, hi, rfl⟩ := List.getElem_of_mem h
  have hi' : i < L.length := by rw [gedges_len] at hi; exact hi
  have := gedges_get L i hi'
  rw [List.getElem?_eq_getElem hi] at this
  rw [Option.some.inj this]
  exact ⟨List.getElem_mem _, List.getElem_mem _⟩
theorem kept_mem {α : Type} {m : α → α → Rat → Rat → α} {L : List (α × Rat)} {x : α} (h : x ∈ keptC m L) : (∃ a ∈ L, x = a.1) ∨ ∃ a ∈ L, ∃ b ∈ L, a.2 * b.2 < 0 ∧ x = m a.1 b.1 a.2 b.2 := by
  rw [keptC_edges] at h
  obtain ⟨e, he, hx⟩ := List.mem_flatMap.mp h
  obtain ⟨m1, m2⟩ := gedges_mem he
  unfold keptE at hx
  rcases List.mem_append.mp hx with z | z
  · unfold here at z
    split at z
    · exact .inl ⟨e.1, m1, List.mem_singleton.mp z⟩
    · cases z
  · unfold mids at z
    split at z
    · rename_i hc
      exact .inr ⟨e.1, m1, e.2, m2, hc, List.mem_singleton.mp z⟩
    · cases z
theorem corner_tb {n : Nat} {p : Pl} (h : PB n p) : ∀ c ∈ cornersOf p, TB (n + 2) c := fun c hc => by
  have h1 := TB.plus h.1 h.2.1
  have h2 := TB.plus h1 (h.2.2.mono (Nat.le_succ n))
  have h3 := TB.plus h.1 h.2.2
  simp only [cornersOf, List.mem_cons, List.not_mem_nil, or_false] at hc
  rcases hc with rfl | rfl | rfl | rfl
  · exact h.1.mono (by omega)
  · exact h1.mono (by omega)
  · exact h2
  · exact h3.mono (by omega)
theorem height_lt {a b : Pl} (ha : PB 10 a) (hb : PB 10 b) {c : T3} (hc : c ∈ cornersOf b) : (tInner (front a) (tMinus c a.1)).natAbs < 2 ^ 36 :=
  TB.dot ha.front (TB.minus (corner_tb hb c hc) (ha.1.mono (by decide)))
theorem q3_ht {n : Nat} {t : T3} (h : TB n t) (e : 1 ≤ n) : Ht n (q3 t).1 ∧ Ht n (q3 t).2.1 ∧ Ht n (q3 t).2.2 := ⟨ht_int h.1 e, ht_int h.2.1 e, ht_int h.2.2 e⟩
theorem mid_ht {x y h k : Rat} (hx : Ht 12 x) (hy : Ht 12 y) (hh : Ht 36 h) (hk : Ht 36 k) (hn : h - k ≠ 0) : Ht 150 (x + h / (h - k) * (y - x)) :=
  (ht_add hx (ht_mul (ht_div hh (ht_sub hh hk) hn) (ht_sub hy hx))).mono (by decide)
theorem ahead_ok {a b : Pl} (ha : PB 10 a) (hb : PB 10 b) : ∀ l ∈ aheadOf a b, l.length = 3 ∧ ∀ x ∈ l, Ht 150 x := fun l hl => by
  rw [ahead3] at hl
  obtain ⟨q, hq, rfl⟩ := List.mem_map.mp hl
  refine ⟨rfl, ?_⟩
  have key : Ht 150 q.1 ∧ Ht 150 q.2.1 ∧ Ht 150 q.2.2 := by
    have item : ∀ e ∈ cornH a b, (Ht 12 e.1.1 ∧ Ht 12 e.1.2.1 ∧ Ht 12 e.1.2.2) ∧ Ht 36 e.2 := fun e he => by
      obtain ⟨c, hc, rfl⟩ := List.mem_map.mp he
      exact ⟨q3_ht (corner_tb hb c hc) (by decide), ht_int (height_lt ha hb hc) (by decide)⟩
    rcases kept_mem hq with ⟨e, he, rfl⟩ | ⟨e, he, f, hf, hneg, rfl⟩
    · obtain ⟨⟨i1, i2, i3⟩, _⟩ := item e he
      exact ⟨i1.mono (by decide), i2.mono (by decide), i3.mono (by decide)⟩
    · obtain ⟨⟨i1, i2, i3⟩, ih⟩ := item e he
      obtain ⟨⟨j1, j2, j3⟩, jh⟩ := item f hf
      have hn : e.2 - f.2 ≠ 0 := by rcases sgn_cases hneg with z | z <;> grind
      exact ⟨mid_ht i1 j1 ih jh hn, mid_ht i2 j2 ih jh hn, mid_ht i3 j3 ih jh hn⟩
  intro x hx
  simp only [l3, List.mem_cons, List.not_mem_nil, or_false] at hx
  rcases hx with rfl | rfl | rfl
  · exact key.1
  · exact key.2.1
  · exact key.2.2
theorem ahead_len (a b : Pl) : (aheadOf a b).length ≤ 8 := by
  unfold aheadOf
  rw [keptC_edges]
  refine Nat.le_trans (keptE_len midL _) ?_
  rw [gedges_len]
  exact Nat.le_refl 8
theorem meets_ht {a b : Pl} {d : T3} (ha : PB 10 a) (hb : PB 10 b) (hd : TB 7 d) (hn : tInner (front a) d ≠ 0) : ∀ z ∈ (aheadOf a b).map (meetL a d), PHt 649 z := fun z hz => by
  obtain ⟨l, hl, rfl⟩ := List.mem_map.mp hz
  exact meet_ht ha hd (ahead_ok ha hb l hl).2 hn
theorem flat_bd {a b : Pl} {d : T3} (ha : PB 10 a) (hb : PB 10 b) (hd : TB 7 d) (hn : tInner (front a) d ≠ 0) : Bd nV nL (flatOf a d b) :=
  Bd.of_pts (m := 649) (fun z hz => meets_ht ha hb hd hn z (tidy_mem hz)) (by decide) (by decide)
theorem flat_len (a : Pl) (d : T3) (b : Pl) : (flatOf a d b).length ≤ 8 := by
  refine Nat.le_trans (tidy_len _) ?_
  rw [List.length_map]
  exact ahead_len a b
theorem whole_bd : Bd nV nL whole := Bd.of_pts (m := 1) (fun z hz => by
  have h0 : Ht 1 (0 : Rat) := ⟨by decide, by decide⟩
  have h1 : Ht 1 (1 : Rat) := ⟨by decide, by decide⟩
  simp only [whole, List.mem_cons, List.not_mem_nil, or_false] at hz
  rcases hz with rfl | rfl | rfl | rfl <;> exact ⟨by assumption, by assumption⟩) (by decide) (by decide)
/-- a part that is told -/
structure Fine (p : List Pt) : Prop where
  told : Told p
  bd : Bd nV nL p
  len : p.length ≤ 24
theorem Fine.cc {p : List Pt} (h : Fine p) : CC 1 p := h.told.ok.1.cc
theorem Fine.vd {p : List Pt} (h : Fine p) : VD p := h.told.ok.1.vd
theorem shade_fine {a b : Pl} {d : T3} (ha : PB 10 a) (hb : PB 10 b) (hd : TB 7 d) (hn : tInner (front a) d ≠ 0) : Fine (shade a d b) := by
  unfold shade
  split
  · exact ⟨.inl rfl, ⟨fun z hz => (by cases hz), fun e he => (by cases he)⟩, by decide⟩
  · obtain ⟨c, v⟩ := flat_ok a d b
    refine ⟨.inr ⟨_, c, v, rfl⟩, Bd.both (by decide) c (flat_bd ha hb hd hn) whole_bd.lns, ?_⟩
    have h1 := both_len (Q := whole) v
    have h2 := flat_len a d b
    have h3 : whole.length = 4 := rfl
    omega
end Yd

set_option Elab.async false
set_option linter.all false
set_option maxRecDepth 100000
set_option maxHeartbeats 4000000
namespace Yd
open PySem PySem.Spec PyProof.Rows L2 Dial
theorem Grown.new {K : PySem.W.Frag} {H H' : Hp} {p : Addr} {xs : List V} {ds : List PyData} (m : Same H H') (hp : H' p = none) (h : DpAll K H' xs ds) : Grown K H p ds (upd H' p (.lst xs)) :=
  ⟨m.free hp, m.trans (same_new hp _), xs, upd_same, by rw [hide_upd]; exact dpAll_same (same_hide (Same.refl _) hp) _ _ h⟩
theorem dpAll_ints {K : PySem.W.Frag} {H : Hp} : ∀ {ns : List Int} {xs : List V}, DpAll K H xs (ns.map PyData.int) → xs = ns.map V.int
  | [], _, h => by cases h; rfl
  | n :: ns, _, h => by
    cases h with
    | cons h1 h2 => rw [dp_int h1, dpAll_ints h2]; rfl
abbrev dE (e : Int × T3) : PyData := .tuple [.int e.1, dT e.2]
abbrev spCorners (K : PySem.W.Frag) : Sp := fun vs H Q _ => ∃ (v : V) (p : Pl), vs = [v] ∧ Dp K H v (dPl p) ∧ PB 20 p ∧ GivesL K H Q ((cornersOf p).map dT)
abbrev spPoint (K : PySem.W.Frag) : Sp := fun vs H Q _ => ∃ (v : V) (t : T3), vs = [v] ∧ Dp K H v (dT t) ∧ Gives K H Q (dRs (l3 (q3 t)))
abbrev spDirAt (K : PySem.W.Frag) : Sp := fun vs H Q _ => ∃ (v : V) (l : List (Int × T3)) (h : Int) (e : Int × T3), vs = [v, .int h] ∧ Dp K H v (.list (l.map dE)) ∧ l.find? (fun e => decide (e.1 = h)) = some e ∧ ∀ u, Dp K H u (dT e.2) → Q u H
abbrev spIsUp (K : PySem.W.Frag) : Sp := fun vs H Q _ => ∃ (v : V) (l : List (Int × T3)) (h : Int) (e : Int × T3), vs = [v, .int h] ∧ Dp K H v (.list (l.map dE)) ∧ l.find? (fun e => decide (e.1 = h)) = some e ∧ Q (.bl (decide (0 < e.2.2.2))) H
abbrev spShaded (K : PySem.W.Frag) : Sp := fun vs H Q _ => ∃ (v1 v2 v3 : V) (a b : Pl) (d : T3), vs = [v1, v2, v3] ∧ Dp K H v1 (dPl a) ∧ Dp K H v2 (dPl b) ∧ Dp K H v3 (dT d) ∧ PB 10 a ∧ PB 10 b ∧ TB 7 d ∧ tInner (front a) d ≠ 0 ∧ GivesL K H Q ((shade a d b).map dP)
theorem PB.mono {n m : Nat} {p : Pl} (h : PB n p) (e : n ≤ m) : PB m p := ⟨h.1.mono e, h.2.1.mono e, h.2.2.mono e⟩
section
variable {P : Program} {w : World} {K : PySem.W.Frag} {mg : Str → Option Value} {base : Heap}
theorem ok_corners (D : Df K mg "corners_of" (topS 42) ["plate"]) (hS : Has P w K mg base 1 "triple_sum" (spT2 K tPlus)) : Has P w K mg base 2 "corners_of" (spCorners K) := by
  have S : FnScope ["plate", "corner", "side", "other", "far"] ["plate"] (defScope (topS 42)) := ⟨rfl, rfl, rfl, by decide +kernel, rfl, by decide +kernel, by decide +kernel⟩
  refine has0 D S (by rintro _ _ _ _ ⟨_, _, rfl, _⟩; rfl) (fun f cdv A outer s H vs Q E hr h => ?_)
  obtain ⟨v, p, rfl, dp, hp, q⟩ := h
  obtain ⟨a, x, y, z, rfl, sa, d1, d2, d3⟩ := dp_pl dp
  refine ⟨_, pss_cons (ps_asg (pv 0) (pg_tup rfl (pgs_cons (pg_name (i := 1) S.nd rfl (.inl rfl)) (pgs_cons (pg_name (i := 2) S.nd rfl (.inl rfl)) (pgs_cons (pg_name (i := 3) S.nd rfl (.inl rfl)) pgs_nil)))))
    (pss_cons (ps_set (i := 4) S.nd rfl (.inl rfl) (pe_h hS hr (by decide) (by rfl) (pa_cons (pv 1) (pa_cons (pv 2) pa_nil))))
    (pss_one (ps_ret (pe_lst (pa_cons (pv 1) (pa_cons (pv 4) (pa_cons (pe_h hS hr (by decide) (by rfl) (pa_cons (pv 4) (pa_cons (pv 3) pa_nil))) (pa_cons (pe_h hS hr (by decide) (by rfl) (pa_cons (pv 1) (pa_cons (pv 3) pa_nil))) pa_nil)))))))), ?_⟩
  refine ⟨_, rfl, a, _, rfl, sa, rfl, _, _, rfl, _, _, rfl, _, _, rfl, rfl, ?_⟩
  have z1 := TB.plus hp.1 hp.2.1
  refine ⟨_, rfl, _, rfl, _, _, _, _, rfl, d1, d2, hp.1.mono (by decide), hp.2.1.mono (by decide), fun u1 H1 m1 e1 => ?_⟩
  refine ⟨_, rfl, _, rfl, _, rfl, _, rfl, _, _, _, _, rfl, e1, dp_same m1 _ _ d3, z1.mono (by decide), hp.2.2.mono (by decide), fun u2 H2 m2 e2 => ?_⟩
  refine ⟨_, rfl, _, rfl, _, _, _, _, rfl, dp_same (m1.trans m2) _ _ d1, dp_same (m1.trans m2) _ _ d3, hp.1.mono (by decide), hp.2.2.mono (by decide), fun u3 H3 m3 e3 => ?_⟩
  refine ⟨(by show 4 ≤ sizeLine; decide), fun r hr2 => ?_⟩
  exact q _ _ (Grown.new (m1.trans (m2.trans m3)) hr2 (.cons (dp_same (m1.trans (m2.trans m3)) _ _ d1) (.cons (dp_same (m2.trans m3) _ _ e1) (.cons (dp_same m3 _ _ e2) (.cons e3 .nil)))))
theorem ok_point (D : Df K mg "as_point" (topS 43) ["triple"]) (mt : mg "tuple" = none) : Has P w K mg base 1 "as_point" (spPoint K) := by
  have S : FnScope ["triple", "number"] ["triple"] (defScope (topS 43)) := ⟨rfl, rfl, rfl, by decide +kernel, rfl, by decide +kernel, by decide +kernel⟩
  refine has0 D S (by rintro _ _ _ _ ⟨_, _, rfl, _⟩; rfl) (fun f cdv A outer s H vs Q E hr h => ?_)
  obtain ⟨v, t, rfl, d1, q⟩ := h
  obtain ⟨pa, rfl, sa⟩ := dp_t3 d1
  have db : ∀ i : Nat, [V.int t.1, V.int t.2.1, V.int t.2.2][i]? = (t3l t)[i]?.map V.int := fun i => by rw [← List.getElem?_map]; rfl
  refine ⟨_, pss_one (ps_ret (pe_tupleOf (by rfl) mt (pe_lc (own := [("number", 1)]) (g := gName 1) (tt := tYes) rfl S.nd (pi_tup (pv 0))
      (blkOk_by (own := [("number", 1)]) (N := ["triple", "number"]) (sc := defScope (topS 43)) (by decide +kernel))
      (fun _ _ _ _ _ => by exact pg_name (i := 1) S.nd rfl (.inl rfl)) (fun _ _ _ _ _ => pts_nil)
      (fun _ _ _ _ _ => by exact pe_tup (pa_cons (pv 1) (pa_cons pe_int pa_nil)))))), ?_⟩
  refine ⟨_, rfl, pa, rfl, ⟨_, sa⟩, fun D hD => ?_⟩
  refine lc_it (walk_tup (K := K) (a := pa) (xs := [V.int t.1, V.int t.2.1, V.int t.2.2])) (fun i H' => Grown K H D (((l3 (q3 t)).take i).map dR) H') (Grown.start hD) (fun i H' _ g => Same.tup g.same sa) ?_ ?_
  · rintro i x H' H'' hi g ⟨rfl, gx⟩
    have hit : i < (t3l t).length := hi
    rw [db i, List.getElem?_eq_getElem hit] at gx
    have ey : V.int (t3l t)[i] = x := Option.some.inj gx
    subst ey
    refine ⟨rfl, ?_⟩
    refine tyes_if ?_
    refine ⟨_, rfl, (by show 2 ≤ sizeLine; decide), fun r hr2 => ?_⟩
    have mr := same_new hr2 (.tup [.int (t3l t)[i], .int 1])
    have g5 := g.step mr
    obtain ⟨acc, k1, k2, k3⟩ := g5.more (g5.hid (d := dR ((t3l t)[i] : Rat)) rfl (int_dp (SqT.of upd_same)))
    refine ⟨acc, k1, ?_, ?_⟩
    · rw [k2, List.length_map, List.length_take]; exact line_small (by have : i < 3 := hi; omega)
    · have hmi : (l3 (q3 t))[i]? = some ((t3l t)[i] : Rat) := by
        have : l3 (q3 t) = (t3l t).map fun (n : Int) => (n : Rat) := rfl
        rw [this, List.getElem?_map, List.getElem?_eq_getElem hit]; rfl
      rw [List.take_add_one, hmi, List.map_append]
      exact k3
  · intro H' g
    have el : (l3 (q3 t)).take [V.int t.1, V.int t.2.1, V.int t.2.2].length = l3 (q3 t) := rfl
    rw [el] at g
    obtain ⟨acc, k1, k2⟩ := g.ex
    refine .inl ⟨D, acc, rfl, SqL.of k1, fun p hp => ?_⟩
    refine q _ _ (g.same.trans (same_new hp _)) ?_
    exact .tup (SqT.of upd_same) (dpAll_same ((hide_sub D H').trans (same_new hp _)) _ _ k2)
theorem ok_dirAt (D : Df K mg "direction_at" (topS 37) ["sun", "hour"]) : Has P w K mg base 1 "direction_at" (spDirAt K) := by
  have S : FnScope ["sun", "hour", "told", "direction"] ["sun", "hour"] (defScope (topS 37)) := ⟨rfl, rfl, rfl, by decide +kernel, rfl, by decide +kernel, by decide +kernel⟩
  refine has0 D S (by rintro _ _ _ _ ⟨_, _, _, _, rfl, _⟩; rfl) (fun f cdv A outer s H vs Q E hr h => ?_)
  obtain ⟨v, l, h, e, rfl, d1, he, q⟩ := h
  obtain ⟨a, xs, rfl, sa, da⟩ := dp_lst d1
  have hx : xs.length = l.length := map_len da
  refine ⟨_, pss_cons (ps_for PassesOwn.never rfl (pi_list (pv 0)) (pg_tup rfl (pgs_cons (pg_name (i := 2) S.nd rfl (.inl rfl)) (pgs_cons (pg_name (i := 3) S.nd rfl (.inl rfl)) pgs_nil)))
      (pss_one (ps_if (pt_cmpR op_eq (pv 2) (pv 1) (nomark _)) (pss_one (ps_ret (pv 3))) pss_nil))) pss_never, ?_⟩
  refine ⟨_, rfl, a, rfl, ⟨xs, sa⟩, ?_⟩
  refine for_list (K := K) (a := a) (xs := xs) (fun i σ H' => ∃ y2 y3, σ = [some (.ref a), some (.int h), y2, y3] ∧ H' = H ∧ (l.drop i).find? (fun e => decide (e.1 = h)) = some e)
    ⟨none, none, rfl, rfl, he⟩ (fun i σ H' _ hI => ?_) (fun i x σ H' gx hI => ?_) (fun σ H' hI => ?_)
  · obtain ⟨_, _, _, rfl, _⟩ := hI; exact sa
  · obtain ⟨y2, y3, rfl, rfl, hf⟩ := hI
    have hi : i < l.length := by rw [← hx]; exact (List.getElem?_eq_some_iff.mp gx).1
    obtain ⟨x', gx', dx⟩ := map_get da hi
    have ex : x = x' := Option.some.inj (gx.symm.trans gx')
    subst ex
    obtain ⟨b, ys, rfl, sb, db⟩ := dp_tup dx
    obtain ⟨z1, z2, rfl, h1, h2⟩ := all2 db
    rw [dp_int h1] at sb
    rw [List.drop_eq_getElem_cons hi, List.find?_cons] at hf
    refine ⟨b, _, rfl, sb, rfl, _, _, rfl, _, _, rfl, rfl, ?_⟩
    refine ⟨_, rfl, _, rfl, rfl, _, rfl, ?_⟩
    by_cases c : l[i].1 = h
    · rw [decide_eq_true c] at hf
      have e2 : decide (V.int l[i].1 = V.int h) = true := decide_eq_true (by rw [c])
      rw [e2]
      refine iteT ?_
      rw [← Option.some.inj hf] at q
      exact ⟨_, rfl, q _ h2⟩
    · rw [decide_eq_false c] at hf
      have e2 : decide (V.int l[i].1 = V.int h) = false := decide_eq_false (fun z => c (V.int.inj z))
      rw [e2]
      refine iteF ?_
      exact ⟨_, _, rfl, rfl, hf⟩
  · obtain ⟨_, _, rfl, rfl, hf⟩ := hI
    rw [hx, List.drop_length] at hf
    cases hf
theorem ok_isUp (D : Df K mg "is_up" (topS 38) ["sun", "hour"]) (hA : Has P w K mg base 1 "direction_at" (spDirAt K)) : Has P w K mg base 2 "is_up" (spIsUp K) := by
  have S : FnScope ["sun", "hour"] ["sun", "hour"] (defScope (topS 38)) := ⟨rfl, rfl, rfl, by decide +kernel, rfl, by decide +kernel, by decide +kernel⟩
  refine has0 D S (by rintro _ _ _ _ ⟨_, _, _, _, rfl, _⟩; rfl) (fun f cdv A outer s H vs Q E hr h => ?_)
  obtain ⟨v, l, h, e, rfl, d1, he, q⟩ := h
  refine ⟨_, pss_one (ps_ret (pe_cmpR op_gt (pe_ix ix_tup (pe_h hA hr (by decide) (by rfl) (pa_cons (pv 0) (pa_cons (pv 1) pa_nil))) pe_int (fun _ _ => rfl)) pe_int (nomark _))), ?_⟩
  refine ⟨_, rfl, _, rfl, _, l, h, e, rfl, d1, he, fun u hu => ?_⟩
  obtain ⟨b, rfl, sb⟩ := dp_t3 hu
  exact ⟨b, _, 2, _, rfl, rfl, sb, atI_nat (j := 2) rfl, _, _, rfl, rfl, q⟩
end
end Yd

set_option Elab.async false
set_option linter.all false
set_option maxRecDepth 100000
set_option maxHeartbeats 4000000
namespace Yd
open PySem PySem.Spec PyProof.Rows L2 Dial
theorem all_le {ns : List Int} {m : Int} (h : m ∈ ns) (k : ∀ y ∈ ns, y ≤ m) : decide (m ≤ 0) = decide (∀ y ∈ ns, y ≤ 0) := by
  rw [decide_eq_decide]
  exact ⟨fun z y hy => Int.le_trans (k y hy) z, fun z => z m h⟩
section
variable {P : Program} {w : World} {K : PySem.W.Frag} {mg : Str → Option Value} {base : Heap}
theorem ok_shaded (D : Df K mg "shaded_by" (topS 44) ["plate", "other", "direction"]) (mM : mg "max" = none) (mL : mg "list" = none) {aW : Addr} (mW : mg "WHOLE" = some (.ref aW)) (dW : ∀ H, Dp K H (.ref aW) (dPart whole))
    (hF : Has P w K mg base 2 "front_of" (spFront K)) (hC : Has P w K mg base 2 "corners_of" (spCorners K)) (hD : Has P w K mg base 1 "dot_of" (spDot K)) (hL : Has P w K mg base 1 "triple_less" (spT2 K tMinus)) (hA : Has P w K mg base 1 "as_point" (spPoint K))
    (hK : Has P w K mg base 44 "kept_side" (spKept K)) (hM : Has P w K mg base 44 "meeting_of" (spMeet K)) (hY : Has P w K mg base 44 "tidied_part" (spTidied K)) (hB : Has P w K mg base 45 "both_of" (spBoth K)) : Has P w K mg base 46 "shaded_by" (spShaded K) := by
  have S : FnScope ["plate", "other", "direction", "front", "corners", "heights", "ahead", "corner", "height", "point"] ["plate", "other", "direction"] (defScope (topS 44)) := ⟨rfl, rfl, rfl, by decide +kernel, rfl, by decide +kernel, by decide +kernel⟩
  refine has0 D S (by rintro _ _ _ _ ⟨_, _, _, _, _, _, rfl, _⟩; rfl) (fun f cdv A outer s H vs Q E hr h => ?_)
  obtain ⟨v1, v2, v3, a, b, d, rfl, d1, d2, d3, ha, hb, hd, hn, q⟩ := h
  obtain ⟨pa, c1, c2, c3, rfl, sa, dc1, dc2, dc3⟩ := dp_pl d1
  refine ⟨_, pss_cons (ps_set (i := 3) S.nd rfl (.inr rfl) (pe_h hF hr (by decide) (by rfl) (pa_cons (pv 0) pa_nil)))
    (pss_cons (ps_set (i := 4) S.nd rfl (.inl rfl) (pe_h hC hr (by decide) (by rfl) (pa_cons (pv 1) pa_nil)))
    (pss_cons (ps_setLc (i := 5) (own := [("corner", 7)]) (g := gName 7) (tt := tYes) rfl S.nd rfl rfl (sw_true rfl rfl rfl (by decide +kernel)) (pi_list (pv 4))
      (blkOk_by (own := [("corner", 7)]) (N := ["plate", "other", "direction", "front", "corners", "heights", "ahead", "corner", "height", "point"]) (sc := defScope (topS 44)) (by decide +kernel))
      (fun _ _ _ _ _ => by exact pg_name (i := 7) S.nd rfl (.inl rfl)) (fun _ _ _ _ _ => pts_nil)
      (fun _ _ _ _ _ => by exact pe_h hD hr (by decide) (by rfl) (pa_cons (pv 3) (pa_cons (pe_h hL hr (by decide) (by rfl) (pa_cons (pv 7) (pa_cons (pe_ix (ixt (K := K) rfl) (pv 0) pe_int (fun _ _ => rfl)) pa_nil))) pa_nil))))
    (pss_cons (ps_if (PW.pt (pw_or (pt_cmpR op_eq (pe_h hD hr (by decide) (by rfl) (pa_cons (pe_h hF hr (by decide) (by rfl) (pa_cons (pv 1) pa_nil)) (pa_cons (pv 2) pa_nil))) pe_int (nomark _))
        (pw_or1 (pt_cmpR op_le (pe_callB (cr_max rfl) (by rfl) mM (by decide +kernel) (pa_cons (pv 5) pa_nil)) pe_int (nomark _))))) (pss_one (ps_ret (pe_lst pa_nil))) pss_nil)
    (pss_cons (ps_set (i := 6) S.nd rfl (.inl rfl) (pe_h hK hr (by decide) (by rfl) (pa_cons
      (pe_lc (own := [("corner", 7)]) (g := gName 7) (tt := tYes) rfl S.nd (pi_list (pv 4))
        (blkOk_by (own := [("corner", 7)]) (N := ["plate", "other", "direction", "front", "corners", "heights", "ahead", "corner", "height", "point"]) (sc := defScope (topS 44)) (by decide +kernel))
        (fun _ _ _ _ _ => by exact pg_name (i := 7) S.nd rfl (.inl rfl)) (fun _ _ _ _ _ => pts_nil)
        (fun _ _ _ _ _ => by exact pe_h hA hr (by decide) (by rfl) (pa_cons (pv 7) pa_nil))) (pa_cons
      (pe_lc (own := [("height", 8)]) (g := gName 8) (tt := tYes) rfl S.nd (pi_list (pv 5))
        (blkOk_by (own := [("height", 8)]) (N := ["plate", "other", "direction", "front", "corners", "heights", "ahead", "corner", "height", "point"]) (sc := defScope (topS 44)) (by decide +kernel))
        (fun _ _ _ _ _ => by exact pg_name (i := 8) S.nd rfl (.inl rfl)) (fun _ _ _ _ _ => pts_nil)
        (fun _ _ _ _ _ => by exact pe_tup (pa_cons (pv 8) (pa_cons pe_int pa_nil)))) pa_nil))))
    (pss_one (ps_ret (pe_h hB hr (by decide) (by rfl) (pa_cons (pe_h hY hr (by decide) (by rfl) (pa_cons
      (pe_lc (own := [("point", 9)]) (g := gName 9) (tt := tYes) rfl S.nd (pi_list (pv 6))
        (blkOk_by (own := [("point", 9)]) (N := ["plate", "other", "direction", "front", "corners", "heights", "ahead", "corner", "height", "point"]) (sc := defScope (topS 44)) (by decide +kernel))
        (fun _ _ _ _ _ => by exact pg_name (i := 9) S.nd rfl (.inl rfl)) (fun _ _ _ _ _ => pts_nil)
        (fun _ _ _ _ _ => by exact pe_h hM hr (by decide) (by rfl) (pa_cons (pv 0) (pa_cons (pv 9) (pa_cons (pv 2) pa_nil))))) pa_nil))
      (pa_cons (pe_callTy call_list_of (by rfl) mL (by decide +kernel) (pa_cons (pe_glob (v := .ref aW) (by rfl) mW rfl) pa_nil)) pa_nil))))))))), ?_⟩
  refine ⟨_, rfl, _, a, rfl, d1, ha.mono (by decide), fun u1 H1 m1 e1 => ?_⟩
  refine ⟨_, rfl, _, b, rfl, dp_same m1 _ _ d2, hb.mono (by decide), fun p2 H2 g2 => ?_⟩
  have n2 := m1.trans g2.same
  obtain ⟨p2', cs, ep2, sc, dc⟩ := dp_lst g2.dp
  cases ep2
  have hcl : cs.length = 4 := by rw [map_len dc]; rfl
  have f2 := dp_same g2.same _ _ e1
  have tcs : ∀ c ∈ cornersOf b, TB 12 c := corner_tb hb
  have hhl : (heightsOf a b).length = 4 := rfl
  -- the heights
  refine ⟨_, rfl, p2, rfl, ⟨cs, sc⟩, fun D1 hD1 => ?_⟩
  refine lc_list (K := K) (a := p2) (xs := cs) (fun i H' => Grown K H2 D1 (((heightsOf a b).take i).map PyData.int) H') (Grown.start hD1) (fun i H' _ g => g.same.seq sc) (fun i x H' gx g => ?_) (fun H3 g3 => ?_)
  · have hi : i < (cornersOf b).length := by rw [← map_len dc]; exact (List.getElem?_eq_some_iff.mp gx).1
    obtain ⟨x', gx', dx⟩ := map_get dc hi
    have ex : x = x' := Option.some.inj (gx.symm.trans gx')
    subst ex
    have tx := tcs _ (List.getElem_mem hi)
    have mm := n2.trans g.same
    refine ⟨rfl, ?_⟩
    refine tyes_if ?_
    refine ⟨_, rfl, _, rfl, _, rfl, pa, _, 0, _, rfl, rfl, Same.tup mm sa, atI_nat (j := 0) rfl, _, _, _, _, rfl, dp_same g.same _ _ dx, dp_same mm _ _ dc1, tx.mono (by decide), ha.1.mono (by decide), fun u4 H4 m4 e4 => ?_⟩
    refine ⟨_, _, _, _, rfl, dp_same (g.same.trans m4) _ _ f2, e4, ha.front.mono (by decide), (TB.minus tx (ha.1.mono (by decide))).mono (by decide), ?_⟩
    have g4 := g.step m4
    obtain ⟨acc, k1, k2, k3⟩ := g4.more (g4.hid (d := .int (tInner (front a) (tMinus (cornersOf b)[i] a.1))) rfl (.int _))
    refine ⟨acc, k1, ?_, ?_⟩
    · rw [k2, List.length_map, List.length_take]; exact line_small (by omega)
    · have e5 : (heightsOf a b)[i]? = some (tInner (front a) (tMinus (cornersOf b)[i] a.1)) := by unfold heightsOf; rw [List.getElem?_map, List.getElem?_eq_getElem hi]; rfl
      rw [List.take_add_one, e5, List.map_append]
      exact k3
  rw [hcl, List.take_of_length_le (by rw [hhl]; exact Nat.le_refl _)] at g3
  have n3 := n2.trans g3.same
  obtain ⟨D1', hs, eD1, sh, dh⟩ := dp_lst g3.dp
  cases eD1
  have eh := dpAll_ints dh
  -- the first return
  refine ⟨_, rfl, _, b, rfl, dp_same n3 _ _ d2, hb.mono (by decide), fun u4 H4 m4 e4 => ?_⟩
  refine ⟨_, rfl, _, _, _, _, rfl, e4, dp_same (n3.trans m4) _ _ d3, hb.front.mono (by decide), hd.mono (by decide), ?_⟩
  refine ⟨rfl, _, rfl, ?_⟩
  have n4 := n3.trans m4
  have eS : shade a d b = if tInner (front b) d = 0 ∨ (∀ y ∈ heightsOf a b, y ≤ 0) then [] else both (flatOf a d b) whole := rfl
  rw [eS] at q
  by_cases k1 : tInner (front b) d = 0
  · rw [if_pos (.inl k1)] at q
    have e5 : decide (V.int (tInner (front b) d) = V.int 0) = true := decide_eq_true (by rw [k1])
    rw [e5]
    refine iteT ?_
    refine iteT ?_
    exact ⟨Nat.zero_le _, fun p hp => q p _ ((Grown.start hp).base n4)⟩
  have e5 : decide (V.int (tInner (front b) d) = V.int 0) = false := decide_eq_false (fun z => k1 (V.int.inj z))
  rw [e5]
  refine iteF ?_
  refine ⟨_, rfl, D1, heightsOf a b, rfl, by rw [← eh]; exact m4.seq sh, by rw [hhl]; decide, fun m hm1 hm2 => ?_⟩
  refine ⟨_, _, rfl, rfl, _, rfl, ?_⟩
  rw [all_le hm1 hm2]
  by_cases k2 : ∀ y ∈ heightsOf a b, y ≤ 0
  · rw [if_pos (.inr k2)] at q
    rw [decide_eq_true k2]
    refine iteT ?_
    exact ⟨Nat.zero_le _, fun p hp => q p _ ((Grown.start hp).base n4)⟩
  rw [decide_eq_false k2]
  refine iteF ?_
  rw [if_neg (by simp only [k1, k2, or_self, not_false_eq_true])] at q
  -- the corners as points
  have g24 := (g2.step g3.same).step m4
  refine ⟨_, rfl, p2, rfl, ⟨cs, (g3.same.trans m4).seq sc⟩, fun D2 hD2 => ?_⟩
  refine lc_list (K := K) (a := p2) (xs := cs) (fun i H' => Grown K H4 D2 ((((cornersOf b).map fun c => l3 (q3 c)).take i).map dRs) H') (Grown.start hD2) (fun i H' _ g => g.same.seq ((g3.same.trans m4).seq sc)) (fun i x H' gx g => ?_) (fun H5 g5 => ?_)
  · have hi : i < (cornersOf b).length := by rw [← map_len dc]; exact (List.getElem?_eq_some_iff.mp gx).1
    obtain ⟨x', gx', dx⟩ := map_get dc hi
    have ex : x = x' := Option.some.inj (gx.symm.trans gx')
    subst ex
    refine ⟨rfl, ?_⟩
    refine tyes_if ?_
    refine ⟨_, rfl, _, _, rfl, dp_same (g3.same.trans (m4.trans g.same)) _ _ dx, fun u6 H6 m6 e6 => ?_⟩
    have g6 := g.step m6
    obtain ⟨acc, k1, k2, k3⟩ := g6.more (g6.hid (lf_rats _) e6)
    refine ⟨acc, k1, ?_, ?_⟩
    · rw [k2, List.length_map, List.length_take]; exact line_small (by have : (cornersOf b).length = 4 := rfl; omega)
    · have e7 : ((cornersOf b).map fun c => l3 (q3 c))[i]? = some (l3 (q3 (cornersOf b)[i])) := by rw [List.getElem?_map, List.getElem?_eq_getElem hi]; rfl
      rw [List.take_add_one, e7, List.map_append]
      exact k3
  rw [hcl, List.take_of_length_le (by rw [List.length_map]; exact Nat.le_refl 4)] at g5
  have n5 := n4.trans g5.same
  -- the heights as fractions
  refine ⟨_, rfl, D1, rfl, ⟨hs, (m4.trans g5.same).seq sh⟩, fun D3 hD3 => ?_⟩
  refine lc_list (K := K) (a := D1) (xs := hs) (fun i H' => Grown K H5 D3 ((((heightsOf a b).map fun (n : Int) => (n : Rat)).take i).map dR) H') (Grown.start hD3) (fun i H' _ g => g.same.seq ((m4.trans g5.same).seq sh)) (fun i x H' gx g => ?_) (fun H6 g6 => ?_)
  · rw [eh, List.getElem?_map] at gx
    have hi : i < (heightsOf a b).length := by
      rcases Nat.lt_or_ge i (heightsOf a b).length with z | z
      · exact z
      · rw [List.getElem?_eq_none z] at gx; cases gx
    rw [List.getElem?_eq_getElem hi] at gx
    have ex : V.int (heightsOf a b)[i] = x := Option.some.inj gx
    subst ex
    refine ⟨rfl, ?_⟩
    refine tyes_if ?_
    refine ⟨_, rfl, (by show 2 ≤ sizeLine; decide), fun r hr2 => ?_⟩
    have g6 := g.step (same_new hr2 (.tup [.int (heightsOf a b)[i], .int 1]))
    obtain ⟨acc, k1, k2, k3⟩ := g6.more (g6.hid (d := dR ((heightsOf a b)[i] : Rat)) rfl (int_dp (SqT.of upd_same)))
    refine ⟨acc, k1, ?_, ?_⟩
    · rw [k2, List.length_map, List.length_take]; exact line_small (by omega)
    · have e7 : ((heightsOf a b).map fun (n : Int) => (n : Rat))[i]? = some ((heightsOf a b)[i] : Rat) := by rw [List.getElem?_map, List.getElem?_eq_getElem hi]; rfl
      rw [List.take_add_one, e7, List.map_append]
      exact k3
  have hsl : hs.length = 4 := by rw [eh, List.length_map]; rfl
  rw [hsl, List.take_of_length_le (by rw [List.length_map]; exact Nat.le_refl 4)] at g6
  have n6 := n5.trans g6.same
  refine ⟨_, _, 3, (cornersOf b).map fun c => l3 (q3 c), (heightsOf a b).map fun (n : Int) => (n : Rat), rfl, dp_same g6.same _ _ g5.dp, g6.dp, rfl, by rw [List.length_map]; show 4 ≤ 1000; decide, by decide, fun c hc => ?_, fun h hh => ?_, fun p7 H7 g7 => ?_⟩
  · obtain ⟨t, ht, rfl⟩ := List.mem_map.mp hc
    refine ⟨rfl, fun x hx => ?_⟩
    have tt := q3_ht (tcs t ht) (by decide)
    simp only [l3, List.mem_cons, List.not_mem_nil, or_false] at hx
    rcases hx with rfl | rfl | rfl
    · exact tt.1.mono (by decide)
    · exact tt.2.1.mono (by decide)
    · exact tt.2.2.mono (by decide)
  · obtain ⟨t, ht, rfl⟩ := List.mem_map.mp hh
    obtain ⟨c, hc, rfl⟩ := List.mem_map.mp ht
    exact ht_int (Nat.lt_of_lt_of_le (height_lt ha hb hc) (two_pow_le (by decide))) (by decide)
  have n7 := n6.trans g7.same
  have eA : keptC midL (((cornersOf b).map fun c => l3 (q3 c)).zip ((heightsOf a b).map fun (n : Int) => (n : Rat))) = aheadOf a b := rfl
  rw [eA] at g7
  have okA := ahead_ok ha hb
  have lnA := ahead_len a b
  have htM := meets_ht ha hb hd hn
  have eF : flatOf a d b = tidy ((aheadOf a b).map (meetL a d)) := rfl
  have bdF := flat_bd ha hb hd hn
  have lnF := flat_len a d b
  obtain ⟨ccF, vdF⟩ := flat_ok a d b
  obtain ⟨p7', as, ep7, sA, dA⟩ := dp_lst g7.dp
  cases ep7
  have hal : as.length = (aheadOf a b).length := map_len dA
  generalize aheadOf a b = L at *
  -- the meetings
  refine ⟨_, rfl, p7, rfl, ⟨as, sA⟩, fun D4 hD4 => ?_⟩
  refine lc_list (K := K) (a := p7) (xs := as) (fun i H' => Grown K H7 D4 (((L.map (meetL a d)).take i).map dP) H') (Grown.start hD4) (fun i H' _ g => g.same.seq sA) (fun i x H' gx g => ?_) (fun H8 g8 => ?_)
  · have hi : i < L.length := by rw [← hal]; exact (List.getElem?_eq_some_iff.mp gx).1
    obtain ⟨x', gx', dx⟩ := map_get dA hi
    have ex : x = x' := Option.some.inj (gx.symm.trans gx')
    subst ex
    have mm := n7.trans g.same
    obtain ⟨l1, l2⟩ := okA _ (List.getElem_mem hi)
    refine ⟨rfl, ?_⟩
    refine tyes_if ?_
    refine ⟨_, rfl, _, rfl, _, rfl, _, _, _, _, _, _, rfl, dp_same mm _ _ d1, dp_same g.same _ _ dx, dp_same mm _ _ d3, ha, hd, l1, l2, hn, fun u9 H9 m9 e9 => ?_⟩
    have g9 := g.step m9
    obtain ⟨acc, k1, k2, k3⟩ := g9.more (g9.hid rfl e9)
    refine ⟨acc, k1, ?_, ?_⟩
    · rw [k2, List.length_map, List.length_take]; exact line_small (by omega)
    · have e7 : (L.map (meetL a d))[i]? = some (meetL a d L[i]) := by rw [List.getElem?_map, List.getElem?_eq_getElem hi]; rfl
      rw [List.take_add_one, e7, List.map_append]
      exact k3
  rw [hal, List.take_of_length_le (by rw [List.length_map]; exact Nat.le_refl _)] at g8
  have n8 := n7.trans g8.same
  refine ⟨_, L.map (meetL a d), rfl, g8.dp, fun z hz => ⟨(htM z hz).1.mono (by decide), (htM z hz).2.mono (by decide)⟩, by rw [List.length_map]; exact Nat.le_trans lnA (by decide), fun p9 H9 g9 => ?_⟩
  have n9 := n8.trans g9.same
  rw [← eF] at g9
  obtain ⟨aW', ws, eW, sW, wW⟩ := dp_lst (dW H9)
  cases eW
  refine ⟨aW, ws, rfl, .inl sW, fun p10 hp10 => ?_⟩
  have m10 := same_new hp10 (.lst ws)
  refine ⟨_, _, flatOf a d b, whole, rfl, dp_same m10 _ _ g9.dp, .lst (SqL.of upd_same) (dpAll_same m10 _ _ wW), ccF, vdF, bdF, whole_bd.pts, whole_bd.lns, ?_, fun p11 H11 g11 => ?_⟩
  · have h3 : whole.length = 4 := rfl
    have h4 : most = 300 := rfl
    omega
  · exact q p11 H11 (g11.base (n9.trans m10))
end
end Yd

set_option Elab.async false
set_option linter.all false
set_option maxRecDepth 100000
set_option maxHeartbeats 4000000
namespace Yd
open PySem PySem.Spec PyProof.Rows L2 Dial
/-! ### left_of -/
def LB : Nat → Nat
  | 0 => 6240603
  | n + 1 => LB n + LB n + 1
theorem lb_mono : ∀ {n m : Nat}, n ≤ m → LB n ≤ LB m := by
  intro n m h
  induction m with
  | zero => have : n = 0 := by omega
            subst this; exact Nat.le_refl _
  | succ m ih =>
    by_cases c : n = m + 1
    · subst c; exact Nat.le_refl _
    · have := ih (by omega)
      show LB n ≤ LB m + LB m + 1
      omega
theorem both_fits {R q : List Pt} {n : Nat} (v : VD R) (hq : q.length ≤ 24) (h : R.length + 96 * (n + 1) ≤ most) : (both R q).length + 96 * n ≤ most := by
  have := both_len (Q := q) v
  omega
theorem share_lb {R : List Pt} (h : Bd nV nL R) (hl : R.length ≤ most) (n : Nat) : Ht (LB n) (share R) := by
  refine (share_ht h.pts).mono (Nat.le_trans ?_ (lb_mono (Nat.zero_le n)))
  have : R.length * (4 * nV + 2) ≤ most * (4 * nV + 2) := Nat.mul_le_mul_right _ hl
  have : most * (4 * nV + 2) + 3 ≤ LB 0 := by decide
  omega
theorem left_ht : ∀ (ps : List (List Pt)) (R : List Pt), Good R → Bd nV nL R → (∀ p ∈ ps, Fine p) → R.length + 96 * ps.length ≤ most → Ht (LB ps.length) (leftOf R ps)
  | [], R, _, hb, _, hl => share_lb hb (by omega) 0
  | q :: qs, R, hg, hb, hf, hl => by
    simp only [leftOf]
    rw [List.length_cons] at hl
    split
    · exact share_lb hb (by omega) _
    · have hq := hf q (by simp)
      have h1 := left_ht qs R hg hb (fun p hp => hf p (List.mem_cons_of_mem _ hp)) (by omega)
      have h2 := left_ht qs (both R q) (hg.both q) (Bd.both (by decide) hg.cc hb hq.bd.lns) (fun p hp => hf p (List.mem_cons_of_mem _ hp)) (both_fits hg.vd hq.len hl)
      exact ht_sub h1 h2
theorem parts_lay : ∀ (ps : List (List Pt)), PyData.canLayAll0 (ps.map dPart) = true ∧ PyData.depthAll (ps.map dPart) ≤ 3
  | [] => ⟨rfl, by decide⟩
  | p :: ps => by
    obtain ⟨a, b⟩ := parts_lay ps
    obtain ⟨c, d⟩ := part_lay p
    constructor
    · show (PyData.canLay0 (dPart p) && PyData.canLayAll0 (ps.map dPart)) = true
      rw [a]
      show (PyData.canLayAll0 (p.map dP) && true) = true
      rw [c]; rfl
    · show max (PyData.depth (dPart p)) (PyData.depthAll (ps.map dPart)) ≤ 3
      have h2 : PyData.depth (dPart p) = PyData.depthAll (p.map dP) + 1 := rfl
      omega
theorem shaped_parts (ps : List (List Pt)) : SeqAt.shaped (.list (ps.map dPart)) = true := by
  obtain ⟨a, b⟩ := parts_lay ps
  unfold SeqAt.shaped
  have h1 : PyData.canLay0 (.list (ps.map dPart)) = true := a
  have h2 : PyData.depth (.list (ps.map dPart)) = PyData.depthAll (ps.map dPart) + 1 := rfl
  rw [h1, h2]
  simp
  omega
theorem eqv_nils {α : Type} (f : α → PyData) (ps : List α) : PyData.eqv (.list (ps.map f)) (.list []) = ps.isEmpty := by
  cases ps with
  | nil => rfl
  | cons p ps => simp [PyData.eqv, PyData.eqvAll]
abbrev spLeft (K : PySem.W.Frag) (n : Nat) : Sp := fun vs H Q _ => ∃ (v1 v2 : V) (R : List Pt) (ps : List (List Pt)), vs = [v1, v2] ∧ Dp K H v1 (dPart R) ∧ Dp K H v2 (.list (ps.map dPart)) ∧ Good R ∧ Bd nV nL R ∧ (∀ p ∈ ps, Fine p) ∧
  ps.length ≤ n ∧ n ≤ 3 ∧ R.length + 96 * ps.length ≤ most ∧ Gives K H Q (dR (leftOf R ps))
section
variable {P : Program} {w : World} {K : PySem.W.Frag} {mg : Str → Option Value} {base : Heap}
theorem ok_left (D : Df K mg "left_of" (topS 45) ["part", "parts"]) (hS : Has P w K mg base 43 "share_of" (spShare K)) (hL : Has P w K mg base 42 "ratio_less" (spRat2 K (fun _ _ => True) (fun x y => x - y))) (hB : Has P w K mg base 45 "both_of" (spBoth K)) :
    ∀ n : Nat, Has P w K mg base (46 + n) "left_of" (spLeft K n) := by
  have S : FnScope ["part", "parts"] ["part", "parts"] (defScope (topS 45)) := ⟨rfl, rfl, rfl, by decide +kernel, rfl, by decide +kernel, by decide +kernel⟩
  intro n
  induction n with
  | zero =>
    refine has0 (k := 45) D S (by rintro _ _ _ _ ⟨_, _, _, _, rfl, _⟩; rfl) (fun f cdv A outer s H vs Q E hr h => ?_)
    obtain ⟨v1, v2, R, ps, rfl, d1, d2, hg, hb, hf, hn, _, hl, q⟩ := h
    have e0 : ps = [] := List.eq_nil_of_length_eq_zero (by omega)
    subst e0
    refine ⟨_, pss_cons (ps_if (PW.pt (pw_or (pt_cmpR (op_eqD hr.units) (pv 1) (pe_lst pa_nil) (nomark _)) (pw_or1 (pt_cmpR (op_eqD hr.units) (pv 0) (pe_lst pa_nil) (nomark _)))))
      (pss_one (ps_ret (pe_h hS hr (by decide) (by rfl) (pa_cons (pv 0) pa_nil)))) pss_nil) pss_never, ?_⟩
    refine ⟨_, rfl, Nat.zero_le _, fun p1 hp1 => ?_⟩
    have m1 := same_new hp1 (.lst [])
    refine ⟨_, _, dp_same m1 _ _ d2, nil_dp upd_same, shaped_parts [], by decide +kernel, _, rfl, ?_⟩
    rw [eqv_nils]
    refine iteT ?_
    refine iteT ?_
    exact ⟨_, rfl, _, R, rfl, dp_same m1 _ _ d1, hb.pts, by omega, fun v' H' m' e' => q v' H' (m1.trans m') e'⟩
  | succ n ih =>
    refine has0 (k := 46 + n) D S (by rintro _ _ _ _ ⟨_, _, _, _, rfl, _⟩; rfl) (fun f cdv A outer s H vs Q E hr h => ?_)
    obtain ⟨v1, v2, R, ps, rfl, d1, d2, hg, hb, hf, hn, hn3, hl, q⟩ := h
    obtain ⟨a, xs, rfl, sa, da⟩ := dp_lst d2
    refine ⟨_, pss_cons (ps_if (PW.pt (pw_or (pt_cmpR (op_eqD hr.units) (pv 1) (pe_lst pa_nil) (nomark _)) (pw_or1 (pt_cmpR (op_eqD hr.units) (pv 0) (pe_lst pa_nil) (nomark _)))))
      (pss_one (ps_ret (pe_h hS hr (by omega) (by rfl) (pa_cons (pv 0) pa_nil)))) pss_nil)
      (pss_one (ps_ret (pe_h hL hr (by omega) (by rfl) (pa_cons (pe_h ih hr (Nat.le_refl _) (by rfl) (pa_cons (pv 0) (pa_cons (pe_slice sl_list (pv 1) (po_some pe_int) po_none) pa_nil))) (pa_cons
        (pe_h ih hr (Nat.le_refl _) (by rfl) (pa_cons (pe_h hB hr (by omega) (by rfl) (pa_cons (pv 0) (pa_cons (pe_ix ix_list (pv 1) pe_int (fun _ _ => rfl)) pa_nil))) (pa_cons (pe_slice sl_list (pv 1) (po_some pe_int) po_none) pa_nil))) pa_nil))))), ?_⟩
    refine ⟨_, rfl, Nat.zero_le _, fun p1 hp1 => ?_⟩
    have m1 := same_new hp1 (.lst [])
    refine ⟨_, _, dp_same m1 _ _ d2, nil_dp upd_same, shaped_parts _, by decide +kernel, _, rfl, ?_⟩
    rw [eqv_nils]
    cases ps with
    | nil =>
      refine iteT ?_
      refine iteT ?_
      exact ⟨_, rfl, _, R, rfl, dp_same m1 _ _ d1, hb.pts, by omega, fun v' H' m' e' => q v' H' (m1.trans m') e'⟩
    | cons p ps =>
      refine iteF ?_
      refine ⟨_, rfl, Nat.zero_le _, fun p2 hp2 => ?_⟩
      have m2 := m1.trans (same_new hp2 (.lst []))
      refine ⟨_, _, dp_same m2 _ _ d1, nil_dp upd_same, shaped_part R, by decide +kernel, _, rfl, ?_⟩
      rw [eqv_nil]
      generalize (upd (upd H p1 (.lst [])) p2 (.lst [])) = H2 at *
      simp only [leftOf] at q
      by_cases c : R = []
      · rw [decide_eq_true c]
        rw [if_pos c] at q
        refine iteT ?_
        exact ⟨_, rfl, _, R, rfl, dp_same m2 _ _ d1, hb.pts, by omega, fun v' H' m' e' => q v' H' (m2.trans m') e'⟩
      rw [decide_eq_false c]
      rw [if_neg c] at q
      refine iteF ?_
      rw [List.length_cons] at hn hl
      have hp := hf p (by simp)
      have hf' : ∀ z ∈ ps, Fine z := fun z hz => hf z (List.mem_cons_of_mem _ hz)
      have hxl : 1 ≤ xs.length := by rw [map_len da, List.length_cons]; omega
      have lh1 := left_ht ps R hg hb hf' (by omega)
      have hbb := Bd.both (by decide) hg.cc hb hp.bd.lns
      have lh2 := left_ht ps (both R p) (hg.both p) hbb hf' (both_fits hg.vd hp.len hl)
      have hlb : LB ps.length ≤ 60000000 := Nat.le_trans (lb_mono (show ps.length ≤ 2 by omega)) (by decide)
      have dtail : ∀ {H'}, Same H H' → DpAll K H' (cutV xs (some 1) none) (ps.map dPart) := fun {H'} m => by
        have e := cut_from (α := V) (xs := xs) (k := 1) hxl
        have e' : cutV xs (some 1) none = xs.drop 1 := e
        rw [e']
        exact dpAll_same m _ _ (dpAll_drop 1 da)
      refine ⟨_, rfl, _, rfl, _, rfl, a, xs, rfl, m2.seq sa, fun p3 hp3 => ?_⟩
      have m3 := m2.trans (same_new hp3 (.lst (cutV xs (some 1) none)))
      refine ⟨_, _, R, ps, rfl, dp_same m3 _ _ d1, .lst (SqL.of upd_same) (dtail m3), hg, hb, hf', by omega, by omega, by omega, fun u4 H4 k4 e4 => ?_⟩
      have m4 := m3.trans k4
      obtain ⟨x0, g0, dx0⟩ := map_get da (i := 0) (by simp)
      refine ⟨_, rfl, _, rfl, a, xs, _, _, rfl, rfl, m4.seq sa, atI_nat (j := 0) g0, ?_⟩
      refine ⟨_, _, R, p, rfl, dp_same m4 _ _ d1, dp_same m4 _ _ dx0, hg.cc, hg.vd, hb, hp.bd.pts, hp.bd.lns, (by have := hp.len; omega), fun p5 H5 g5 => ?_⟩
      have m5 := m4.trans g5.same
      refine ⟨_, rfl, _, rfl, a, xs, rfl, m5.seq sa, fun p6 hp6 => ?_⟩
      have k6 := same_new hp6 (.lst (cutV xs (some 1) none))
      have m6 := m5.trans k6
      refine ⟨_, _, both R p, ps, rfl, dp_same k6 _ _ g5.dp, .lst (SqL.of upd_same) (dtail m6), hg.both p, hbb, hf', by omega, by omega, both_fits hg.vd hp.len hl, fun u7 H7 k7 e7 => ?_⟩
      refine ⟨_, _, _, _, rfl, dp_same (g5.same.trans (k6.trans k7)) _ _ e4, e7, sz_le lh1 hlb, sz_le lh2 hlb, trivial, fun u8 H8 k8 e8 => ?_⟩
      exact q u8 H8 (m6.trans (k7.trans k8)) e8
end
end Yd

set_option Elab.async false
set_option linter.all false
set_option maxRecDepth 100000
set_option maxHeartbeats 4000000
namespace Yd
open PySem PySem.Spec PyProof.Rows L2 Dial
/-! ### lit_share -/
abbrev nmA : Str := "a"
abbrev dWall (e : Str × Pl) : PyData := .tuple [.str e.1, dPl e.2]
abbrev dDial (e : Str × Pl × T3) : PyData := .tuple [.str e.1, dPl e.2.1, dT e.2.2]
def Own (K : PySem.W.Frag) (H : Hp) (v : V) (ds : List PyData) : Prop := ∃ a xs, v = .ref a ∧ H a = some (.lst xs) ∧ DpAll K H xs ds
theorem Own.same {K : PySem.W.Frag} {H H' : Hp} {v : V} {ds : List PyData} (h : Own K H v ds) (m : Same H H') : Own K H' v ds := by
  obtain ⟨a, xs, e, h1, h2⟩ := h
  exact ⟨a, xs, e, m _ _ h1, dpAll_same m _ _ h2⟩
theorem Own.dp {K : PySem.W.Frag} {H : Hp} {v : V} {ds : List PyData} (h : Own K H v ds) : Dp K H v (.list ds) := by
  obtain ⟨a, xs, rfl, h1, h2⟩ := h
  exact .lst (SqL.of h1) h2
def litW (a : Pl) (d : T3) (bs : List Pl) : Rat := if d.2.2 ≤ 0 ∨ tInner (front a) d ≤ 0 then 0 else litOf (bs.map (shade a d))
theorem filter_step {α : Type} (p : α → Bool) {l : List α} {k : Nat} {e : α} (h : l[k]? = some e) : (l.take (k + 1)).filter p = (l.take k).filter p ++ (if p e = true then [e] else []) := by
  rw [List.take_add_one, h, List.filter_append]
  congr 1
  show List.filter p [e] = _
  cases c : p e <;> simp [c]
/-- a new list within a growing one -/
theorem Grown.give {K : PySem.W.Frag} {B H H' : Hp} {D p : Addr} {ds es : List PyData} (g : Grown K B D ds H) (k : Grown K H p es H') (e : lfAll es = true) : Dp K (hide D H') (.ref p) (.list es) := by
  obtain ⟨acc, h1, _⟩ := g.ex
  obtain ⟨zs, h2, h3⟩ := k.ex
  have np : p ≠ D := fun z => by subst z; rw [k.free] at h1; cases h1
  refine .lst (xs := zs) (SqL.of ?_) ?_
  · rw [hide_ne np]; exact h2
  · exact dpAll_hide (k.same _ _ h1) _ _ e (dpAll_same (hide_sub p H') _ _ h3)
theorem lf_part : ∀ (R : List Pt), lfAll (R.map dP) = true
  | [] => rfl
  | p :: R => by
    show (lf (dP p) && lfAll (R.map dP)) = true
    rw [lf_part R]; rfl
abbrev spLit (K : PySem.W.Frag) : Sp := fun vs H Q _ => ∃ (y : Addr) (vS vW vD : V) (sun : List (Int × T3)) (h : Int) (e : Int × T3) (ws : List (Str × Pl)) (face : Pl) (tip : T3) (ds : List (Str × Pl × T3)),
  vs = [.ref y, .int h, .str nmA] ∧ SqT K H y [vS, vW, vD] ∧ Dp K H vS (.list (sun.map dE)) ∧ sun.find? (fun e => decide (e.1 = h)) = some e ∧ Own K H vW (ws.map dWall) ∧ Own K H vD (((nmA, face, tip) :: ds).map dDial) ∧
  (∀ e ∈ ws, e.1 ≠ nmA ∧ PB 10 e.2) ∧ (∀ e ∈ ds, e.1 ≠ nmA ∧ PB 10 e.2.1) ∧ PB 10 face ∧ TB 7 e.2 ∧ ws.length + ds.length ≤ 3 ∧ Gives K H Q (dR (litW face e.2 (ws.map (·.2) ++ ds.map (·.2.1))))
theorem shaped_dial (p : Pl) (t : T3) : SeqAt.shaped (.list [dDial (nmA, p, t)]) = true := by
  unfold SeqAt.shaped
  have h : PyData.strOk nmA = true := by decide +kernel
  simp [PyData.canLay0, PyData.canLayAll0, PyData.depth, PyData.depthAll, h]
/-- walls and dials in one row -/
abbrev Row := PyData × Str × Pl
def rowW (e : Str × Pl) : Row := (dWall e, e.1, e.2)
def rowD (e : Str × Pl × T3) : Row := (dDial e, e.1, e.2.1)
def IsRow (c : Row) : Prop := ∃ rest, c.1 = .tuple (.str c.2.1 :: dPl c.2.2 :: rest)
theorem row_filterW : ∀ {ws : List (Str × Pl)}, (∀ e ∈ ws, e.1 ≠ nmA ∧ PB 10 e.2) → (ws.map rowW).filter (fun c => !decide (V.str c.2.1 = V.str nmA)) = ws.map rowW := fun {ws} h => by
  rw [List.filter_eq_self]
  intro c hc
  obtain ⟨e, he, rfl⟩ := List.mem_map.mp hc
  have := (h e he).1
  rw [Bool.not_eq_true', decide_eq_false_iff_not]
  exact fun z => this (V.str.inj z)
theorem row_filterD : ∀ {ds : List (Str × Pl × T3)}, (∀ e ∈ ds, e.1 ≠ nmA ∧ PB 10 e.2.1) → (ds.map rowD).filter (fun c => !decide (V.str c.2.1 = V.str nmA)) = ds.map rowD := fun {ds} h => by
  rw [List.filter_eq_self]
  intro c hc
  obtain ⟨e, he, rfl⟩ := List.mem_map.mp hc
  have := (h e he).1
  rw [Bool.not_eq_true', decide_eq_false_iff_not]
  exact fun z => this (V.str.inj z)
theorem dial_filter {face : Pl} {tip : T3} {ds : List (Str × Pl × T3)} (h : ∀ e ∈ ds, e.1 ≠ nmA ∧ PB 10 e.2.1) : ((nmA, face, tip) :: ds).filter (fun e => decide (V.str e.1 = V.str nmA)) = [(nmA, face, tip)] := by
  rw [List.filter_cons, if_pos (decide_eq_true rfl)]
  congr 1
  rw [List.filter_eq_nil_iff]
  intro e he z
  exact (h e he).1 (V.str.inj (of_decide_eq_true z))
section
variable {P : Program} {w : World} {K : PySem.W.Frag} {mg : Str → Option Value} {base : Heap}
theorem ok_lit (D : Df K mg "lit_share" (topS 46) ["yard", "hour", "name"]) (ml : mg "len" = none) (mL : mg "list" = none) {aW : Addr} (mW : mg "WHOLE" = some (.ref aW)) (dW : ∀ H, Dp K H (.ref aW) (dPart whole)) {tM : Tok} (mM : mg "MOST" = some (.int 6 tM))
    (hA : Has P w K mg base 1 "direction_at" (spDirAt K)) (hU : Has P w K mg base 2 "is_up" (spIsUp K)) (hF : Has P w K mg base 3 "comes_from_ahead" (spAhead K)) (hS : Has P w K mg base 46 "shaded_by" (spShaded K)) (hL : Has P w K mg base 49 "left_of" (spLeft K 3)) : Has P w K mg base 50 "lit_share" (spLit K) := by
  have S : FnScope ["yard", "hour", "name", "sun", "walls", "dials", "direction", "plates", "plate", "others", "parts", "one", "part"] ["yard", "hour", "name"] (defScope (topS 46)) := ⟨rfl, rfl, rfl, by decide +kernel, rfl, by decide +kernel, by decide +kernel⟩
  refine has0 D S (by rintro _ _ _ _ ⟨_, _, _, _, _, _, _, _, _, _, _, rfl, _⟩; rfl) (fun f cdv A outer s H vs Q E hr h => ?_)
  obtain ⟨y, vS, vW, vD, sun, h, e, ws, face, tip, ds, rfl, sy, dS, he, oW, oD, hw, hd, pf, te, hlen, q⟩ := h
  refine ⟨_, pss_cons (ps_asg (pv 0) (pg_tup rfl (pgs_cons (pg_name (i := 3) S.nd rfl (.inl rfl)) (pgs_cons (pg_name (i := 4) S.nd rfl (.inl rfl)) (pgs_cons (pg_name (i := 5) S.nd rfl (.inl rfl)) pgs_nil)))))
    (pss_cons (ps_set (i := 6) S.nd rfl (.inr rfl) (pe_h hA hr (by decide) (by rfl) (pa_cons (pv 3) (pa_cons (pv 1) pa_nil))))
    (pss_cons (ps_setLc (i := 7) (own := [("one", 11)]) (g := gName 11) rfl S.nd rfl rfl (sw_true rfl rfl rfl (by decide +kernel)) (pi_list (pv 5))
      (blkOk_by (own := [("one", 11)]) (N := ["yard", "hour", "name", "sun", "walls", "dials", "direction", "plates", "plate", "others", "parts", "one", "part"]) (sc := defScope (topS 46)) (by decide +kernel))
      (fun _ _ _ _ _ => by exact pg_name (i := 11) S.nd rfl (.inl rfl))
      (fun _ _ _ _ _ => by exact pts_one (pt_cmpR op_eq (pe_ix (ixt (K := K) rfl) (pv 11) pe_int (fun _ _ => rfl)) (pv 2) (nomark _)))
      (fun _ _ _ _ _ => by exact pv 11))
    (pss_cons (ps_if (pt_cmpR (op_eqD hr.units) (pv 7) (pe_lst pa_nil) (nomark _)) pss_never pss_nil)
    (pss_cons (ps_set (i := 8) S.nd rfl (.inr rfl) (pe_ix ix_tup (pe_ix ix_list (pv 7) pe_int (fun _ _ => rfl)) pe_int (fun _ _ => rfl)))
    (pss_cons (ps_if (PW.pt (pw_or (pt_not (pt_val (pe_h hU hr (by decide) (by rfl) (pa_cons (pv 3) (pa_cons (pv 1) pa_nil))))) (pw_or1 (pt_not (pt_val (pe_h hF hr (by decide) (by rfl) (pa_cons (pv 8) (pa_cons (pv 6) pa_nil))))))))
      (pss_one (ps_ret (pe_tup (pa_cons pe_int (pa_cons pe_int pa_nil))))) pss_nil)
    (pss_cons (ps_setLc (i := 9) (own := [("one", 11)]) (g := gName 11) rfl S.nd rfl rfl (sw_true rfl rfl rfl (by decide +kernel)) (pi_list (pe_op op_cat (pv 4) (pv 5)))
      (blkOk_by (own := [("one", 11)]) (N := ["yard", "hour", "name", "sun", "walls", "dials", "direction", "plates", "plate", "others", "parts", "one", "part"]) (sc := defScope (topS 46)) (by decide +kernel))
      (fun _ _ _ _ _ => by exact pg_name (i := 11) S.nd rfl (.inl rfl))
      (fun _ _ _ _ _ => by exact pts_one (pt_cmpR op_ne (pe_ix (ixt (K := K) rfl) (pv 11) pe_int (fun _ _ => rfl)) (pv 2) (nomark _)))
      (fun _ _ _ _ _ => by exact pe_ix (ixt (K := K) rfl) (pv 11) pe_int (fun _ _ => rfl)))
    (pss_cons (ps_setLc (i := 10) (own := [("part", 12)]) (g := gName 12) rfl S.nd rfl rfl (sw_true rfl rfl rfl (by decide +kernel))
      (pi_list (pe_lc (own := [("one", 11)]) (g := gName 11) (tt := tYes) rfl S.nd (pi_list (pv 9))
        (blkOk_by (own := [("one", 11)]) (N := ["yard", "hour", "name", "sun", "walls", "dials", "direction", "plates", "plate", "others", "parts", "one", "part"]) (sc := defScope (topS 46)) (by decide +kernel))
        (fun _ _ _ _ _ => by exact pg_name (i := 11) S.nd rfl (.inl rfl)) (fun _ _ _ _ _ => pts_nil)
        (fun _ _ _ _ _ => by exact pe_h hS hr (by decide) (by rfl) (pa_cons (pv 8) (pa_cons (pv 11) (pa_cons (pv 6) pa_nil))))))
      (blkOk_by (own := [("part", 12)]) (N := ["yard", "hour", "name", "sun", "walls", "dials", "direction", "plates", "plate", "others", "parts", "one", "part"]) (sc := defScope (topS 46)) (by decide +kernel))
      (fun _ _ _ _ _ => by exact pg_name (i := 12) S.nd rfl (.inl rfl))
      (fun _ _ _ _ _ => by exact pts_one (pt_cmpR (neD (K := K) rfl hr.units) (pv 12) (pe_lst pa_nil) (nomark _)))
      (fun _ _ _ _ _ => by exact pv 12))
    (pss_cons (ps_if (pt_cmpR op_gt (pe_callB call_len_seq (by rfl) ml PySem.boot_len (pa_cons (pv 10) pa_nil)) (pe_glob (v := .int 6) (by rfl) mM ⟨_, rfl⟩) (nomark _)) pss_never pss_nil)
    (pss_one (ps_ret (pe_h hL hr (by decide) (by rfl) (pa_cons (pe_callTy call_list_of (by rfl) mL (by decide +kernel) (pa_cons (pe_glob (v := .ref aW) (by rfl) mW rfl) pa_nil)) (pa_cons (pv 10) pa_nil))))))))))))), ?_⟩
  refine ⟨_, rfl, y, _, rfl, sy, rfl, _, _, rfl, _, _, rfl, _, _, rfl, rfl, ?_⟩
  refine ⟨_, rfl, _, rfl, _, sun, h, e, rfl, dS, he, fun ud dud => ?_⟩
  obtain ⟨aD, xD, rfl, hD0, dD⟩ := oD
  obtain ⟨aW0, xW, rfl, hW0, dWs⟩ := oW
  have hxD : xD.length = ds.length + 1 := by rw [map_len dD]; rfl
  -- the dials of this name
  refine ⟨_, rfl, aD, rfl, ⟨xD, SqL.of hD0⟩, fun D1 hD1 => ?_⟩
  refine lc_list (K := K) (a := aD) (xs := xD) (fun i H' => Grown K H D1 (((((nmA, face, tip) :: ds).take i).filter (fun e => decide (V.str e.1 = V.str nmA))).map dDial) H') (Grown.start hD1) (fun i H' _ g => g.same.seq (SqL.of hD0)) (fun i x H' gx g => ?_) (fun H1 g1 => ?_)
  · have hi : i < ((nmA, face, tip) :: ds).length := by rw [← map_len dD]; exact (List.getElem?_eq_some_iff.mp gx).1
    obtain ⟨x', gx', dx⟩ := map_get dD hi
    have ex : x = x' := Option.some.inj (gx.symm.trans gx')
    subst ex
    have hle : (((((nmA, face, tip) :: ds).take i).filter (fun e => decide (V.str e.1 = V.str nmA)))).length ≤ 1000 := by
      refine Nat.le_trans (List.length_filter_le ..) ?_
      rw [List.length_take]; rw [List.length_cons] at hi; omega
    rw [filter_step _ (List.getElem?_eq_getElem hi)]
    generalize (((nmA, face, tip) :: ds).take i).filter (fun e => decide (V.str e.1 = V.str nmA)) = F at *
    obtain ⟨b, ys, rfl, sb, db⟩ := dp_tup dx
    obtain ⟨z1, z2, z3, rfl, h1, h2, h3⟩ := all3 db
    have k1 : z1 = .str (((nmA, face, tip) :: ds)[i]).1 := by cases h1; rfl
    subst k1
    refine ⟨rfl, _, rfl, b, _, 0, _, rfl, rfl, Same.tup g.same sb, atI_nat (j := 0) rfl, _, rfl, rfl, _, rfl, ?_⟩
    generalize ((nmA, face, tip) :: ds)[i] = c at *
    by_cases k : V.str c.1 = V.str nmA
    · rw [decide_eq_true k]
      refine iteT ?_
      obtain ⟨acc, k1, k2, k3⟩ := g.more (g.old dx)
      refine ⟨_, rfl, acc, k1, ?_, ?_⟩
      · rw [k2, List.length_map]; exact line_small (by omega)
      · rw [if_pos rfl, List.map_append]; exact k3
    · rw [decide_eq_false k]
      refine iteF ?_
      rw [if_neg (by decide), List.append_nil]
      exact g
  rw [hxD, List.take_of_length_le (show ((nmA, face, tip) :: ds).length ≤ ds.length + 1 from Nat.le_refl _), dial_filter hd] at g1
  obtain ⟨D1', ps, eD1, sp, dp⟩ := dp_lst g1.dp
  cases eD1
  obtain ⟨x0, rfl, dx0⟩ := all1 dp
  obtain ⟨b0, ys, rfl, sb0, db0⟩ := dp_tup dx0
  obtain ⟨z1, z2, z3, rfl, _, dpl, _⟩ := all3 db0
  refine ⟨_, rfl, Nat.zero_le _, fun p1 hp1 => ?_⟩
  have k1 := same_new hp1 (.lst [])
  have m1 := g1.same.trans k1
  refine ⟨_, _, dp_same k1 _ _ g1.dp, nil_dp upd_same, shaped_dial _ _, by decide +kernel, _, rfl, ?_⟩
  have e1 : PyData.eqv (.list ([(nmA, face, tip)].map dDial)) (.list []) = false := eqv_nils dDial [(nmA, face, tip)]
  rw [e1]
  refine iteF ?_
  generalize upd H1 p1 (.lst []) = H2 at *
  refine ⟨_, rfl, D1, _, 0, _, rfl, rfl, k1.seq sp, atI_nat (j := 0) rfl, b0, _, 1, _, rfl, rfl, Same.tup k1 sb0, atI_nat (j := 1) rfl, ?_⟩
  have dpl2 := dp_same k1 _ _ dpl
  refine ⟨_, rfl, _, rfl, _, sun, h, e, rfl, dp_same m1 _ _ dS, he, ?_⟩
  have eL : litW face e.2 (ws.map (·.2) ++ ds.map (·.2.1)) = if e.2.2.2 ≤ 0 ∨ tInner (front face) e.2 ≤ 0 then 0 else litOf ((ws.map (·.2) ++ ds.map (·.2.1)).map (shade face e.2)) := rfl
  rw [eL] at q
  refine ⟨_, rfl, ?_⟩
  by_cases c1 : e.2.2.2 ≤ 0
  · rw [decide_eq_false (show ¬ 0 < e.2.2.2 by omega)]
    rw [if_pos (.inl (by omega))] at q
    refine iteT ?_
    refine iteT ?_
    exact ⟨(by show 2 ≤ sizeLine; decide), fun r hr2 => q _ _ (m1.trans (same_new hr2 _)) (int_dp (n := 0) (SqT.of upd_same))⟩
  rw [decide_eq_true (show 0 < e.2.2.2 by omega)]
  refine iteF ?_
  refine ⟨_, rfl, _, rfl, _, _, face, e.2, rfl, dpl2, dp_same m1 _ _ dud, pf.mono (by decide), te.mono (by decide), fun H3 k3 => ?_⟩
  have m3 := m1.trans k3
  have dpl3 := dp_same k3 _ _ dpl2
  refine ⟨_, rfl, ?_⟩
  by_cases c2 : tInner (front face) e.2 ≤ 0
  · rw [decide_eq_false (show ¬ 0 < tInner (front face) e.2 by omega)]
    rw [if_pos (.inr (by omega))] at q
    refine iteT ?_
    exact ⟨(by show 2 ≤ sizeLine; decide), fun r hr2 => q _ _ (m3.trans (same_new hr2 _)) (int_dp (n := 0) (SqT.of upd_same))⟩
  rw [decide_eq_true (show 0 < tInner (front face) e.2 by omega)]
  refine iteF ?_
  rw [if_neg (by omega)] at q
  have hn : tInner (front face) e.2 ≠ 0 := by omega
  clear eL
  -- the others
  have hxW : xW.length = ws.length := map_len dWs
  refine ⟨_, rfl, _, rfl, aW0, aD, xW, xD, rfl, rfl, m3 _ _ hW0, m3 _ _ hD0, by rw [hxW, hxD, sizeLine_eq]; omega, fun p4 hp4 => ?_⟩
  have k4 := same_new hp4 (.lst (xW ++ xD))
  have m4 := m3.trans k4
  have s4 : SqL K (upd H3 p4 (.lst (xW ++ xD))) p4 (xW ++ xD) := SqL.of upd_same
  have rowsOk : ∀ c ∈ ws.map rowW ++ ((nmA, face, tip) :: ds).map rowD, IsRow c := fun c hc => by
    rcases List.mem_append.mp hc with z | z
    · obtain ⟨t, _, rfl⟩ := List.mem_map.mp z; exact ⟨_, rfl⟩
    · obtain ⟨t, _, rfl⟩ := List.mem_map.mp z; exact ⟨_, rfl⟩
  have d4 : DpAll K (upd H3 p4 (.lst (xW ++ xD))) (xW ++ xD) ((ws.map rowW ++ ((nmA, face, tip) :: ds).map rowD).map (·.1)) := by
    have e4 : (ws.map rowW ++ ((nmA, face, tip) :: ds).map rowD).map (·.1) = ws.map dWall ++ ((nmA, face, tip) :: ds).map dDial := by
      rw [List.map_append, List.map_map, List.map_map]; rfl
    rw [e4]
    exact dpAll_app (dpAll_same m4 _ _ dWs) (dpAll_same m4 _ _ dD)
  have fin : ((ws.map rowW ++ ((nmA, face, tip) :: ds).map rowD).filter (fun c => !decide (V.str c.2.1 = V.str nmA))).map (fun c => dPl c.2.2) = (ws.map (·.2) ++ ds.map (·.2.1)).map dPl := by
    rw [List.filter_append, row_filterW hw, List.map_cons, List.filter_cons, if_neg (by simp [rowD]), row_filterD hd, List.map_append, List.map_append, List.map_map, List.map_map, List.map_map, List.map_map]
    rfl
  have hrl : (ws.map rowW ++ ((nmA, face, tip) :: ds).map rowD).length ≤ 4 := by
    rw [List.length_append, List.length_map, List.length_map, List.length_cons]; omega
  generalize ws.map rowW ++ ((nmA, face, tip) :: ds).map rowD = rows at *
  generalize upd H3 p4 (.lst (xW ++ xD)) = H4 at *
  generalize xW ++ xD = xs at *
  have hxs : xs.length = rows.length := map_len d4
  refine ⟨p4, rfl, ⟨xs, s4⟩, fun D2 hD2 => ?_⟩
  refine lc_list (K := K) (a := p4) (xs := xs) (fun i H' => Grown K H4 D2 (((rows.take i).filter (fun c => !decide (V.str c.2.1 = V.str nmA))).map (fun c => dPl c.2.2)) H') (Grown.start hD2) (fun i H' _ g => g.same.seq s4) (fun i x H' gx g => ?_) (fun H5 g5 => ?_)
  · have hi : i < rows.length := by rw [← hxs]; exact (List.getElem?_eq_some_iff.mp gx).1
    obtain ⟨x', gx', dx⟩ := map_get d4 hi
    have ex : x = x' := Option.some.inj (gx.symm.trans gx')
    subst ex
    have hle : ((rows.take i).filter (fun c => !decide (V.str c.2.1 = V.str nmA))).length ≤ 1000 := by
      refine Nat.le_trans (List.length_filter_le ..) ?_
      rw [List.length_take]; omega
    rw [filter_step _ (List.getElem?_eq_getElem hi)]
    generalize (rows.take i).filter (fun c => !decide (V.str c.2.1 = V.str nmA)) = F at *
    obtain ⟨rest, er⟩ := rowsOk _ (List.getElem_mem hi)
    rw [er] at dx
    obtain ⟨b, ys, rfl, sb, db⟩ := dp_tup dx
    cases db with
    | cons h1 db2 =>
    cases db2 with
    | cons h2 db3 =>
    have k1 := h1
    cases k1
    refine ⟨rfl, _, rfl, b, _, 0, _, rfl, rfl, Same.tup g.same sb, atI_nat (j := 0) rfl, _, rfl, rfl, _, rfl, ?_⟩
    by_cases k : V.str (rows[i]).2.1 = V.str nmA
    · rw [decide_eq_true k]
      refine iteF ?_
      rw [if_neg (by decide), List.append_nil]
      exact g
    · rw [decide_eq_false k]
      refine iteT ?_
      obtain ⟨acc, k1, k2, k3⟩ := g.more (g.old h2)
      refine ⟨_, rfl, b, _, 1, _, rfl, rfl, Same.tup g.same sb, atI_nat (j := 1) rfl, acc, k1, ?_, ?_⟩
      · rw [k2, List.length_map]; exact line_small (by omega)
      · rw [if_pos (show (!false) = true from rfl), List.map_append]; exact k3
  rw [hxs, List.take_of_length_le (Nat.le_refl _), fin] at g5
  have hbs : ∀ b ∈ ws.map (·.2) ++ ds.map (·.2.1), PB 10 b := fun b hb => by
    rcases List.mem_append.mp hb with z | z
    · obtain ⟨t, ht, rfl⟩ := List.mem_map.mp z; exact (hw t ht).2
    · obtain ⟨t, ht, rfl⟩ := List.mem_map.mp z; exact (hd t ht).2
  have hbl : (ws.map (·.2) ++ ds.map (·.2.1)).length ≤ 3 := by rw [List.length_append, List.length_map, List.length_map]; exact hlen
  generalize ws.map (·.2) ++ ds.map (·.2.1) = bs at *
  have m5 := m4.trans g5.same
  have dpl5 := dp_same (k4.trans g5.same) _ _ dpl3
  have dud5 := dp_same m5 _ _ dud
  obtain ⟨D2', os, eD2, so, dos⟩ := dp_lst g5.dp
  cases eD2
  have hos : os.length = bs.length := map_len dos
  have hfine : ∀ p ∈ bs.map (shade face e.2), Fine p := fun p hp => by
    obtain ⟨b, hb, rfl⟩ := List.mem_map.mp hp
    exact shade_fine pf (hbs b hb) te hn
  -- what each shades
  refine ⟨_, rfl, D2, rfl, ⟨os, so⟩, fun D3 hD3 => ?_⟩
  refine lc_list (K := K) (a := D2) (xs := os) (fun i H' => Grown K H5 D3 (((bs.map (shade face e.2)).take i).map dPart) H') (Grown.start hD3) (fun i H' _ g => g.same.seq so) (fun i x H' gx g => ?_) (fun H6 g6 => ?_)
  · have hi : i < bs.length := by rw [← hos]; exact (List.getElem?_eq_some_iff.mp gx).1
    obtain ⟨x', gx', dx⟩ := map_get dos hi
    have ex : x = x' := Option.some.inj (gx.symm.trans gx')
    subst ex
    refine ⟨rfl, ?_⟩
    refine tyes_if ?_
    refine ⟨_, rfl, _, rfl, _, rfl, _, _, _, face, bs[i], e.2, rfl, dp_same g.same _ _ dpl5, dp_same g.same _ _ dx, dp_same g.same _ _ dud5, pf, hbs _ (List.getElem_mem hi), te, hn, fun p7 H7 g7 => ?_⟩
    have g8 := g.step g7.same
    obtain ⟨acc, k1, k2, k3⟩ := g8.more (g.give g7 (lf_part _))
    refine ⟨acc, k1, ?_, ?_⟩
    · rw [k2, List.length_map, List.length_take]; exact line_small (by omega)
    · have e7 : (bs.map (shade face e.2))[i]? = some (shade face e.2 bs[i]) := by rw [List.getElem?_map, List.getElem?_eq_getElem hi]; rfl
      rw [List.take_add_one, e7, List.map_append]
      exact k3
  rw [hos, List.take_of_length_le (by rw [List.length_map]; exact Nat.le_refl _)] at g6
  have hpl : (bs.map (shade face e.2)).length ≤ 3 := by rw [List.length_map]; exact hbl
  have eO : litOf (bs.map (shade face e.2)) = leftOf whole ((bs.map (shade face e.2)).filter fun q => decide (q ≠ [])) := rfl
  rw [eO] at q
  generalize bs.map (shade face e.2) = qs at *
  have m6 := m5.trans g6.same
  obtain ⟨D3', us, eD3, su, du⟩ := dp_lst g6.dp
  cases eD3
  have hus : us.length = qs.length := map_len du
  refine ⟨D3, rfl, ⟨us, su⟩, fun D4 hD4 => ?_⟩
  refine lc_list (K := K) (a := D3) (xs := us) (fun i H' => Grown K H6 D4 (((qs.take i).filter fun q => decide (q ≠ [])).map dPart) H') (Grown.start hD4) (fun i H' _ g => g.same.seq su) (fun i x H' gx g => ?_) (fun H7 g7 => ?_)
  · have hi : i < qs.length := by rw [← hus]; exact (List.getElem?_eq_some_iff.mp gx).1
    obtain ⟨x', gx', dx⟩ := map_get du hi
    have ex : x = x' := Option.some.inj (gx.symm.trans gx')
    subst ex
    have hle : ((qs.take i).filter fun q => decide (q ≠ [])).length ≤ 1000 := by
      refine Nat.le_trans (List.length_filter_le ..) ?_
      rw [List.length_take]; omega
    rw [filter_step _ (List.getElem?_eq_getElem hi)]
    generalize (qs.take i).filter (fun q => decide (q ≠ [])) = F at *
    refine ⟨rfl, _, rfl, Nat.zero_le _, fun p8 hp8 => ?_⟩
    have k8 := same_new hp8 (.lst [])
    refine ⟨_, _, dp_same (g.same.trans k8) _ _ dx, nil_dp upd_same, shaped_part _, by decide +kernel, _, rfl, ?_⟩
    rw [eqv_nil]
    have g8 := g.step k8
    by_cases k : qs[i] = []
    · rw [decide_eq_true k]
      refine iteF ?_
      rw [if_neg (by simp [k]), List.append_nil]
      exact g8
    · rw [decide_eq_false k]
      refine iteT ?_
      obtain ⟨acc, k1, k2, k3⟩ := g8.more (g8.old dx)
      refine ⟨_, rfl, acc, k1, ?_, ?_⟩
      · rw [k2, List.length_map]; exact line_small (by omega)
      · rw [if_pos (by simp [k]), List.map_append]; exact k3
  rw [hus, List.take_of_length_le (Nat.le_refl _)] at g7
  have hfl : (qs.filter fun q => decide (q ≠ [])).length ≤ 3 := Nat.le_trans (List.length_filter_le ..) hpl
  have hff : ∀ p ∈ qs.filter fun q => decide (q ≠ []), Fine p := fun p hp => hfine p (List.mem_filter.mp hp).1
  generalize qs.filter (fun q => decide (q ≠ [])) = fs at *
  have m7 := m6.trans g7.same
  obtain ⟨D4', gs, eD4, sg, dg⟩ := dp_lst g7.dp
  cases eD4
  have hgs : gs.length = fs.length := map_len dg
  refine ⟨_, rfl, D4, gs, rfl, .inl sg, _, _, rfl, rfl, _, rfl, ?_⟩
  rw [hgs]
  have e6 : decide ((6 : Int) < (fs.length : Int)) = false := decide_eq_false (by omega)
  rw [e6]
  refine iteF ?_
  obtain ⟨aW', wl, eW, sW, wW⟩ := dp_lst (dW H7)
  cases eW
  refine ⟨aW, wl, rfl, .inl sW, fun p9 hp9 => ?_⟩
  have k9 := same_new hp9 (.lst wl)
  refine ⟨_, rfl, _, _, whole, fs, rfl, .lst (SqL.of upd_same) (dpAll_same k9 _ _ wW), dp_same k9 _ _ g7.dp, whole_good, whole_bd, hff, hfl, Nat.le_refl _, ?_, fun u H9 k10 d10 => ?_⟩
  · have h3 : whole.length = 4 := rfl
    have h4 : most = 300 := rfl
    omega
  · exact q u H9 (m7.trans (k9.trans k10)) d10
end
end Yd

set_option Elab.async false
set_option linter.all false
set_option maxRecDepth 100000
set_option maxHeartbeats 4000000
namespace Yd
open PySem PySem.Spec PyProof.Rows L2 Dial
/-! ### the law's own helpers: what is drawn -/
/-- whole numbers not beyond n -/
def TL (n : Nat) (t : T3) : Prop := t.1.natAbs ≤ n ∧ t.2.1.natAbs ≤ n ∧ t.2.2.natAbs ≤ n
theorem TL.mono {n m : Nat} {t : T3} (h : TL n t) (e : n ≤ m) : TL m t := ⟨Nat.le_trans h.1 e, Nat.le_trans h.2.1 e, Nat.le_trans h.2.2 e⟩
theorem TL.tb {n k : Nat} {t : T3} (h : TL n t) (e : n < 2 ^ k) : TB k t := ⟨Nat.lt_of_le_of_lt h.1 e, Nat.lt_of_le_of_lt h.2.1 e, Nat.lt_of_le_of_lt h.2.2 e⟩
abbrev spCell1 (K : PySem.W.Frag) : Sp := fun vs H Q _ => ∃ (a : Addr) (ns : List Int) (k : Nat), vs = [.ref a, .int (k : Int)] ∧ SqL K H a (ns.map V.int) ∧ ∀ i : Int, Q (.int i) H
abbrev spDraw : Sp := fun vs H Q _ => ∃ (c k m : Int), vs = [.int c, .int k, .int m] ∧ 0 ≤ k ∧ k ≤ 1000 ∧ 0 < m ∧ ∀ r : Int, 0 ≤ r → r < m → Q (.int r) H
theorem mulNat {a b : Int} {n m : Nat} (h : a.natAbs < 2 ^ n) (k : b.natAbs < 2 ^ m) (e : n + m < 130000000 := by decide) : CMulG a b := mulG h k e
section
variable {P : Program} {w : World} {K : PySem.W.Frag} {mg : Str → Option Value} {base : Heap}
theorem ok_cellAt (D : Df K mg "_law_cell_at" (topS 48) ["_law_script", "_law_k"]) (ml : mg "len" = none) : Has P w K mg base 1 "_law_cell_at" (spCell1 K) := by
  have S : FnScope ["_law_script", "_law_k"] ["_law_script", "_law_k"] (defScope (topS 48)) := ⟨rfl, rfl, rfl, by decide +kernel, rfl, by decide +kernel, by decide +kernel⟩
  refine has0 D S (by rintro _ _ _ _ ⟨_, _, _, rfl, _⟩; rfl) (fun f cdv A outer s H vs Q E hr h => ?_)
  obtain ⟨a, ns, k, rfl, sa, q⟩ := h
  refine ⟨_, pss_cons (ps_if (pt_cmpR op_lt (pv 1) (pe_callB call_len_seq (by rfl) ml PySem.boot_len (pa_cons (pv 0) pa_nil)) (nomark _)) (pss_one (ps_ret (pe_ix ix_list (pv 0) (pv 1) (fun _ _ => rfl)))) pss_nil)
    (pss_one (ps_ret pe_int)), ?_⟩
  refine ⟨_, rfl, _, rfl, a, _, rfl, .inl sa, _, _, rfl, rfl, _, rfl, ?_⟩
  refine ite2 (fun c => ?_) (fun c => ?_)
  · have hk : k < ns.length := by
      have := of_decide_eq_true c
      rw [List.length_map] at this
      omega
    refine ⟨_, rfl, _, rfl, a, _, _, _, rfl, rfl, sa, atI_nat (j := k) (v := V.int ns[k]) (by rw [List.getElem?_map, List.getElem?_eq_getElem hk]; rfl), q _⟩
  · exact q 0
theorem mod_rng {x m : Int} (h : 0 < m) : 0 ≤ x % m ∧ x % m < m := ⟨Int.emod_nonneg _ (by omega), Int.emod_lt_of_pos _ h⟩
theorem ok_draw (D : Df K mg "_law_draw" (topS 49) ["_law_cell", "_law_k", "_law_many"]) (mr : mg "range" = none) : Has P w K mg base 1 "_law_draw" spDraw := by
  have S : FnScope ["_law_cell", "_law_k", "_law_many", "_law_left_here", "_law_j", "_law_number_here"] ["_law_cell", "_law_k", "_law_many"] (defScope (topS 49)) := ⟨rfl, rfl, rfl, by decide +kernel, rfl, by decide +kernel, by decide +kernel⟩
  refine has0 D S (by rintro _ _ _ _ ⟨_, _, _, rfl, _⟩; rfl) (fun f cdv A outer s H vs Q E hr h => ?_)
  obtain ⟨c, k, m, rfl, hk0, hk, hm, q⟩ := h
  refine ⟨_, Evl.pss_cut (ps_if (pt_cmpR op_ge (pv 0) (pe_op op_pow pe_int pe_int) (nomark _))
      (pss_cons (ps_set (i := 3) S.nd rfl (.inl rfl) (pv 0))
      (pss_cons (ps_for PassesOwn.never rfl (pi_range1 (by rfl) mr (pa_cons (pv 1) pa_nil)) (pg_name (i := 4) S.nd rfl (.inl rfl))
        (pss_one (ps_set (i := 3) S.nd rfl (.inl rfl) (pe_op op_fdivW (pv 3) (pe_op op_pow pe_int pe_int)))))
      (pss_one (ps_if (pt_cmpR op_gt (pv 3) pe_int (nomark _)) (pss_one (ps_ret (pe_op op_mod (pe_op op_mod (pv 3) (pe_op op_pow pe_int pe_int)) (pv 2)))) pss_nil)))) pss_nil)
    (pss_cons (ps_set (i := 5) S.nd rfl (.inl rfl) (pe_op op_mod (pe_op op_mulG (pe_op op_add (pe_op op_add (pe_op op_add (pe_op op_mod (pv 0) pe_int) (pe_op op_mulG (pe_op op_mulG pe_int (pv 1)) (pv 1))) (pe_op op_mulG pe_int (pv 1))) pe_int) pe_int) pe_int))
    (pss_cons (ps_set (i := 5) S.nd rfl (.inl rfl) (pe_op op_mod (pe_op op_add (pe_op op_add (pe_op op_mulG (pv 5) (pv 5)) (pe_op op_mulG pe_int (pv 1))) pe_int) pe_int))
    (pss_one (ps_ret (pe_op op_mod (pe_op op_mod (pe_op op_mulG (pv 5) (pv 5)) pe_int) (pv 2)))))), ?_⟩
  have kb : k.natAbs < 2 ^ 10 := by omega
  refine ⟨fun σ' H' => ∃ y3 y4, σ' = [some (.int c), some (.int k), some (.int m), y3, y4, none] ∧ H' = H, ?_, ?_⟩
  · refine ⟨_, rfl, _, _, rfl, rfl, ⟨by decide, by decide, by decide⟩, _, _, rfl, rfl, _, rfl, ?_⟩
    refine ite2 (fun _ => ?_) (fun _ => ⟨none, none, rfl, rfl⟩)
    refine ⟨_, rfl, ?_⟩
    refine ⟨_, rfl, k, rfl, by omega, by omega, ?_⟩
    refine for_range (lo := 0) (n := k.toNat) (fun i σ H' => ∃ (z : Int) (y4 : Option V), σ = [some (.int c), some (.int k), some (.int m), some (.int z), y4, none] ∧ H' = H) ⟨c, none, rfl, rfl⟩ (fun i σ H' hi hI => ?_) (fun σ H' hI => ?_)
    · obtain ⟨z, y4, rfl, rfl⟩ := hI
      exact ⟨_, rfl, _, _, rfl, rfl, ⟨by decide, by decide, by decide⟩, _, _, rfl, rfl, ⟨by decide, by decide⟩, _, _, rfl, rfl⟩
    · obtain ⟨z, y4, rfl, rfl⟩ := hI
      refine ⟨_, rfl, _, _, rfl, rfl, _, rfl, ?_⟩
      refine ite2 (fun _ => ?_) (fun _ => ⟨_, _, rfl, rfl⟩)
      refine ⟨_, rfl, _, _, rfl, rfl, ⟨by decide, by decide, by decide⟩, _, _, rfl, rfl, (show (0 : Int) < 10 ^ Int.toNat 10 by decide), _, rfl, _, _, rfl, rfl, hm, q _ (mod_rng hm).1 (mod_rng hm).2⟩
  · rintro σ' H' ⟨y3, y4, rfl, rfl⟩
    have r1 := mod_rng (x := c) (m := 2147483647) (by decide)
    have b1 : (c % 2147483647 + 7919 * k * k + 31 * k + 1).natAbs < 2 ^ 40 := by
      have h1 : (7919 * k * k).natAbs = 7919 * (k.natAbs * k.natAbs) := by rw [Int.natAbs_mul, Int.natAbs_mul, Nat.mul_assoc]; rfl
      have h2 : k.natAbs * k.natAbs ≤ 1000 * 1000 := Nat.mul_le_mul (by omega) (by omega)
      omega
    refine ⟨_, rfl, _, _, rfl, rfl, (show (0 : Int) < 2147483647 by decide), _, rfl, _, _, rfl, rfl, mulNat (n := 13) (m := 10) (by decide) kb, _, rfl, _, _, rfl, rfl, mulNat (n := 23) (m := 10) ?_ kb, _, _, rfl, rfl, _, rfl, _, _, rfl, rfl, mulNat (n := 5) (m := 10) (by decide) kb, _, _, rfl, rfl, _, _, rfl, rfl, _, _, rfl, rfl, mulNat (n := 40) (m := 16) b1 (by decide), _, _, rfl, rfl, (show (0 : Int) < 2147483647 by decide), ?_⟩
    · rw [Int.natAbs_mul]; exact Nat.mul_lt_mul'' (a := 7919) (c := 2 ^ 13) (b := k.natAbs) (d := 2 ^ 10) (by decide) kb
    have r2 := mod_rng (x := (c % 2147483647 + 7919 * k * k + 31 * k + 1) * 48271) (m := 2147483647) (by decide)
    have b2 : ((c % 2147483647 + 7919 * k * k + 31 * k + 1) * 48271 % 2147483647).natAbs < 2 ^ 31 := by
      generalize (c % 2147483647 + 7919 * k * k + 31 * k + 1) * 48271 % 2147483647 = x at *
      omega
    refine ⟨_, rfl, _, rfl, _, _, rfl, rfl, mulNat (n := 31) (m := 31) b2 b2, _, rfl, _, _, rfl, rfl, mulNat (n := 17) (m := 10) (by decide) kb, _, _, rfl, rfl, _, _, rfl, rfl, _, _, rfl, rfl, (show (0 : Int) < 2147483629 by decide), ?_⟩
    have b3 : ∀ z : Int, (z % 2147483629).natAbs < 2 ^ 31 := fun z => by
      have := mod_rng (x := z) (m := 2147483629) (by decide)
      omega
    exact ⟨_, rfl, _, rfl, _, _, rfl, rfl, mulNat (n := 31) (m := 31) (b3 _) (b3 _), _, _, rfl, rfl, (show (0 : Int) < 2147483587 by decide), _, rfl, _, _, rfl, rfl, hm, q _ (mod_rng hm).1 (mod_rng hm).2⟩
/-! fractions, once more -/
theorem ok_low (D : Df K mg "_law_low" (topS 50) ["_law_top", "_law_bottom"]) (ma : mg "abs" = none) (hN : base.NoSeer) (hT : P.given.tree = none) :
    Has P w K mg base 41 "_law_low" (fun vs H Q _ => ∃ a b : Int, vs = [.int a, .int b] ∧ 0 < b ∧ Gives K H Q (dR (Rat.divInt a b))) := by
  have S : FnScope ["_law_top", "_law_bottom", "_law_one", "_law_other"] ["_law_top", "_law_bottom"] (defScope (topS 50)) := ⟨rfl, rfl, rfl, by decide +kernel, rfl, by decide +kernel, by decide +kernel⟩
  refine has0 D S (by rintro _ _ _ _ ⟨_, _, rfl, _⟩; rfl) (fun f cdv A outer s H vs Q E hr h => ?_)
  obtain ⟨a, b, rfl, hb, q⟩ := h
  have R : Roomy (cxOf CX0 P w K mg base ["_law_top", "_law_bottom", "_law_one", "_law_other"] "_law_low" (defScope (topS 50)) f cdv A outer s H E).nox :=
    ⟨hN, hT, by have := hr.dp; show (A.deeper _).depth + 100 < recursionLimit; omega, ⟨_, rfl⟩, rfl, rfl⟩
  refine ⟨_, pss_cons (ps_set (i := 2) S.nd rfl (.inl rfl) (pe_callB call_abs (by rfl) ma (by decide +kernel) (pa_cons (pv 0) pa_nil)))
    (pss_cons (ps_set (i := 3) S.nd rfl (.inl rfl) (pv 1))
    (pss_cons (ps_while PassesOwn.never (pt_cmpR op_ne (pv 3) pe_int (nomark _)) (pss_one (ps_par (i := 2) (j := 3) rfl S.nd rfl rfl (by decide) rfl rfl (pa_cons (pv 3) (pa_cons (pe_op op_modN (pv 2) (pv 3)) pa_nil)) (by rfl))))
    (pss_one (ps_ret (pe_tup (pa_cons (pe_op (op_fdivR R) (pv 0) (pv 2)) (pa_cons (pe_op (op_fdivR R) (pv 1) (pv 2)) pa_nil))))))), ?_⟩
  have hg : (Int.gcd a b) ≠ 0 := fun z => by have := Int.eq_zero_of_gcd_eq_zero_right z; omega
  obtain ⟨d1, d2⟩ := div_num (a := a) (b := b) (by omega)
  rw [if_neg (by omega)] at d1 d2
  have ga : Int.gcd (if a < 0 then -a else a) b = Int.gcd a b := by
    split
    · exact Int.neg_gcd
    · rfl
  have pa0 : 0 ≤ (if a < 0 then -a else a) := by split <;> omega
  refine ⟨_, rfl, a, rfl, ?_⟩
  generalize (if a < 0 then -a else a) = a' at *
  refine ⟨_, rfl, ?_⟩
  refine while_by (fun σ H' => H' = H ∧ ∃ x y : Int, σ = [some (.int a), some (.int b), some (.int x), some (.int y)] ∧ 0 ≤ x ∧ 0 ≤ y ∧ Int.gcd x y = Int.gcd a b) (fun σ _ => match σ with | [_, _, _, some (.int y)] => y.natAbs | _ => 0) ⟨rfl, a', b, rfl, pa0, by omega, ga⟩ ?hs ?hm
  case hm =>
    intro σ H Q Q' m h
    obtain ⟨v, e, e1, k, e2, z⟩ := h
    exact ⟨v, e, e1, k, e2, m _ _ z⟩
  rintro σ H' ⟨rfl, x, y, rfl, hx, hy, hgc⟩
  refine ⟨_, rfl, rfl, _, rfl, ?_⟩
  by_cases c : y = 0
  · subst c
    rw [decide_eq_true rfl]
    refine iteF ?_
    have e : x = ((Int.gcd a b : Nat) : Int) := by
      rw [← hgc, Int.gcd_zero]; omega
    refine ⟨_, rfl, _, rfl, _, _, rfl, rfl, by omega, _, rfl, _, rfl, _, _, rfl, rfl, by omega, (by show 2 ≤ sizeLine; decide), fun p hp => ?_⟩
    refine q _ _ (same_new hp _) (rat_dp ?_)
    rw [d1, d2, ← e]
    exact SqT.of upd_same
  · have c2 : ¬ (V.int y = V.int 0) := fun z => c (V.int.inj z)
    rw [decide_eq_false c2]
    refine iteT ?_
    refine ⟨_, rfl, _, rfl, _, rfl, x, y, rfl, rfl, c, _, _, rfl, ⟨rfl, y, _, rfl, hy, Int.fmod_nonneg_of_pos _ (by omega), ?_⟩, ?_⟩
    · rw [gcd_step c]; exact hgc
    · exact fmod_less c
end
end Yd

set_option Elab.async false
set_option linter.all false
set_option maxRecDepth 100000
set_option maxHeartbeats 4000000
namespace Yd
open PySem PySem.Spec PyProof.Rows L2 Dial
abbrev spLow (K : PySem.W.Frag) : Sp := fun vs H Q _ => ∃ a b : Int, vs = [.int a, .int b] ∧ 0 < b ∧ Gives K H Q (dR (Rat.divInt a b))
abbrev spNum : PySem.W.Frag → Sp := fun K vs H Q _ => ∃ (c k : Int), vs = [.int c, .int k] ∧ 0 ≤ k ∧ k ≤ 400 ∧ ∀ (r : Int) H', Same H H' → r.natAbs ≤ 60 → Q (.int r) H'
abbrev spTriple (K : PySem.W.Frag) : Sp := fun vs H Q _ => ∃ (c k : Int), vs = [.int c, .int k] ∧ 0 ≤ k ∧ k ≤ 390 ∧ ∀ (t : T3) v H', Same H H' → TL 60 t → Dp K H' v (dT t) → Q v H'
def PL (n m : Nat) (p : Pl) : Prop := TL n p.1 ∧ TL m p.2.1 ∧ TL m p.2.2
abbrev spPlate (K : PySem.W.Frag) : Sp := fun vs H Q _ => ∃ (c k : Int), vs = [.int c, .int k] ∧ 0 ≤ k ∧ k ≤ 300 ∧ ∀ (p : Pl) v H', Same H H' → PL 60 60 p → Dp K H' v (dPl p) → Q v H'
theorem den_pos (x : Rat) : (0 : Int) < (x.den : Int) := by have := x.den_nz; omega
theorem dp_unit {K : PySem.W.Frag} {H : Hp} {p : Addr} {x y z : Int} (h : H p = some (.tup [.int x, .int y, .int z])) : Dp K H (.ref p) (dT (x, y, z)) := t3_dp (SqT.of h)
theorem shaped_t3 (t : T3) : SeqAt.shaped (dT t) = true := rfl
section
variable {P : Program} {w : World} {K : PySem.W.Frag} {mg : Str → Option Value} {base : Heap}
theorem ok_ladd (D : Df K mg "_law_add" (topS 51) ["_law_one", "_law_other"]) (hR : Has P w K mg base 41 "_law_low" (spLow K)) : Has P w K mg base 42 "_law_add" (spRat2 K (fun _ _ => True) (fun x y => x + y)) := by
  have S : FnScope ["_law_one", "_law_other"] ["_law_one", "_law_other"] (defScope (topS 51)) := ⟨rfl, rfl, rfl, by decide +kernel, rfl, by decide +kernel, by decide +kernel⟩
  refine has0 D S (by rintro _ _ _ _ ⟨_, _, _, _, rfl, _⟩; rfl) (fun f cdv A outer s H vs Q E hr h => ?_)
  obtain ⟨v, u, x, y, rfl, hx, hy, zx, zy, hc, q⟩ := h
  obtain ⟨a, rfl, sa⟩ := dp_rat hx
  obtain ⟨b, rfl, sb⟩ := dp_rat hy
  refine ⟨_, pss_one (ps_ret (pe_h hR hr (by decide) (by rfl) (pa_cons (pe_op op_add (pe_op op_mulG (pe_ix ix_tup (pv 0) pe_int (fun _ _ => rfl)) (pe_ix ix_tup (pv 1) pe_int (fun _ _ => rfl))) (pe_op op_mulG (pe_ix ix_tup (pv 1) pe_int (fun _ _ => rfl)) (pe_ix ix_tup (pv 0) pe_int (fun _ _ => rfl)))) (pa_cons (pe_op op_mulG (pe_ix ix_tup (pv 0) pe_int (fun _ _ => rfl)) (pe_ix ix_tup (pv 1) pe_int (fun _ _ => rfl))) pa_nil)))), ?_⟩
  refine ⟨_, rfl, a, _, 0, _, rfl, rfl, sa, atI_nat (j := 0) rfl, _, rfl, b, _, 1, _, rfl, rfl, sb, atI_nat (j := 1) rfl, _, _, rfl, rfl, sz_nd zx zy, _, rfl, b, _, 0, _, rfl, rfl, sb, atI_nat (j := 0) rfl, _, rfl, a, _, 1, _, rfl, rfl, sa, atI_nat (j := 1) rfl, _, _, rfl, rfl, sz_nd zy zx, _, _, rfl, rfl, ?_⟩
  refine ⟨_, rfl, a, _, 1, _, rfl, rfl, sa, atI_nat (j := 1) rfl, _, rfl, b, _, 1, _, rfl, rfl, sb, atI_nat (j := 1) rfl, _, _, rfl, rfl, sz_dd zx zy, _, _, rfl, Int.mul_pos (den_pos x) (den_pos y), fun v' H' sm d => q v' H' sm ?_⟩
  rw [sum_int] at d
  exact d
theorem ok_lunder (D : Df K mg "_law_under" (topS 54) ["_law_one", "_law_other"]) : Has P w K mg base 1 "_law_under" (spUnder K) := by
  have S : FnScope ["_law_one", "_law_other"] ["_law_one", "_law_other"] (defScope (topS 54)) := ⟨rfl, rfl, rfl, by decide +kernel, rfl, by decide +kernel, by decide +kernel⟩
  refine has0 D S (by rintro _ _ _ _ ⟨_, _, _, _, rfl, _⟩; rfl) (fun f cdv A outer s H vs Q E hr h => ?_)
  obtain ⟨v, u, x, y, rfl, hx, hy, zx, zy, q⟩ := h
  obtain ⟨a, rfl, sa⟩ := dp_rat hx
  obtain ⟨b, rfl, sb⟩ := dp_rat hy
  refine ⟨_, pss_one (ps_ret (pe_cmpR op_lt (pe_op op_mulG (pe_ix ix_tup (pv 0) pe_int (fun _ _ => rfl)) (pe_ix ix_tup (pv 1) pe_int (fun _ _ => rfl))) (pe_op op_mulG (pe_ix ix_tup (pv 1) pe_int (fun _ _ => rfl)) (pe_ix ix_tup (pv 0) pe_int (fun _ _ => rfl))) (nomark _))), ?_⟩
  refine ⟨_, rfl, a, _, 0, _, rfl, rfl, sa, atI_nat (j := 0) rfl, _, rfl, b, _, 1, _, rfl, rfl, sb, atI_nat (j := 1) rfl, _, _, rfl, rfl, sz_nd zx zy, _, rfl, b, _, 0, _, rfl, rfl, sb, atI_nat (j := 0) rfl, _, rfl, a, _, 1, _, rfl, rfl, sa, atI_nat (j := 1) rfl, _, _, rfl, rfl, sz_nd zy zx, _, _, rfl, rfl, ?_⟩
  have e : decide (x.num * (y.den : Int) < y.num * (x.den : Int)) = decide (x < y) := by
    rw [decide_eq_decide]; exact (Rat.lt_iff x y).symm
  rw [← e] at q
  exact q
theorem ok_number (D : Df K mg "_law_number" (topS 55) ["_law_cell", "_law_k"]) (hD : Has P w K mg base 1 "_law_draw" spDraw) : Has P w K mg base 2 "_law_number" (spNum K) := by
  have S : FnScope ["_law_cell", "_law_k", "_law_kind"] ["_law_cell", "_law_k"] (defScope (topS 55)) := ⟨rfl, rfl, rfl, by decide +kernel, rfl, by decide +kernel, by decide +kernel⟩
  refine has0 D S (by rintro _ _ _ _ ⟨_, _, rfl, _⟩; rfl) (fun f cdv A outer s H vs Q E hr h => ?_)
  obtain ⟨c, k, rfl, hk0, hk, q⟩ := h
  refine ⟨_, pss_cons (ps_set (i := 2) S.nd rfl (.inl rfl) (pe_h hD hr (by decide) (by rfl) (pa_cons (pv 0) (pa_cons (pe_op op_mulG pe_int (pv 1)) (pa_cons pe_int pa_nil)))))
    (pss_cons (ps_if (pt_cmpR op_lt (pv 2) pe_int (nomark _)) (pss_one (ps_ret (pe_op op_sub (pe_h hD hr (by decide) (by rfl) (pa_cons (pv 0) (pa_cons (pe_op op_add (pe_op op_mulG pe_int (pv 1)) pe_int) (pa_cons pe_int pa_nil)))) pe_int))) pss_nil)
    (pss_cons (ps_if (pt_cmpR op_lt (pv 2) pe_int (nomark _)) (pss_one (ps_ret (pe_op op_sub (pe_h hD hr (by decide) (by rfl) (pa_cons (pv 0) (pa_cons (pe_op op_add (pe_op op_mulG pe_int (pv 1)) pe_int) (pa_cons pe_int pa_nil)))) pe_int))) pss_nil)
    (pss_one (ps_ret (pe_op op_mulG (pe_ix ix_list (pe_lst (pa_cons pe_int (pa_cons (pe_un un_neg pe_int) pa_nil))) (pe_h hD hr (by decide) (by rfl) (pa_cons (pv 0) (pa_cons (pe_op op_add (pe_op op_mulG pe_int (pv 1)) pe_int) (pa_cons pe_int pa_nil)))) (fun _ _ => rfl))
      (pe_op op_sub pe_int (pe_op op_fdivW (pe_h hD hr (by decide) (by rfl) (pa_cons (pv 0) (pa_cons (pe_op op_mulG pe_int (pv 1)) (pa_cons pe_int pa_nil)))) pe_int))))))), ?_⟩
  have km : CMulG 2 k := mulNat (n := 2) (m := 9) (by decide) (by omega)
  refine ⟨_, rfl, _, rfl, _, _, rfl, rfl, km, c, 2 * k, 8, rfl, by omega, by omega, by decide, fun r r0 r1 => ?_⟩
  refine ⟨_, rfl, _, _, rfl, rfl, _, rfl, ite2 (fun _ => ?_) (fun _ => ?_)⟩
  · refine ⟨_, rfl, _, rfl, _, _, rfl, rfl, km, _, _, rfl, rfl, c, 2 * k + 1, 9, rfl, by omega, by omega, by decide, fun r r0 r1 => ?_⟩
    exact ⟨_, _, rfl, rfl, q _ H (Same.refl H) (by omega)⟩
  refine ⟨_, rfl, _, _, rfl, rfl, _, rfl, ite2 (fun _ => ?_) (fun _ => ?_)⟩
  · refine ⟨_, rfl, _, rfl, _, _, rfl, rfl, km, _, _, rfl, rfl, c, 2 * k + 1, 61, rfl, by omega, by omega, by decide, fun r r0 r1 => ?_⟩
    exact ⟨_, _, rfl, rfl, q _ H (Same.refl H) (by omega)⟩
  refine ⟨_, rfl, (by show 2 ≤ sizeLine; decide), fun p hp => ?_⟩
  have mp := same_new hp (.lst [.int 1, .int (-1)])
  refine ⟨_, rfl, _, rfl, _, _, rfl, rfl, km, _, _, rfl, rfl, c, 2 * k + 1, 2, rfl, by omega, by omega, by decide, fun r r0 r1 => ?_⟩
  obtain ⟨s, hs, hsa⟩ : ∃ s : Int, [V.int 1, V.int (-1)][r.toNat]? = some (.int s) ∧ s.natAbs = 1 := by
    have : r = 0 ∨ r = 1 := by omega
    rcases this with rfl | rfl
    · exact ⟨1, rfl, rfl⟩
    · exact ⟨-1, rfl, rfl⟩
  refine ⟨p, _, r, _, rfl, rfl, SqL.of upd_same, at_of (j := r.toNat) (by omega) hs, ?_⟩
  refine ⟨_, rfl, _, rfl, _, _, rfl, rfl, km, c, 2 * k, 64, rfl, by omega, by omega, by decide, fun r2 r20 r21 => ?_⟩
  refine ⟨_, _, rfl, rfl, ⟨by decide, by decide⟩, _, _, rfl, rfl, s, _, rfl, rfl, mulNat (n := 1) (m := 7) (by omega) (by omega), q _ _ mp ?_⟩
  rw [Int.natAbs_mul, hsa]
  omega
theorem ok_triple (D : Df K mg "_law_triple" (topS 56) ["_law_cell", "_law_k"]) (hN : Has P w K mg base 2 "_law_number" (spNum K)) : Has P w K mg base 3 "_law_triple" (spTriple K) := by
  have S : FnScope ["_law_cell", "_law_k"] ["_law_cell", "_law_k"] (defScope (topS 56)) := ⟨rfl, rfl, rfl, by decide +kernel, rfl, by decide +kernel, by decide +kernel⟩
  refine has0 D S (by rintro _ _ _ _ ⟨_, _, rfl, _⟩; rfl) (fun f cdv A outer s H vs Q E hr h => ?_)
  obtain ⟨c, k, rfl, hk0, hk, q⟩ := h
  refine ⟨_, pss_one (ps_ret (pe_tup (pa_cons (pe_h hN hr (by decide) (by rfl) (pa_cons (pv 0) (pa_cons (pv 1) pa_nil))) (pa_cons (pe_h hN hr (by decide) (by rfl) (pa_cons (pv 0) (pa_cons (pe_op op_add (pv 1) pe_int) pa_nil)))
    (pa_cons (pe_h hN hr (by decide) (by rfl) (pa_cons (pv 0) (pa_cons (pe_op op_add (pv 1) pe_int) pa_nil))) pa_nil))))), ?_⟩
  refine ⟨_, rfl, _, rfl, c, k, rfl, hk0, by omega, fun a H1 m1 b1 => ?_⟩
  refine ⟨_, rfl, _, rfl, _, _, rfl, rfl, c, k + 1, rfl, by omega, by omega, fun b H2 m2 b2 => ?_⟩
  refine ⟨_, rfl, _, rfl, _, _, rfl, rfl, c, k + 2, rfl, by omega, by omega, fun d H3 m3 b3 => ?_⟩
  refine ⟨(by show 3 ≤ sizeLine; decide), fun p hp => ?_⟩
  exact q (a, b, d) _ _ (m1.trans (m2.trans (m3.trans (same_new hp _)))) ⟨b1, b2, b3⟩ (dp_unit upd_same)
theorem ok_plate (D : Df K mg "_law_plate" (topS 59) ["_law_cell", "_law_k"]) (hT : Has P w K mg base 3 "_law_triple" (spTriple K)) (hC : Has P w K mg base 1 "_law_cross" (spT2 K tCrs)) : Has P w K mg base 4 "_law_plate" (spPlate K) := by
  have S : FnScope ["_law_cell", "_law_k", "_law_side", "_law_other", "_law_unit"] ["_law_cell", "_law_k"] (defScope (topS 59)) := ⟨rfl, rfl, rfl, by decide +kernel, rfl, by decide +kernel, by decide +kernel⟩
  refine has0 D S (by rintro _ _ _ _ ⟨_, _, rfl, _⟩; rfl) (fun f cdv A outer s H vs Q E hr h => ?_)
  obtain ⟨c, k, rfl, hk0, hk, q⟩ := h
  refine ⟨_, pss_cons (ps_set (i := 2) S.nd rfl (.inl rfl) (pe_h hT hr (by decide) (by rfl) (pa_cons (pv 0) (pa_cons (pe_op op_add (pv 1) pe_int) pa_nil))))
    (Evl.pss_cut (ps_if (pt_cmpR (op_eqD hr.units) (pv 2) (pe_tup (pa_cons pe_int (pa_cons pe_int (pa_cons pe_int pa_nil)))) (nomark _)) (pss_one (ps_set (i := 2) S.nd rfl (.inl rfl) (pe_tup (pa_cons pe_int (pa_cons pe_int (pa_cons pe_int pa_nil)))))) pss_nil)
    (pss_cons (ps_set (i := 3) S.nd rfl (.inl rfl) (pe_h hT hr (by decide) (by rfl) (pa_cons (pv 0) (pa_cons (pe_op op_add (pv 1) pe_int) pa_nil))))
    (pss_cons (ps_for PassesOwn.never rfl (pi_list (pe_lst (pa_cons (pe_tup (pa_cons pe_int (pa_cons pe_int (pa_cons pe_int pa_nil)))) (pa_cons (pe_tup (pa_cons pe_int (pa_cons pe_int (pa_cons pe_int pa_nil)))) (pa_cons (pe_tup (pa_cons pe_int (pa_cons pe_int (pa_cons pe_int pa_nil)))) pa_nil))))) (pg_name (i := 4) S.nd rfl (.inl rfl))
      (pss_one (ps_if (pt_cmpR (op_eqD hr.units) (pe_h hC hr (by decide) (by rfl) (pa_cons (pv 2) (pa_cons (pv 3) pa_nil))) (pe_tup (pa_cons pe_int (pa_cons pe_int (pa_cons pe_int pa_nil)))) (nomark _)) (pss_one (ps_set (i := 3) S.nd rfl (.inl rfl) (pv 4))) pss_nil)))
    (pss_one (ps_ret (pe_tup (pa_cons (pe_h hT hr (by decide) (by rfl) (pa_cons (pv 0) (pa_cons (pv 1) pa_nil))) (pa_cons (pv 2) (pa_cons (pv 3) pa_nil))))))))), ?_⟩
  refine ⟨_, rfl, _, rfl, _, _, rfl, rfl, c, k + 3, rfl, by omega, by omega, fun t1 v1 H1 m1 b1 d1 => ?_⟩
  refine ⟨fun σ' H' => ∃ (v : V) (t : T3), σ' = [some (.int c), some (.int k), some v, none, none] ∧ Same H H' ∧ TL 60 t ∧ Dp K H' v (dT t), ?_, ?_⟩
  · refine ⟨_, rfl, (by show 3 ≤ sizeLine; decide), fun p hp => ?_⟩
    have mp := same_new hp (.tup [.int 0, .int 0, .int 0])
    refine ⟨_, _, dp_same mp _ _ d1, dp_unit upd_same, shaped_t3 _, shaped_t3 _, _, rfl, ite2 (fun _ => ?_) (fun _ => ?_)⟩
    · refine ⟨(by show 3 ≤ sizeLine; decide), fun p2 hp2 => ?_⟩
      exact ⟨_, (1, 0, 0), rfl, m1.trans (mp.trans (same_new hp2 _)), ⟨by decide, by decide, by decide⟩, dp_unit upd_same⟩
    · exact ⟨v1, t1, rfl, m1.trans mp, b1, dp_same mp _ _ d1⟩
  rintro σ' H2 ⟨v2, t2, rfl, m2, b2, d2⟩
  refine ⟨_, rfl, _, rfl, _, _, rfl, rfl, c, k + 6, rfl, by omega, by omega, fun t3 v3 H3 m3 b3 d3 => ?_⟩
  have n3 := m2.trans m3
  refine ⟨(by show 3 ≤ sizeLine; decide), fun q1 hq1 => ⟨(by show 3 ≤ sizeLine; decide), fun q2 hq2 => ⟨(by show 3 ≤ sizeLine; decide), fun q3 hq3 => ⟨(by show 3 ≤ sizeLine; decide), fun q4 hq4 => ?_⟩⟩⟩⟩
  have k1 := same_new hq1 (.tup [.int 0, .int 1, .int 0])
  have k2 := same_new hq2 (.tup [.int 0, .int 0, .int 1])
  have k3 := same_new hq3 (.tup [.int 1, .int 0, .int 0])
  have k4 := same_new hq4 (.lst [.ref q1, .ref q2, .ref q3])
  have u1 := dp_same (k2.trans (k3.trans k4)) _ _ (dp_unit (K := K) (upd_same (H := H3) (a := q1) (o := .tup [.int 0, .int 1, .int 0])))
  have u2 := dp_same (k3.trans k4) _ _ (dp_unit (K := K) (upd_same (H := upd H3 q1 (.tup [.int 0, .int 1, .int 0])) (a := q2) (o := .tup [.int 0, .int 0, .int 1])))
  have u3 := dp_same k4 _ _ (dp_unit (K := K) (upd_same (H := upd (upd H3 q1 (.tup [.int 0, .int 1, .int 0])) q2 (.tup [.int 0, .int 0, .int 1])) (a := q3) (o := .tup [.int 1, .int 0, .int 0])))
  have kk := k1.trans (k2.trans (k3.trans k4))
  have s4 := SqL.of (K := K) (upd_same (H := upd (upd (upd H3 q1 (.tup [.int 0, .int 1, .int 0])) q2 (.tup [.int 0, .int 0, .int 1])) q3 (.tup [.int 1, .int 0, .int 0])) (a := q4) (o := .lst [.ref q1, .ref q2, .ref q3]))
  generalize upd (upd (upd (upd H3 q1 (.tup [.int 0, .int 1, .int 0])) q2 (.tup [.int 0, .int 0, .int 1])) q3 (.tup [.int 1, .int 0, .int 0])) q4 (.lst [.ref q1, .ref q2, .ref q3]) = H4 at *
  refine ⟨q4, rfl, ⟨_, s4⟩, ?_⟩
  refine for_list (K := K) (a := q4) (xs := [.ref q1, .ref q2, .ref q3]) (fun i σ H' => ∃ (v : V) (t : T3) (y4 : Option V), σ = [some (.int c), some (.int k), some v2, some v, y4] ∧ Same H4 H' ∧ TL 60 t ∧ Dp K H' v (dT t))
    ⟨v3, t3, none, rfl, Same.refl _, b3, dp_same kk _ _ d3⟩ (fun i σ H' _ hI => ?_) (fun i x σ H' gx hI => ?_) (fun σ H' hI => ?_)
  · obtain ⟨_, _, _, _, m, _⟩ := hI; exact m.seq s4
  · obtain ⟨v, t, y4, rfl, m, bt, dt⟩ := hI
    obtain ⟨tu, du, bu⟩ : ∃ t : T3, Dp K H4 x (dT t) ∧ TL 60 t := by
      match i, gx with
      | 0, gx => cases gx; exact ⟨_, u1, ⟨by decide, by decide, by decide⟩⟩
      | 1, gx => cases gx; exact ⟨_, u2, ⟨by decide, by decide, by decide⟩⟩
      | 2, gx => cases gx; exact ⟨_, u3, ⟨by decide, by decide, by decide⟩⟩
      | i + 3, gx => simp at gx
    refine ⟨_, rfl, _, rfl, _, _, _, _, rfl, dp_same (m3.trans (kk.trans m)) _ _ d2, dt, b2.tb (by decide), bt.tb (by decide), fun u5 H5 m5 e5 => ?_⟩
    refine ⟨(by show 3 ≤ sizeLine; decide), fun p hp => ?_⟩
    have mp := same_new hp (.tup [.int 0, .int 0, .int 0])
    refine ⟨_, _, dp_same mp _ _ e5, dp_unit upd_same, shaped_t3 _, shaped_t3 _, _, rfl, ite2 (fun _ => ?_) (fun _ => ?_)⟩
    · exact ⟨_, rfl, x, tu, _, rfl, m.trans (m5.trans mp), bu, dp_same (m.trans (m5.trans mp)) _ _ du⟩
    · exact ⟨v, t, _, rfl, m.trans (m5.trans mp), bt, dp_same (m5.trans mp) _ _ dt⟩
  · obtain ⟨v, t, y4, rfl, m, bt, dt⟩ := hI
    refine ⟨_, rfl, _, rfl, c, k, rfl, by omega, by omega, fun t5 v5 H5 m5 b5 d5 => ?_⟩
    refine ⟨_, rfl, _, rfl, (by show 3 ≤ sizeLine; decide), fun p hp => ?_⟩
    have mp := same_new hp (.tup [v5, v2, v])
    have z5 := m5.trans mp
    refine q (t5, t2, t) _ _ (n3.trans (kk.trans (m.trans z5))) ⟨b5, b2, bt⟩ (.tup (SqT.of upd_same) (.cons (dp_same mp _ _ d5) (.cons (dp_same (m3.trans (kk.trans (m.trans z5))) _ _ d2) (.cons (dp_same z5 _ _ dt) .nil))))
end
end Yd

set_option Elab.async false
set_option linter.all false
set_option maxRecDepth 100000
set_option maxHeartbeats 4000000
namespace Yd
open PySem PySem.Spec PyProof.Rows L2 Dial
/-! ### max and min of a triple -/
def rT3 (K : PySem.W.Frag) : List V → Hp → VK → Prop := fun vs H Q => ∃ (v : V) (t : T3), vs = [v] ∧ Dp K H v (dT t) ∧ ∀ m : Int, Q (.int m) H
theorem alike3 (t : T3) : PySem.W.AlikeAll [.int t.1, .int t.2.1, .int t.2.2] := by
  constructor
  · intro x hx y hy
    simp only [List.mem_cons, List.not_mem_nil, or_false] at hx hy
    rcases hx with rfl | rfl | rfl <;> rcases hy with rfl | rfl | rfl <;> rfl
  · intro x hx
    simp only [List.mem_cons, List.not_mem_nil, or_false] at hx
    rcases hx with rfl | rfl | rfl <;> intro z <;> cases z
theorem max3 (t : T3) : PySem.W.maxD (.int t.1) [.int t.2.1, .int t.2.2] = .int ([t.2.1, t.2.2].foldl max t.1) := PySem.W.maxD_ints t.1 [t.2.1, t.2.2]
theorem min3 (t : T3) : PySem.W.minD (.int t.1) [.int t.2.1, .int t.2.2] = .int ([t.2.1, t.2.2].foldl min t.1) := PySem.W.minD_ints t.1 [t.2.1, t.2.2]
theorem maxT {X : Cx} {K : PySem.W.Frag} (hK : X.K = K) (hc : X.calm = true) (hu : X.A.units + 64 < cLine) : CallR X (.builtin "max") (rT3 K) := by
  subst hK
  intro pins s σ H vs us Q I r h
  obtain ⟨v, t, rfl, hd, q⟩ := h
  obtain ⟨a, rfl, sa⟩ := dp_t3 hd
  obtain ⟨its, rv, hl, _⟩ := I.tuple sa
  rw [Vals.ref1 r]
  obtain ⟨as, hr⟩ := Dp.readsAll I [.int t.1, .int t.2.1, .int t.2.2] _ its (.cons (.int _) (.cons (.int _) (.cons (.int _) .nil))) rv
  refine PySem.W.max_tuple_data (I.ok.hd hc) (show s.heap.IsTuple a its.toArray from hl) (by rw [List.toList_toArray]; exact hr) (alike3 t) (Nat.lt_of_le_of_lt (Nat.add_le_add_left (show _ ≤ 63 by simp [PyData.depthAll, PyData.depth]) _) (by omega)) fun i v h' tk bs hv hreads hk => ?_
  rw [max3] at hreads
  cases hreads with
  | int i tt => exact ⟨.int _, H, I.kept hk, ⟨_, rfl⟩, q _⟩
theorem minT {X : Cx} {K : PySem.W.Frag} (hK : X.K = K) (hc : X.calm = true) (hu : X.A.units + 64 < cLine) : CallR X (.builtin "min") (rT3 K) := by
  subst hK
  intro pins s σ H vs us Q I r h
  obtain ⟨v, t, rfl, hd, q⟩ := h
  obtain ⟨a, rfl, sa⟩ := dp_t3 hd
  obtain ⟨its, rv, hl, _⟩ := I.tuple sa
  rw [Vals.ref1 r]
  obtain ⟨as, hr⟩ := Dp.readsAll I [.int t.1, .int t.2.1, .int t.2.2] _ its (.cons (.int _) (.cons (.int _) (.cons (.int _) .nil))) rv
  refine PySem.W.min_tuple_data (I.ok.hd hc) (show s.heap.IsTuple a its.toArray from hl) (by rw [List.toList_toArray]; exact hr) (alike3 t) (Nat.lt_of_le_of_lt (Nat.add_le_add_left (show _ ≤ 63 by simp [PyData.depthAll, PyData.depth]) _) (by omega)) fun i v h' tk bs hv hreads hk => ?_
  rw [min3] at hreads
  cases hreads with
  | int i tt => exact ⟨.int _, H, I.kept hk, ⟨_, rfl⟩, q _⟩
theorem t3s_lay : ∀ (us : List T3), PyData.canLayAll0 (us.map dT) = true ∧ PyData.depthAll (us.map dT) ≤ 1
  | [] => ⟨rfl, by decide⟩
  | p :: R => by
    obtain ⟨a, b⟩ := t3s_lay R
    constructor
    · show (PyData.canLay0 (dT p) && PyData.canLayAll0 (R.map dT)) = true
      rw [a]; rfl
    · show max (PyData.depth (dT p)) (PyData.depthAll (R.map dT)) ≤ 1
      have : PyData.depth (dT p) = 1 := rfl
      omega
theorem shaped_t3s (us : List T3) : SeqAt.shaped (.list (us.map dT)) = true := by
  obtain ⟨a, b⟩ := t3s_lay us
  unfold SeqAt.shaped
  have h1 : PyData.canLay0 (.list (us.map dT)) = true := a
  have h2 : PyData.depth (.list (us.map dT)) = PyData.depthAll (us.map dT) + 1 := rfl
  rw [h1, h2]
  simp
  omega
abbrev spFar (K : PySem.W.Frag) : Sp := fun vs H Q _ => ∃ (v : V) (ts : List T3), vs = [v] ∧ Dp K H v (.list (ts.map dT)) ∧ ts.length ≤ 1000 ∧ ∀ (b : Bool) H', Same H H' → Q (.bl b) H'
def tScale (x y : T3) (m : Int) : T3 := (x.1 + m * y.1, x.2.1 + m * y.2.1, x.2.2 + m * y.2.2)
theorem TL.scale {a b c : Nat} {x y : T3} {m : Int} (h : TL a x) (k : TL b y) (e : m.natAbs ≤ c) : TL (a + c * b) (tScale x y m) := by
  obtain ⟨h1, h2, h3⟩ := h
  obtain ⟨k1, k2, k3⟩ := k
  have mm : ∀ z : Int, z.natAbs ≤ b → (m * z).natAbs ≤ c * b := fun z hz => by rw [Int.natAbs_mul]; exact Nat.mul_le_mul e hz
  have q1 := mm _ k1
  have q2 := mm _ k2
  have q3 := mm _ k3
  refine ⟨?_, ?_, ?_⟩ <;> (unfold tScale; dsimp only; omega)
abbrev spLSum (K : PySem.W.Frag) : Sp := fun vs H Q _ => ∃ (v u : V) (x y : T3) (m : Int), vs = [v, u, .int m] ∧ Dp K H v (dT x) ∧ Dp K H u (dT y) ∧ TB 60 y ∧ m.natAbs < 2 ^ 60 ∧ Gives K H Q (dT (tScale x y m))
abbrev spLAhead (K : PySem.W.Frag) : Sp := fun vs H Q _ => ∃ (v u : V) (f t : T3) (n : Nat), vs = [v, u] ∧ Dp K H v (dT f) ∧ Dp K H u (dT t) ∧ TB 60 f ∧ TL n t ∧ n ≤ 1000 ∧ ∀ (t' : T3) v' H', Same H H' → TL (n + 3) t' → Dp K H' v' (dT t') → Q v' H'
section
variable {P : Program} {w : World} {K : PySem.W.Frag} {mg : Str → Option Value} {base : Heap}
theorem ok_far (D : Df K mg "_law_far" (topS 62) ["_law_triples"]) (mM : mg "max" = none) (mm : mg "min" = none) : Has P w K mg base 1 "_law_far" (spFar K) := by
  have S : FnScope ["_law_triples", "_law_triple_here"] ["_law_triples"] (defScope (topS 62)) := ⟨rfl, rfl, rfl, by decide +kernel, rfl, by decide +kernel, by decide +kernel⟩
  refine has0 D S (by rintro _ _ _ _ ⟨_, _, rfl, _⟩; rfl) (fun f cdv A outer s H vs Q E hr h => ?_)
  obtain ⟨v, ts, rfl, d1, hl, q⟩ := h
  obtain ⟨a, xs, rfl, sa, da⟩ := dp_lst d1
  have hx : xs.length = ts.length := map_len da
  refine ⟨_, pss_one (ps_ret (pe_cmpR (op_neD hr.units) (pe_lc (own := [("_law_triple_here", 1)]) (g := gName 1) rfl S.nd (pi_list (pv 0))
      (blkOk_by (own := [("_law_triple_here", 1)]) (N := ["_law_triples", "_law_triple_here"]) (sc := defScope (topS 62)) (by decide +kernel))
      (fun _ _ _ _ _ => by exact pg_name (i := 1) S.nd rfl (.inl rfl))
      (fun _ _ _ _ _ => by exact pts_one (pt_cmpR op_gt (pe_callB (call_max2 rfl) (by rfl) mM (by decide +kernel) (pa_cons (pe_callB (maxT (K := K) rfl rfl hr.units) (by rfl) mM (by decide +kernel) (pa_cons (pv 1) pa_nil))
        (pa_cons (pe_op op_sub pe_int (pe_callB (minT (K := K) rfl rfl hr.units) (by rfl) mm (by decide +kernel) (pa_cons (pv 1) pa_nil))) pa_nil))) (pe_op op_pow pe_int pe_int) (nomark _)))
      (fun _ _ _ _ _ => by exact pv 1)) (pe_lst pa_nil) (nomark _))), ?_⟩
  refine ⟨_, rfl, a, rfl, ⟨xs, sa⟩, fun D1 hD1 => ?_⟩
  refine lc_list (K := K) (a := a) (xs := xs) (fun i H' => ∃ us : List T3, us.length ≤ i ∧ Grown K H D1 (us.map dT) H') ⟨[], Nat.le_refl _, Grown.start hD1⟩ (fun i H' _ ⟨us, _, g⟩ => g.same.seq sa) (fun i x H' gx hI => ?_) (fun H1 hI => ?_)
  · obtain ⟨us, hus, g⟩ := hI
    have hi : i < ts.length := by rw [← hx]; exact (List.getElem?_eq_some_iff.mp gx).1
    obtain ⟨x', gx', dx⟩ := map_get da hi
    have ex : x = x' := Option.some.inj (gx.symm.trans gx')
    subst ex
    have dx' := dp_same g.same _ _ dx
    refine ⟨rfl, _, rfl, _, _, rfl, dx', fun m1 => ?_⟩
    refine ⟨_, rfl, _, _, rfl, dx', fun m2 => ?_⟩
    refine ⟨_, _, rfl, rfl, _, _, rfl, _, _, rfl, rfl, ⟨by decide, by decide, by decide⟩, _, _, rfl, rfl, _, rfl, ite2 (fun _ => ?_) (fun _ => ?_)⟩
    · obtain ⟨acc, k1, k2, k3⟩ := g.more (g.old dx)
      refine ⟨_, rfl, acc, k1, ?_, us ++ [ts[i]], by rw [List.length_append]; simp; omega, ?_⟩
      · rw [k2, List.length_map]; exact line_small (by omega)
      · rw [List.map_append]; exact k3
    · exact ⟨us, by omega, g⟩
  · obtain ⟨us, _, g⟩ := hI
    refine ⟨Nat.zero_le _, fun p hp => ?_⟩
    have mp := same_new hp (.lst [])
    exact ⟨_, _, dp_same mp _ _ g.dp, nil_dp upd_same, shaped_t3s us, by decide +kernel, q _ _ (g.same.trans mp)⟩
theorem ok_lsum (D : Df K mg "_law_sum" (topS 61) ["_law_one", "_law_other", "_law_many"]) (mt : mg "tuple" = none) (mz : mg "zip" = none) : Has P w K mg base 1 "_law_sum" (spLSum K) := by
  have S : FnScope ["_law_one", "_law_other", "_law_many", "_law_a", "_law_b"] ["_law_one", "_law_other", "_law_many"] (defScope (topS 61)) := ⟨rfl, rfl, rfl, by decide +kernel, rfl, by decide +kernel, by decide +kernel⟩
  refine has0 D S (by rintro _ _ _ _ ⟨_, _, _, _, _, rfl, _⟩; rfl) (fun f cdv A outer s H vs Q E hr h => ?_)
  obtain ⟨v, u, x, y, m, rfl, d1, d2, zy, zm, q⟩ := h
  obtain ⟨pa, rfl, sa⟩ := dp_t3 d1
  obtain ⟨pb, rfl, sb⟩ := dp_t3 d2
  refine ⟨_, pss_one (ps_ret (pe_tupleOf (by rfl) mt (pe_lc (own := [("_law_a", 3), ("_law_b", 4)]) (g := gTup K 2 (gCons (gName 3) (gCons (gName 4) gNil))) (tt := tYes) rfl S.nd (RZ.pi_zipA (by rfl) mz (pa_cons (pv 0) (pa_cons (pv 1) pa_nil)))
      (blkOk_by (own := [("_law_a", 3), ("_law_b", 4)]) (N := ["_law_one", "_law_other", "_law_many", "_law_a", "_law_b"]) (sc := defScope (topS 61)) (by decide +kernel))
      (fun _ _ _ _ _ => by
        refine pg_tup rfl (pgs_cons ?_ (pgs_cons ?_ pgs_nil))
        · exact pg_name (i := 3) S.nd rfl (.inl rfl)
        · exact pg_name (i := 4) S.nd rfl (.inl rfl)) (fun _ _ _ _ _ => pts_nil)
      (fun _ _ _ _ _ => by exact pe_op op_add (pv 3) (pe_op op_mulG (pv 2) (pv 4)))))), ?_⟩
  refine ⟨_, rfl, _, rfl, pa, pb, _, _, rfl, .inr ⟨sa, sb, fun D hD => ?_⟩⟩
  refine lc_it (walk_zipT (n := 3) (K := K) (a := pa) (b := pb) (xs := [V.int x.1, V.int x.2.1, V.int x.2.2]) (ys := [V.int y.1, V.int y.2.1, V.int y.2.2]) rfl rfl) (fun i H' => Grown K H D (((t3l (tScale x y m)).take i).map PyData.int) H') (Grown.start hD) (fun i H' _ g => ⟨Same.tup g.same sa, Same.tup g.same sb⟩) ?_ ?_
  · rintro i z H' H'' hi g ⟨T, x1, y1, rfl, nT, rfl, g1, g2⟩
    have g1 : [V.int x.1, V.int x.2.1, V.int x.2.2][i]? = some x1 := g1
    have g2 : [V.int y.1, V.int y.2.1, V.int y.2.2][i]? = some y1 := g2
    obtain ⟨n1, n2, rfl, rfl, en, by2⟩ : ∃ n1 n2 : Int, x1 = .int n1 ∧ y1 = .int n2 ∧ (t3l (tScale x y m))[i]? = some (n1 + m * n2) ∧ n2.natAbs < 2 ^ 60 := by
      match i, g1, g2 with
      | 0, g1, g2 => cases g1; cases g2; exact ⟨_, _, rfl, rfl, rfl, zy.1⟩
      | 1, g1, g2 => cases g1; cases g2; exact ⟨_, _, rfl, rfl, rfl, zy.2.1⟩
      | 2, g1, g2 => cases g1; cases g2; exact ⟨_, _, rfl, rfl, rfl, zy.2.2⟩
      | i + 3, g1, _ => simp at g1
    have mT : Same H' (upd H' T (.tup [.int n1, .int n2])) := same_new nT _
    have gT := g.step mT
    refine ⟨T, [.int n1, .int n2], rfl, SqT.of upd_same, rfl, .int n1, [.int n2], rfl, .int n2, [], rfl, rfl, rfl, ?_⟩
    refine tyes_if ?_
    refine ⟨_, rfl, _, rfl, _, rfl, _, _, rfl, rfl, mul60 zm by2, _, _, rfl, rfl, ?_⟩
    obtain ⟨acc, k1, k2, k3⟩ := gT.more (gT.hid (d := .int (n1 + m * n2)) rfl (.int _))
    refine ⟨acc, k1, ?_, ?_⟩
    · rw [k2, List.length_map, List.length_take]; exact line_small (by omega)
    · rw [List.take_add_one, en, List.map_append]
      exact k3
  · intro H' g
    have el : (t3l (tScale x y m)).take 3 = t3l (tScale x y m) := rfl
    rw [el] at g
    obtain ⟨acc, k1, k2⟩ := g.ex
    refine .inl ⟨D, acc, rfl, SqL.of k1, fun p hp => ?_⟩
    refine q _ _ (g.same.trans (same_new hp _)) ?_
    exact .tup (SqT.of upd_same) (dpAll_same ((hide_sub D H').trans (same_new hp _)) _ _ k2)
end
end Yd

set_option Elab.async false
set_option linter.all false
set_option maxRecDepth 100000
set_option maxHeartbeats 4000000
namespace Yd
open PySem PySem.Spec PyProof.Rows L2 Dial
abbrev spAbout (K : PySem.W.Frag) : Sp := fun vs H Q _ => ∃ (v u : V) (p : Pl) (d : T3) (c : Int), vs = [v, u, .int c] ∧ Dp K H v (dPl p) ∧ Dp K H u (dT d) ∧ PL 60 60 p ∧ TL 63 d ∧ ∀ (p' : Pl) v' H', Same H H' → PL 489 120 p' → Dp K H' v' (dPl p') → Q v' H'
abbrev spTip (K : PySem.W.Frag) : Sp := fun vs H Q _ => ∃ (v : V) (p : Pl) (c : Int), vs = [v, .int c] ∧ Dp K H v (dPl p) ∧ PL 600 120 p ∧ (∀ H', Same H H' → Q .non H') ∧ ∀ (t : T3) v' H', Same H H' → Dp K H' v' (dT t) → Q v' H'
theorem TL.neg {n : Nat} {t : T3} (h : TL n t) : TL n (0 - t.1, 0 - t.2.1, 0 - t.2.2) := by
  obtain ⟨a, b, c⟩ := h
  refine ⟨?_, ?_, ?_⟩ <;> (dsimp only; omega)
/-- three triples in a new list -/
theorem trip3 {K : PySem.W.Frag} {H : Hp} {x1 x2 x3 y1 y2 y3 z1 z2 z3 : Int} {q1 q2 q3 q4 : Addr} (hq1 : H q1 = none) (hq2 : (upd H q1 (.tup [.int x1, .int x2, .int x3])) q2 = none) (hq3 : (upd (upd H q1 (.tup [.int x1, .int x2, .int x3])) q2 (.tup [.int y1, .int y2, .int y3])) q3 = none)
    (hq4 : (upd (upd (upd H q1 (.tup [.int x1, .int x2, .int x3])) q2 (.tup [.int y1, .int y2, .int y3])) q3 (.tup [.int z1, .int z2, .int z3])) q4 = none) :
    ∀ H4, H4 = upd (upd (upd (upd H q1 (.tup [.int x1, .int x2, .int x3])) q2 (.tup [.int y1, .int y2, .int y3])) q3 (.tup [.int z1, .int z2, .int z3])) q4 (.lst [.ref q1, .ref q2, .ref q3]) →
    Same H H4 ∧ SqL K H4 q4 [.ref q1, .ref q2, .ref q3] ∧ Dp K H4 (.ref q1) (dT (x1, x2, x3)) ∧ Dp K H4 (.ref q2) (dT (y1, y2, y3)) ∧ Dp K H4 (.ref q3) (dT (z1, z2, z3)) := by
  rintro _ rfl
  have k1 := same_new hq1 (.tup [.int x1, .int x2, .int x3])
  have k2 := same_new hq2 (.tup [.int y1, .int y2, .int y3])
  have k3 := same_new hq3 (.tup [.int z1, .int z2, .int z3])
  have k4 := same_new hq4 (.lst [.ref q1, .ref q2, .ref q3])
  exact ⟨k1.trans (k2.trans (k3.trans k4)), SqL.of upd_same, dp_same (k2.trans (k3.trans k4)) _ _ (dp_unit upd_same), dp_same (k3.trans k4) _ _ (dp_unit upd_same), dp_same k4 _ _ (dp_unit upd_same)⟩
section
variable {P : Program} {w : World} {K : PySem.W.Frag} {mg : Str → Option Value} {base : Heap}
theorem ok_lahead (D : Df K mg "_law_ahead" (topS 60) ["_law_front", "_law_found"]) (mt : mg "tuple" = none) (mz : mg "zip" = none) (mi : mg "int" = none) (hD : Has P w K mg base 1 "_law_dot" (spDot K)) : Has P w K mg base 2 "_law_ahead" (spLAhead K) := by
  have S : FnScope ["_law_front", "_law_found", "_law_unit", "_law_sign", "_law_one", "_law_more"] ["_law_front", "_law_found"] (defScope (topS 60)) := ⟨rfl, rfl, rfl, by decide +kernel, rfl, by decide +kernel, by decide +kernel⟩
  refine has0 D S (by rintro _ _ _ _ ⟨_, _, _, _, _, rfl, _⟩; rfl) (fun f cdv A outer s H vs Q E hr h => ?_)
  obtain ⟨v, u, f0, t, n, rfl, d1, d2, zf, zt, hn, q⟩ := h
  refine ⟨_, Evl.pss_cut (ps_if (pt_cmpR op_lt (pe_h hD hr (by decide) (by rfl) (pa_cons (pv 0) (pa_cons (pv 1) pa_nil))) pe_int (nomark _))
      (pss_one (ps_set (i := 1) S.nd rfl (.inl rfl) (pe_tup (pa_cons (pe_op op_sub pe_int (pe_ix ix_tup (pv 1) pe_int (fun _ _ => rfl))) (pa_cons (pe_op op_sub pe_int (pe_ix ix_tup (pv 1) pe_int (fun _ _ => rfl))) (pa_cons (pe_op op_sub pe_int (pe_ix ix_tup (pv 1) pe_int (fun _ _ => rfl))) pa_nil)))))) pss_nil)
    (pss_cons (ps_for PassesOwn.never rfl (pi_list (pe_lst (pa_cons (pe_tup (pa_cons pe_int (pa_cons pe_int (pa_cons pe_int pa_nil)))) (pa_cons (pe_tup (pa_cons pe_int (pa_cons pe_int (pa_cons pe_int pa_nil)))) (pa_cons (pe_tup (pa_cons pe_int (pa_cons pe_int (pa_cons pe_int pa_nil)))) pa_nil))))) (pg_name (i := 2) S.nd rfl (.inl rfl))
      (pss_one (ps_if (pt_cmpR op_eq (pe_h hD hr (by decide) (by rfl) (pa_cons (pv 0) (pa_cons (pv 1) pa_nil))) pe_int (nomark _))
        (pss_cons (ps_set (i := 3) S.nd rfl (.inr rfl) (pe_ix ix_list (pe_lst (pa_cons pe_int (pa_cons (pe_un un_neg pe_int) pa_nil))) (pe_callTy call_int1 (by rfl) mi (by decide +kernel) (pa_cons (pe_cmpR op_lt (pe_h hD hr (by decide) (by rfl) (pa_cons (pv 0) (pa_cons (pv 2) pa_nil))) pe_int (nomark _)) pa_nil)) (fun _ _ => rfl)))
        (pss_one (ps_set (i := 1) S.nd rfl (.inl rfl) (pe_tupleOf (by rfl) mt (pe_lc (own := [("_law_one", 4), ("_law_more", 5)]) (g := gTup K 2 (gCons (gName 4) (gCons (gName 5) gNil))) (tt := tYes) rfl S.nd (RZ.pi_zipA (by rfl) mz (pa_cons (pv 1) (pa_cons (pv 2) pa_nil)))
          (blkOk_by (own := [("_law_one", 4), ("_law_more", 5)]) (N := ["_law_front", "_law_found", "_law_unit", "_law_sign", "_law_one", "_law_more"]) (sc := defScope (topS 60)) (by decide +kernel))
          (fun _ _ _ _ _ => by
            refine pg_tup rfl (pgs_cons ?_ (pgs_cons ?_ pgs_nil))
            · exact pg_name (i := 4) S.nd rfl (.inl rfl)
            · exact pg_name (i := 5) S.nd rfl (.inl rfl)) (fun _ _ _ _ _ => pts_nil)
          (fun _ _ _ _ _ => by exact pe_op op_add (pv 4) (pe_op op_mulG (pv 3) (pv 5)))))))) pss_nil)))
    (pss_one (ps_ret (pv 1)))), ?_⟩
  obtain ⟨pb, rfl, sb⟩ := dp_t3 d2
  refine ⟨fun σ' H' => ∃ (v1 : V) (t1 : T3), σ' = [some v, some v1, none, none, none, none] ∧ Same H H' ∧ TL n t1 ∧ Dp K H' v1 (dT t1), ?_, ?_⟩
  · refine ⟨_, rfl, _, rfl, _, _, _, _, rfl, d1, d2, zf, zt.tb (by omega), ?_⟩
    refine ⟨_, _, rfl, rfl, _, rfl, ite2 (fun _ => ?_) (fun _ => ?_)⟩
    · refine ⟨_, rfl, pb, _, 0, _, rfl, rfl, sb, atI_nat (j := 0) rfl, _, _, rfl, rfl, _, rfl, pb, _, 1, _, rfl, rfl, sb, atI_nat (j := 1) rfl, _, _, rfl, rfl, _, rfl, pb, _, 2, _, rfl, rfl, sb, atI_nat (j := 2) rfl, _, _, rfl, rfl, (by show 3 ≤ sizeLine; decide), fun p hp => ?_⟩
      exact ⟨_, _, rfl, same_new hp _, zt.neg, dp_unit upd_same⟩
    · exact ⟨_, t, rfl, Same.refl H, zt, d2⟩
  rintro σ' H3 ⟨v3, t3, rfl, m3, b3, d3⟩
  refine ⟨(by show 3 ≤ sizeLine; decide), fun q1 hq1 => ⟨(by show 3 ≤ sizeLine; decide), fun q2 hq2 => ⟨(by show 3 ≤ sizeLine; decide), fun q3 hq3 => ⟨(by show 3 ≤ sizeLine; decide), fun q4 hq4 => ?_⟩⟩⟩⟩
  obtain ⟨kk, s4, u1, u2, u3⟩ := trip3 (K := K) hq1 hq2 hq3 hq4 _ rfl
  generalize upd (upd (upd (upd H3 q1 (.tup [.int 0, .int 0, .int 1])) q2 (.tup [.int 0, .int 1, .int 0])) q3 (.tup [.int 1, .int 0, .int 0])) q4 (.lst [.ref q1, .ref q2, .ref q3]) = H4 at *
  refine ⟨q4, rfl, ⟨_, s4⟩, ?_⟩
  refine for_list (K := K) (a := q4) (xs := [.ref q1, .ref q2, .ref q3]) (fun i σ H' => ∃ (v1 : V) (t1 : T3) (y2 y3 : Option V), σ = [some v, some v1, y2, y3, none, none] ∧ Same H4 H' ∧ TL (n + i) t1 ∧ Dp K H' v1 (dT t1))
    ⟨v3, t3, none, none, rfl, Same.refl _, b3, dp_same kk _ _ d3⟩ (fun i σ H' _ hI => ?_) (fun i x σ H' gx hI => ?_) (fun σ H' hI => ?_)
  · obtain ⟨_, _, _, _, _, m, _⟩ := hI; exact m.seq s4
  · obtain ⟨v1, t1, y2, y3, rfl, m, bt, dt⟩ := hI
    obtain ⟨tu, du, bu, hi3⟩ : ∃ t : T3, Dp K H4 x (dT t) ∧ TL 1 t ∧ i < 3 := by
      match i, gx with
      | 0, gx => cases gx; exact ⟨_, u1, ⟨by decide, by decide, by decide⟩, by decide⟩
      | 1, gx => cases gx; exact ⟨_, u2, ⟨by decide, by decide, by decide⟩, by decide⟩
      | 2, gx => cases gx; exact ⟨_, u3, ⟨by decide, by decide, by decide⟩, by decide⟩
      | i + 3, gx => simp at gx
    have mm := m3.trans (kk.trans m)
    refine ⟨_, rfl, _, rfl, _, _, _, _, rfl, dp_same mm _ _ d1, dt, zf, bt.tb (by omega), ?_⟩
    refine ⟨rfl, _, rfl, ite2 (fun _ => ?_) (fun _ => ⟨v1, t1, _, _, rfl, m, bt.mono (by omega), dt⟩)⟩
    refine ⟨_, rfl, (by show 2 ≤ sizeLine; decide), fun p hp => ?_⟩
    have mp := same_new hp (.lst [.int 1, .int (-1)])
    have du' := dp_same (m.trans mp) _ _ du
    refine ⟨_, rfl, _, rfl, _, _, _, _, rfl, dp_same (mm.trans mp) _ _ d1, du', zf, bu.tb (by decide), ?_⟩
    refine ⟨_, _, rfl, rfl, .inr ⟨_, rfl, ?_⟩⟩
    obtain ⟨s, j, hs, hsa, hj⟩ : ∃ (s : Int) (j : Nat), [V.int 1, V.int (-1)][j]? = some (.int s) ∧ s.natAbs = 1 ∧ (if decide (tInner f0 tu < 0) = true then (1 : Int) else 0) = (j : Int) := by
      cases decide (tInner f0 tu < 0) with
      | true => exact ⟨-1, 1, rfl, rfl, rfl⟩
      | false => exact ⟨1, 0, rfl, rfl, rfl⟩
    refine ⟨p, _, _, _, rfl, rfl, SqL.of upd_same, at_of hj hs, ?_⟩
    have dt' := dp_same mp _ _ dt
    have m5 := m.trans mp
    generalize upd H' p (.lst [.int 1, .int (-1)]) = H5 at *
    obtain ⟨pc, rfl, sc⟩ := dp_t3 dt'
    obtain ⟨pd, rfl, sd⟩ := dp_t3 du'
    refine ⟨_, rfl, _, rfl, pc, pd, _, _, rfl, .inr ⟨sc, sd, fun D hD => ?_⟩⟩
    refine lc_it (walk_zipT (n := 3) (K := K) (a := pc) (b := pd) (xs := [V.int t1.1, V.int t1.2.1, V.int t1.2.2]) (ys := [V.int tu.1, V.int tu.2.1, V.int tu.2.2]) rfl rfl) (fun i H' => Grown K H5 D (((t3l (tScale t1 tu s)).take i).map PyData.int) H') (Grown.start hD) (fun i H' _ g => ⟨Same.tup g.same sc, Same.tup g.same sd⟩) ?_ ?_
    · rintro i z H6 H7 hi g ⟨T, x1, y1, rfl, nT, rfl, g1, g2⟩
      have g1 : [V.int t1.1, V.int t1.2.1, V.int t1.2.2][i]? = some x1 := g1
      have g2 : [V.int tu.1, V.int tu.2.1, V.int tu.2.2][i]? = some y1 := g2
      obtain ⟨n1, n2, rfl, rfl, en, by2⟩ : ∃ n1 n2 : Int, x1 = .int n1 ∧ y1 = .int n2 ∧ (t3l (tScale t1 tu s))[i]? = some (n1 + s * n2) ∧ n2.natAbs ≤ 1 := by
        match i, g1, g2 with
        | 0, g1, g2 => cases g1; cases g2; exact ⟨_, _, rfl, rfl, rfl, bu.1⟩
        | 1, g1, g2 => cases g1; cases g2; exact ⟨_, _, rfl, rfl, rfl, bu.2.1⟩
        | 2, g1, g2 => cases g1; cases g2; exact ⟨_, _, rfl, rfl, rfl, bu.2.2⟩
        | i + 3, g1, _ => simp at g1
      have mT : Same H6 (upd H6 T (.tup [.int n1, .int n2])) := same_new nT _
      have gT := g.step mT
      refine ⟨T, [.int n1, .int n2], rfl, SqT.of upd_same, rfl, .int n1, [.int n2], rfl, .int n2, [], rfl, rfl, rfl, ?_⟩
      refine tyes_if ?_
      refine ⟨_, rfl, _, rfl, _, rfl, _, _, rfl, rfl, mulNat (n := 1) (m := 1) (by omega) (by omega), _, _, rfl, rfl, ?_⟩
      obtain ⟨acc, k1, k2, k3⟩ := gT.more (gT.hid (d := .int (n1 + s * n2)) rfl (.int _))
      refine ⟨acc, k1, ?_, ?_⟩
      · rw [k2, List.length_map, List.length_take]; exact line_small (by omega)
      · rw [List.take_add_one, en, List.map_append]
        exact k3
    · intro H6 g
      have el : (t3l (tScale t1 tu s)).take 3 = t3l (tScale t1 tu s) := rfl
      rw [el] at g
      obtain ⟨acc, k1, k2⟩ := g.ex
      refine .inl ⟨D, acc, rfl, SqL.of k1, fun p hp => ?_⟩
      refine ⟨.ref p, tScale t1 tu s, _, _, rfl, m5.trans (g.same.trans (same_new hp _)), ?_, ?_⟩
      · exact (bt.scale bu (show s.natAbs ≤ 1 by omega)).mono (by omega)
      · exact .tup (SqT.of upd_same) (dpAll_same ((hide_sub D H6).trans (same_new hp _)) _ _ k2)
  · obtain ⟨v1, t1, y2, y3, rfl, m, bt, dt⟩ := hI
    exact ⟨_, rfl, q t1 v1 _ (m3.trans (kk.trans m)) bt dt⟩
end
end Yd

set_option Elab.async false
set_option linter.all false
set_option maxRecDepth 100000
set_option maxHeartbeats 4000000
namespace Yd
open PySem PySem.Spec PyProof.Rows L2 Dial
theorem PL.pb {n m k : Nat} {p : Pl} (h : PL n m p) (a : n < 2 ^ k) (b : m < 2 ^ k) : PB k p := ⟨h.1.tb a, h.2.1.tb b, h.2.2.tb b⟩
theorem pick3 {K : PySem.W.Frag} {H : Hp} {x1 x2 x3 : V} {t1 t2 t3 : T3} {n : Nat} (d1 : Dp K H x1 (dT t1)) (d2 : Dp K H x2 (dT t2)) (d3 : Dp K H x3 (dT t3)) (b1 : TL n t1) (b2 : TL n t2) (b3 : TL n t3) {r : Int} (r0 : 0 ≤ r) (r1 : r < 3) :
    ∃ x t, atI [x1, x2, x3] r = some x ∧ Dp K H x (dT t) ∧ TL n t := by
  have : r = 0 ∨ r = 1 ∨ r = 2 := by omega
  rcases this with rfl | rfl | rfl
  · exact ⟨x1, t1, atI_nat (j := 0) rfl, d1, b1⟩
  · exact ⟨x2, t2, atI_nat (j := 1) rfl, d2, b2⟩
  · exact ⟨x3, t3, atI_nat (j := 2) rfl, d3, b3⟩
section
variable {P : Program} {w : World} {K : PySem.W.Frag} {mg : Str → Option Value} {base : Heap}
theorem ok_about (D : Df K mg "_law_about" (topS 63) ["_law_plate_here", "_law_direction", "_law_cell"]) (hS : Has P w K mg base 1 "_law_sum" (spLSum K)) (hD : Has P w K mg base 1 "_law_draw" spDraw) (hP : Has P w K mg base 4 "_law_plate" (spPlate K))
    (hC : Has P w K mg base 1 "_law_cross" (spT2 K tCrs)) (hF : Has P w K mg base 1 "_law_far" (spFar K)) : Has P w K mg base 5 "_law_about" (spAbout K) := by
  have S : FnScope ["_law_plate_here", "_law_direction", "_law_cell", "_law_corner", "_law_made", "_law_side", "_law_other"] ["_law_plate_here", "_law_direction", "_law_cell"] (defScope (topS 63)) := ⟨rfl, rfl, rfl, by decide +kernel, rfl, by decide +kernel, by decide +kernel⟩
  refine has0 D S (by rintro _ _ _ _ ⟨_, _, _, _, _, rfl, _⟩; rfl) (fun f cdv A outer s H vs Q E hr h => ?_)
  obtain ⟨v, u, p, d, c, rfl, d1, d2, bp, bd, q⟩ := h
  obtain ⟨pa, c1, c2, c3, rfl, sa, e1, e2, e3⟩ := dp_pl d1
  refine ⟨_, pss_cons (ps_set (i := 3) S.nd rfl (.inl rfl) (pe_h hS hr (by decide) (by rfl) (pa_cons (pe_ix ix_tup (pv 0) pe_int (fun _ _ => rfl)) (pa_cons (pe_ix ix_tup (pv 0) pe_int (fun _ _ => rfl)) (pa_cons (pe_op op_sub (pe_h hD hr (by decide) (by rfl) (pa_cons (pv 2) (pa_cons pe_int (pa_cons pe_int pa_nil)))) pe_int) pa_nil)))))
    (pss_cons (ps_set (i := 3) S.nd rfl (.inl rfl) (pe_h hS hr (by decide) (by rfl) (pa_cons (pv 3) (pa_cons (pe_ix ix_tup (pv 0) pe_int (fun _ _ => rfl)) (pa_cons (pe_op op_sub (pe_h hD hr (by decide) (by rfl) (pa_cons (pv 2) (pa_cons pe_int (pa_cons pe_int pa_nil)))) pe_int) pa_nil)))))
    (pss_cons (ps_set (i := 3) S.nd rfl (.inl rfl) (pe_h hS hr (by decide) (by rfl) (pa_cons (pv 3) (pa_cons (pv 1) (pa_cons (pe_op op_add pe_int (pe_h hD hr (by decide) (by rfl) (pa_cons (pv 2) (pa_cons pe_int (pa_cons pe_int pa_nil))))) pa_nil)))))
    (pss_cons (ps_set (i := 4) S.nd rfl (.inl rfl) (pe_h hP hr (by decide) (by rfl) (pa_cons (pv 2) (pa_cons pe_int pa_nil))))
    (pss_cons (ps_set (i := 5) S.nd rfl (.inl rfl) (pe_ix ix_list (pe_lst (pa_cons (pe_ix ix_tup (pv 4) pe_int (fun _ _ => rfl)) (pa_cons (pe_ix ix_tup (pv 0) pe_int (fun _ _ => rfl)) (pa_cons (pe_h hS hr (by decide) (by rfl) (pa_cons (pe_ix ix_tup (pv 0) pe_int (fun _ _ => rfl)) (pa_cons (pe_ix ix_tup (pv 4) pe_int (fun _ _ => rfl)) (pa_cons pe_int pa_nil)))) pa_nil))))
      (pe_h hD hr (by decide) (by rfl) (pa_cons (pv 2) (pa_cons pe_int (pa_cons pe_int pa_nil)))) (fun _ _ => rfl)))
    (pss_cons (ps_set (i := 6) S.nd rfl (.inl rfl) (pe_ix ix_list (pe_lst (pa_cons (pe_ix ix_tup (pv 4) pe_int (fun _ _ => rfl)) (pa_cons (pe_ix ix_tup (pv 0) pe_int (fun _ _ => rfl)) (pa_cons (pe_h hS hr (by decide) (by rfl) (pa_cons (pe_ix ix_tup (pv 0) pe_int (fun _ _ => rfl)) (pa_cons (pe_ix ix_tup (pv 4) pe_int (fun _ _ => rfl)) (pa_cons pe_int pa_nil)))) pa_nil))))
      (pe_h hD hr (by decide) (by rfl) (pa_cons (pv 2) (pa_cons pe_int (pa_cons pe_int pa_nil)))) (fun _ _ => rfl)))
    (pss_cons (ps_if (PW.pt (pw_or (pt_cmpR (op_eqD hr.units) (pe_h hC hr (by decide) (by rfl) (pa_cons (pv 5) (pa_cons (pv 6) pa_nil))) (pe_tup (pa_cons pe_int (pa_cons pe_int (pa_cons pe_int pa_nil)))) (nomark _))
        (pw_or1 (pt_val (pe_h hF hr (by decide) (by rfl) (pa_cons (pe_lst (pa_cons (pv 3) (pa_cons (pv 5) (pa_cons (pv 6) pa_nil)))) pa_nil)))))) (pss_one (ps_ret (pv 4))) pss_nil)
    (pss_one (ps_ret (pe_tup (pa_cons (pv 3) (pa_cons (pv 5) (pa_cons (pv 6) pa_nil)))))))))))), ?_⟩
  -- the corner
  refine ⟨_, rfl, pa, _, 0, _, rfl, rfl, sa, atI_nat (j := 0) rfl, _, rfl, pa, _, 1, _, rfl, rfl, sa, atI_nat (j := 1) rfl, _, rfl, c, 41, 4, rfl, by decide, by decide, by decide, fun r r0 r1 => ?_⟩
  refine ⟨_, _, rfl, rfl, _, _, _, _, _, rfl, e1, e2, bp.2.1.tb (by decide), Nat.lt_of_le_of_lt (show (r - 2).natAbs ≤ 2 by omega) (by decide), fun v1 H1 m1 f1 => ?_⟩
  have t1 : TL 180 (tScale p.1 p.2.1 (r - 2)) := (bp.1.scale bp.2.1 (show (r - 2).natAbs ≤ 2 by omega)).mono (by decide)
  generalize tScale p.1 p.2.1 (r - 2) = z1 at *
  refine ⟨_, rfl, _, rfl, pa, _, 2, _, rfl, rfl, Same.tup m1 sa, atI_nat (j := 2) rfl, _, rfl, c, 42, 4, rfl, by decide, by decide, by decide, fun r r0 r1 => ?_⟩
  refine ⟨_, _, rfl, rfl, _, _, _, _, _, rfl, f1, dp_same m1 _ _ e3, bp.2.2.tb (by decide), Nat.lt_of_le_of_lt (show (r - 2).natAbs ≤ 2 by omega) (by decide), fun v2 H2 k2 f2 => ?_⟩
  have m2 := m1.trans k2
  have t2 : TL 300 (tScale z1 p.2.2 (r - 2)) := (t1.scale bp.2.2 (show (r - 2).natAbs ≤ 2 by omega)).mono (by decide)
  generalize tScale z1 p.2.2 (r - 2) = z2 at *
  refine ⟨_, rfl, _, rfl, _, rfl, c, 43, 3, rfl, by decide, by decide, by decide, fun r r0 r1 => ?_⟩
  refine ⟨_, _, rfl, rfl, _, _, _, _, _, rfl, f2, dp_same m2 _ _ d2, bd.tb (by decide), Nat.lt_of_le_of_lt (show (1 + r).natAbs ≤ 3 by omega) (by decide), fun v3 H3 k3 f3 => ?_⟩
  have m3 := m2.trans k3
  have t3 : TL 489 (tScale z2 d (1 + r)) := (t2.scale bd (show (1 + r).natAbs ≤ 3 by omega)).mono (by decide)
  generalize tScale z2 d (1 + r) = z3 at *
  -- what is made
  refine ⟨_, rfl, c, 20, rfl, by decide, by decide, fun pm vm H4 k4 bm dm => ?_⟩
  have m4 := m3.trans k4
  obtain ⟨pb, g1, g2, g3, rfl, sb, h1, h2, h3⟩ := dp_pl dm
  have f3 := dp_same k4 _ _ f3
  -- side
  refine ⟨_, rfl, pb, _, 1, _, rfl, rfl, sb, atI_nat (j := 1) rfl, _, rfl, pa, _, 1, _, rfl, rfl, Same.tup m4 sa, atI_nat (j := 1) rfl, ?_⟩
  refine ⟨_, rfl, pa, _, 1, _, rfl, rfl, Same.tup m4 sa, atI_nat (j := 1) rfl, _, rfl, pb, _, 1, _, rfl, rfl, sb, atI_nat (j := 1) rfl, ?_⟩
  refine ⟨_, _, _, _, _, rfl, dp_same m4 _ _ e2, h2, bm.2.1.tb (by decide), by decide, fun v5 H5 k5 f5 => ?_⟩
  have t5 : TL 120 (tScale p.2.1 pm.2.1 1) := bp.2.1.scale bm.2.1 (show (1 : Int).natAbs ≤ 1 by decide)
  refine ⟨(by show 3 ≤ sizeLine; decide), fun p6 hp6 => ?_⟩
  have k6 := same_new hp6 (.lst [g2, c2, v5])
  have m6 := m4.trans (k5.trans k6)
  have k46 := k5.trans k6
  refine ⟨_, rfl, c, 45, 3, rfl, by decide, by decide, by decide, fun r r0 r1 => ?_⟩
  obtain ⟨xs, ts, as, ds, bs⟩ := pick3 (dp_same k46 _ _ h2) (dp_same m6 _ _ e2) (dp_same k6 _ _ f5) (bm.2.1.mono (by decide : 60 ≤ 120)) (bp.2.1.mono (by decide)) t5 r0 r1
  refine ⟨p6, _, r, xs, rfl, rfl, SqL.of upd_same, as, ?_⟩
  generalize upd H5 p6 (.lst [g2, c2, v5]) = H6 at *
  -- other
  refine ⟨_, rfl, pb, _, 2, _, rfl, rfl, Same.tup k46 sb, atI_nat (j := 2) rfl, _, rfl, pa, _, 2, _, rfl, rfl, Same.tup m6 sa, atI_nat (j := 2) rfl, ?_⟩
  refine ⟨_, rfl, pa, _, 2, _, rfl, rfl, Same.tup m6 sa, atI_nat (j := 2) rfl, _, rfl, pb, _, 2, _, rfl, rfl, Same.tup k46 sb, atI_nat (j := 2) rfl, ?_⟩
  refine ⟨_, _, _, _, _, rfl, dp_same m6 _ _ e3, dp_same k46 _ _ h3, bm.2.2.tb (by decide), by decide, fun v7 H7 k7 f7 => ?_⟩
  have t7 : TL 120 (tScale p.2.2 pm.2.2 1) := bp.2.2.scale bm.2.2 (show (1 : Int).natAbs ≤ 1 by decide)
  refine ⟨(by show 3 ≤ sizeLine; decide), fun p8 hp8 => ?_⟩
  have k8 := same_new hp8 (.lst [g3, c3, v7])
  have k68 := k7.trans k8
  have m8 := m6.trans k68
  refine ⟨_, rfl, c, 46, 3, rfl, by decide, by decide, by decide, fun r r0 r1 => ?_⟩
  obtain ⟨xo, to, ao, do', bo⟩ := pick3 (dp_same (k46.trans k68) _ _ h3) (dp_same m8 _ _ e3) (dp_same k8 _ _ f7) (bm.2.2.mono (by decide : 60 ≤ 120)) (bp.2.2.mono (by decide)) t7 r0 r1
  refine ⟨p8, _, r, xo, rfl, rfl, SqL.of upd_same, ao, ?_⟩
  generalize upd H7 p8 (.lst [g3, c3, v7]) = H8 at *
  have ds8 := dp_same k68 _ _ ds
  have f38 := dp_same (k46.trans k68) _ _ f3
  have dm8 := dp_same (k46.trans k68) _ _ dm
  -- which is given back
  refine ⟨_, rfl, _, rfl, _, _, _, _, rfl, ds8, do', bs.tb (by decide), bo.tb (by decide), fun v9 H9 k9 f9 => ?_⟩
  refine ⟨(by show 3 ≤ sizeLine; decide), fun p10 hp10 => ?_⟩
  have k10 := same_new hp10 (.tup [.int 0, .int 0, .int 0])
  have k910 := k9.trans k10
  refine ⟨_, _, dp_same k10 _ _ f9, dp_unit upd_same, shaped_t3 _, shaped_t3 _, _, rfl, ite2 (fun _ => ?_) (fun _ => ?_)⟩
  · refine iteT ?_
    exact ⟨_, rfl, q pm _ _ (m8.trans k910) ⟨bm.1.mono (by decide), bm.2.1.mono (by decide), bm.2.2.mono (by decide)⟩ (dp_same k910 _ _ dm8)⟩
  refine ⟨_, rfl, _, rfl, _, rfl, (by show 3 ≤ sizeLine; decide), fun p11 hp11 => ?_⟩
  have k11 := same_new hp11 (.lst [v3, xs, xo])
  have k811 := k910.trans k11
  refine ⟨_, [z3, ts, to], rfl, .lst (SqL.of upd_same) (.cons (dp_same k811 _ _ f38) (.cons (dp_same k811 _ _ ds8) (.cons (dp_same k811 _ _ do') .nil))), (show 3 ≤ 1000 by decide), fun b H12 k12 => ?_⟩
  have k812 := k811.trans k12
  refine ⟨_, rfl, ?_⟩
  cases b with
  | true =>
    refine iteT ?_
    exact ⟨_, rfl, q pm _ _ (m8.trans k812) ⟨bm.1.mono (by decide), bm.2.1.mono (by decide), bm.2.2.mono (by decide)⟩ (dp_same k812 _ _ dm8)⟩
  | false =>
    refine iteF ?_
    refine ⟨_, rfl, _, rfl, _, rfl, (by show 3 ≤ sizeLine; decide), fun p13 hp13 => ?_⟩
    have k13 := same_new hp13 (.tup [v3, xs, xo])
    have kk := k812.trans k13
    exact q (z3, ts, to) _ _ (m8.trans kk) ⟨t3, bs, bo⟩ (.tup (SqT.of upd_same) (.cons (dp_same kk _ _ f38) (.cons (dp_same kk _ _ ds8) (.cons (dp_same kk _ _ do') .nil))))
theorem ok_tip (D : Df K mg "_law_tip" (topS 64) ["_law_plate_here", "_law_cell"]) (mt : mg "tuple" = none) (mr : mg "range" = none) (hC : Has P w K mg base 1 "_law_cross" (spT2 K tCrs)) (hA : Has P w K mg base 2 "_law_ahead" (spLAhead K)) (hD : Has P w K mg base 1 "_law_draw" spDraw)
    (hS : Has P w K mg base 1 "_law_sum" (spLSum K)) (hF : Has P w K mg base 1 "_law_far" (spFar K)) : Has P w K mg base 5 "_law_tip" (spTip K) := by
  have S : FnScope ["_law_plate_here", "_law_cell", "_law_front", "_law_near", "_law_tip_here", "_law_k"] ["_law_plate_here", "_law_cell"] (defScope (topS 64)) := ⟨rfl, rfl, rfl, by decide +kernel, rfl, by decide +kernel, by decide +kernel⟩
  refine has0 D S (by rintro _ _ _ _ ⟨_, _, _, rfl, _⟩; rfl) (fun f cdv A outer s H vs Q E hr h => ?_)
  obtain ⟨v, p, c, rfl, d1, bp, qn, q⟩ := h
  obtain ⟨pa, c1, c2, c3, rfl, sa, e1, e2, e3⟩ := dp_pl d1
  refine ⟨_, pss_cons (ps_set (i := 2) S.nd rfl (.inl rfl) (pe_h hC hr (by decide) (by rfl) (pa_cons (pe_ix ix_tup (pv 0) pe_int (fun _ _ => rfl)) (pa_cons (pe_ix ix_tup (pv 0) pe_int (fun _ _ => rfl)) pa_nil))))
    (pss_cons (ps_set (i := 3) S.nd rfl (.inl rfl) (pe_h hA hr (by decide) (by rfl) (pa_cons (pv 2) (pa_cons (pe_tupleOf (by rfl) mt (pe_lc (own := [("_law_k", 5)]) (g := gName 5) (tt := tYes) rfl S.nd (pi_range1 (by rfl) mr (pa_cons pe_int pa_nil))
      (blkOk_by (own := [("_law_k", 5)]) (N := ["_law_plate_here", "_law_cell", "_law_front", "_law_near", "_law_tip_here", "_law_k"]) (sc := defScope (topS 64)) (by decide +kernel))
      (fun _ _ _ _ _ => by exact pg_name (i := 5) S.nd rfl (.inl rfl)) (fun _ _ _ _ _ => pts_nil)
      (fun _ _ _ _ _ => by exact pe_op op_sub (pe_h hD hr (by decide) (by rfl) (pa_cons (pv 1) (pa_cons (pe_op op_add pe_int (pv 5)) (pa_cons pe_int pa_nil)))) pe_int))) pa_nil))))
    (pss_cons (ps_set (i := 4) S.nd rfl (.inl rfl) (pe_h hS hr (by decide) (by rfl) (pa_cons (pe_ix ix_tup (pv 0) pe_int (fun _ _ => rfl)) (pa_cons (pv 3) (pa_cons pe_int pa_nil)))))
    (pss_cons (ps_if (pt_val (pe_h hF hr (by decide) (by rfl) (pa_cons (pe_lst (pa_cons (pv 4) pa_nil)) pa_nil))) (pss_one (ps_ret pe_non)) pss_nil)
    (pss_one (ps_ret (pv 4)))))), ?_⟩
  have zc := TB.cross (bp.2.1.tb (k := 7) (by decide)) (bp.2.2.tb (k := 7) (by decide))
  refine ⟨_, rfl, pa, _, 1, _, rfl, rfl, sa, atI_nat (j := 1) rfl, _, rfl, pa, _, 2, _, rfl, rfl, sa, atI_nat (j := 2) rfl, _, _, _, _, rfl, e2, e3, bp.2.1.tb (by decide), bp.2.2.tb (by decide), fun v1 H1 m1 f1 => ?_⟩
  refine ⟨_, rfl, 3, rfl, by decide, by decide, fun D1 hD1 => ?_⟩
  refine lc_range (lo := 0) (n := 3) (fun i H' => ∃ ns : List Int, ns.length = i ∧ (∀ n ∈ ns, n.natAbs ≤ 4) ∧ Grown K H1 D1 (ns.map PyData.int) H') ⟨[], rfl, fun _ h => (by cases h), Grown.start hD1⟩ (fun i H' hi hI => ?_) (fun H2 hI => ?_)
  · obtain ⟨ns, hn, hb, g⟩ := hI
    refine ⟨rfl, ?_⟩
    refine tyes_if ?_
    refine ⟨_, rfl, _, rfl, _, _, rfl, rfl, c, 60 + (0 + (i : Int)), 9, rfl, by omega, by omega, by decide, fun r r0 r1 => ?_⟩
    refine ⟨_, _, rfl, rfl, ?_⟩
    obtain ⟨acc, k1, k2, k3⟩ := g.more (g.hid (d := .int (r - 4)) rfl (.int _))
    refine ⟨acc, k1, ?_, ns ++ [r - 4], by rw [List.length_append, hn]; rfl, fun n hn2 => ?_, ?_⟩
    · rw [k2, List.length_map]; exact line_small (by omega)
    · rcases List.mem_append.mp hn2 with z | z
      · exact hb n z
      · rw [List.mem_singleton.mp z]; omega
    · rw [List.map_append]; exact k3
  obtain ⟨ns, hn, hb, g⟩ := hI
  obtain ⟨n1, n2, n3, rfl⟩ : ∃ a b c, ns = [a, b, c] := by
    match ns, hn with
    | [a, b, c], _ => exact ⟨a, b, c, rfl⟩
  obtain ⟨acc, k1, k2⟩ := g.ex
  refine .inl ⟨D1, acc, rfl, SqL.of k1, fun p3 hp3 => ?_⟩
  have k3 := same_new hp3 (.tup acc)
  have d3 : Dp K (upd H2 p3 (.tup acc)) (.ref p3) (dT (n1, n2, n3)) := .tup (SqT.of upd_same) (dpAll_same ((hide_sub D1 H2).trans k3) _ _ k2)
  have b3 : TL 4 (n1, n2, n3) := ⟨hb _ (by simp), hb _ (by simp), hb _ (by simp)⟩
  have m3 := m1.trans (g.same.trans k3)
  refine ⟨_, _, _, _, 4, rfl, dp_same (g.same.trans k3) _ _ f1, d3, zc.mono (by decide), b3, by decide, fun t4 v4 H4 k4 b4 d4 => ?_⟩
  have m4 := m3.trans k4
  refine ⟨_, rfl, pa, _, 0, _, rfl, rfl, Same.tup m4 sa, atI_nat (j := 0) rfl, _, rfl, _, _, _, _, _, rfl, dp_same m4 _ _ e1, d4, b4.tb (by decide), by decide, fun v5 H5 k5 d5 => ?_⟩
  have m5 := m4.trans k5
  refine ⟨_, rfl, (by show 1 ≤ sizeLine; decide), fun p6 hp6 => ?_⟩
  have k6 := same_new hp6 (.lst [v5])
  refine ⟨_, [tScale p.1 t4 1], rfl, .lst (SqL.of upd_same) (.cons (dp_same k6 _ _ d5) .nil), (show 1 ≤ 1000 by decide), fun b H7 k7 => ?_⟩
  refine ⟨_, rfl, ?_⟩
  cases b with
  | true =>
    refine iteT ?_
    exact qn _ (m5.trans (k6.trans k7))
  | false =>
    refine iteF ?_
    exact ⟨_, rfl, q _ _ _ (m5.trans (k6.trans k7)) (dp_same (k6.trans k7) _ _ d5)⟩
end
end Yd

set_option Elab.async false
set_option linter.all false
set_option maxRecDepth 100000
set_option maxHeartbeats 4000000
namespace Yd
open PySem PySem.Spec PyProof.Rows L2 Dial
/-! ### by the parts -/
abbrev En := Nat × List Pt
abbrev dEn (e : En) : PyData := .tuple [.int (e.1 : Int), dPart e.2]
structure EnOk (i : Nat) (e : En) : Prop where
  good : Good e.2
  bd : Bd nV nL e.2
  len : e.2.length ≤ 96 * i
  num : e.1 ≤ i
def put1 (q : List Pt) (e : En) : En := (e.1 + 1, if 0 < e.1 then both e.2 q else q)
theorem more_put (sm : List En) (q : List Pt) : more sm q = sm ++ sm.map (put1 q) := rfl
theorem EnOk.put {i : Nat} {e : En} {q : List Pt} (h : EnOk i e) (hq : Fine q) : EnOk (i + 1) (put1 q e) := by
  have hl := hq.len
  unfold put1
  by_cases c : 0 < e.1
  · rw [if_pos c]
    have := both_len (Q := q) h.good.vd
    have := h.len
    exact ⟨h.good.both q, Bd.both (by decide) h.good.cc h.bd hq.bd.lns, by dsimp only; omega, Nat.succ_le_succ h.num⟩
  · rw [if_neg c]
    exact ⟨hq.told.ok.1, hq.bd, by dsimp only; omega, Nat.succ_le_succ h.num⟩
theorem EnOk.up {i : Nat} {e : En} (h : EnOk i e) : EnOk (i + 1) e := ⟨h.good, h.bd, by have := h.len; omega, by have := h.num; omega⟩
theorem more_ok {i : Nat} {sm : List En} {q : List Pt} (h : ∀ e ∈ sm, EnOk i e) (hq : Fine q) : ∀ e ∈ more sm q, EnOk (i + 1) e := fun e he => by
  rw [more_put] at he
  rcases List.mem_append.mp he with z | z
  · exact (h e z).up
  · obtain ⟨d, hd, rfl⟩ := List.mem_map.mp z
    exact (h d hd).put hq
def someAt (ps : List (List Pt)) (i : Nat) : List En := (ps.take i).foldl more [(0, [])]
theorem some_step {ps : List (List Pt)} {i : Nat} {q : List Pt} (h : ps[i]? = some q) : someAt ps (i + 1) = more (someAt ps i) q := by
  unfold someAt
  rw [List.take_add_one, h, List.foldl_append]
  rfl
theorem some_ok {ps : List (List Pt)} (h : ∀ p ∈ ps, Fine p) : ∀ i, i ≤ ps.length → (∀ e ∈ someAt ps i, EnOk i e) ∧ (someAt ps i).length = 2 ^ i
  | 0, _ => by
    refine ⟨fun e he => ?_, rfl⟩
    rw [List.mem_singleton.mp he]
    exact ⟨Good.nil, ⟨fun z hz => (by cases hz), fun e he => (by cases he)⟩, Nat.le_refl _, Nat.le_refl _⟩
  | i + 1, hi => by
    obtain ⟨h1, h2⟩ := some_ok h i (by omega)
    rw [some_step (List.getElem?_eq_getElem (show i < ps.length by omega))]
    refine ⟨more_ok h1 (h _ (List.getElem_mem _)), ?_⟩
    rw [more_put, List.length_append, List.length_map, h2, Nat.pow_succ]
    omega
abbrev wgt (e : En) : Rat := sgn e.1 * share e.2
theorem wgt_num (e : En) : (wgt e).num = (if (e.1 + 1) % 2 = 0 then 0 - (share e.2).num else (share e.2).num) ∧ (wgt e).den = (share e.2).den := by
  unfold wgt sgn
  by_cases c : (e.1 + 1) % 2 = 0
  · rw [if_pos c, if_pos c, show (-1 : Rat) * share e.2 = -share e.2 by grind]
    rw [Rat.neg_num, Rat.neg_den, Int.zero_sub]
    exact ⟨rfl, rfl⟩
  · rw [if_neg c, if_neg c, Rat.one_mul]
    exact ⟨rfl, rfl⟩
theorem wgt_ht {e : En} (h : EnOk 3 e) : Ht (LB 0) (wgt e) := by
  have hs := share_lb h.bd (Nat.le_trans h.len (by decide)) 0
  obtain ⟨a, b⟩ := wgt_num e
  unfold Ht at *
  rw [a, b]
  refine ⟨?_, hs.2⟩
  have := hs.1
  split <;> omega
theorem EnOk.to3 {i : Nat} {e : En} (h : EnOk i e) (hi : i ≤ 3) : EnOk 3 e := ⟨h.good, h.bd, by have := h.len; omega, by have := h.num; omega⟩
/-- a tuple that is laid while a list grows -/
theorem Grown.tup {K : PySem.W.Frag} {B H : Hp} {D T : Addr} {ds es : List PyData} {xs : List V} (g : Grown K B D ds H) (hT : H T = none) (h : DpAll K (hide D H) xs es) : Dp K (hide D (upd H T (.tup xs))) (.ref T) (.tuple es) := by
  obtain ⟨acc, h1, _⟩ := g.ex
  have nT : T ≠ D := fun z => by subst z; rw [hT] at h1; cases h1
  refine .tup (xs := xs) (SqT.of ?_) ?_
  · rw [hide_ne nT]; exact upd_same
  · exact dpAll_same (hide_hide (same_new hT _)) _ _ h
theorem Grown.tup' {K : PySem.W.Frag} {B H : Hp} {D T : Addr} {ds : List PyData} {xs : List V} (g : Grown K B D ds H) (hT : H T = none) : Grown K B D ds (upd H T (.tup xs)) := g.step (same_new hT _)
theorem dp_en {K : PySem.W.Frag} {H : Hp} {v : V} {e : En} (h : Dp K H v (dEn e)) : ∃ a p, v = .ref a ∧ SqT K H a [.int (e.1 : Int), p] ∧ Dp K H p (dPart e.2) := by
  obtain ⟨a, xs, rfl, hs, ha⟩ := dp_tup h
  obtain ⟨x, y, rfl, h1, h2⟩ := all2 ha
  rw [dp_int h1] at hs
  exact ⟨a, y, rfl, hs, h2⟩
abbrev spLLeft (K : PySem.W.Frag) : Sp := fun vs H Q _ => ∃ (v : V) (ps : List (List Pt)), vs = [v] ∧ Dp K H v (.list (ps.map dPart)) ∧ (∀ p ∈ ps, Fine p) ∧ ps.length ≤ 3 ∧ Gives K H Q (dR (lawLeft ps))
section
variable {P : Program} {w : World} {K : PySem.W.Frag} {mg : Str → Option Value} {base : Heap}
theorem ok_lleft (D : Df K mg "_law_left" (topS 65) ["_law_parts"]) (hB : Has P w K mg base 45 "both_of" (spBoth K)) (hS : Has P w K mg base 43 "share_of" (spShare K)) (hA : Has P w K mg base 42 "_law_add" (spRat2 K (fun _ _ => True) (fun x y => x + y))) : Has P w K mg base 46 "_law_left" (spLLeft K) := by
  have S : FnScope ["_law_parts", "_law_found", "_law_some", "_law_part", "_law_more", "_law_many", "_law_inner", "_law_both", "_law_share"] ["_law_parts"] (defScope (topS 65)) := ⟨rfl, rfl, rfl, by decide +kernel, rfl, by decide +kernel, by decide +kernel⟩
  refine has0 D S (by rintro _ _ _ _ ⟨_, _, rfl, _⟩; rfl) (fun f cdv A outer s H vs Q E hr h => ?_)
  obtain ⟨v, ps, rfl, d1, hf, hn, q⟩ := h
  obtain ⟨a, xs, rfl, sa, da⟩ := dp_lst d1
  have hx : xs.length = ps.length := map_len da
  refine ⟨_, pss_cons (ps_set (i := 1) S.nd rfl (.inl rfl) (pe_tup (pa_cons pe_int (pa_cons pe_int pa_nil))))
    (pss_cons (ps_set (i := 2) S.nd rfl (.inl rfl) (pe_lst (pa_cons (pe_tup (pa_cons pe_int (pa_cons (pe_lst pa_nil) pa_nil))) pa_nil)))
    (pss_cons (ps_for PassesOwn.never rfl (pi_list (pv 0)) (pg_name (i := 3) S.nd rfl (.inl rfl))
      (pss_cons (ps_set (i := 4) S.nd rfl (.inl rfl) (pe_lst pa_nil))
      (pss_cons (ps_for PassesOwn.never rfl (pi_list (pv 2)) (pg_tup rfl (pgs_cons (pg_name (i := 5) S.nd rfl (.inl rfl)) (pgs_cons (pg_name (i := 6) S.nd rfl (.inl rfl)) pgs_nil)))
        (pss_cons (ps_set (i := 7) S.nd rfl (.inl rfl) (pv 3))
        (Evl.pss_cut (ps_if (pt_cmpR op_gt (pv 5) pe_int (nomark _)) (pss_one (ps_set (i := 7) S.nd rfl (.inl rfl) (pe_h hB hr (by decide) (by rfl) (pa_cons (pv 6) (pa_cons (pv 3) pa_nil))))) pss_nil)
        (pss_one (ps_expr (pe_bm PySem.F.plainAttrs_list PySem.F.slot_list_append PySem.F.type_list_append mt_append (pv 4) (pa_cons (pe_tup (pa_cons (pe_op op_add (pv 5) pe_int) (pa_cons (pv 7) pa_nil))) pa_nil)))))))
      (pss_one (ps_set (i := 2) S.nd rfl (.inl rfl) (pe_op op_cat (pv 2) (pv 4)))))))
    (pss_cons (ps_for PassesOwn.never rfl (pi_list (pe_slice sl_list (pv 2) (po_some pe_int) po_none)) (pg_tup rfl (pgs_cons (pg_name (i := 5) S.nd rfl (.inl rfl)) (pgs_cons (pg_name (i := 3) S.nd rfl (.inl rfl)) pgs_nil)))
      (pss_cons (ps_set (i := 8) S.nd rfl (.inl rfl) (pe_h hS hr (by decide) (by rfl) (pa_cons (pv 3) pa_nil)))
      (pss_one (ps_set (i := 1) S.nd rfl (.inl rfl) (pe_h hA hr (by decide) (by rfl) (pa_cons (pv 1) (pa_cons (pe_tup (pa_cons
        (pe_ix ix_list (pe_lst (pa_cons (pe_op op_sub pe_int (pe_ix ix_tup (pv 8) pe_int (fun _ _ => rfl))) (pa_cons (pe_ix ix_tup (pv 8) pe_int (fun _ _ => rfl)) pa_nil))) (pe_op op_mod (pe_op op_add (pv 5) pe_int) pe_int) (fun _ _ => rfl))
        (pa_cons (pe_ix ix_tup (pv 8) pe_int (fun _ _ => rfl)) pa_nil))) pa_nil)))))))
    (pss_one (ps_ret (pv 1)))))), ?_⟩
  refine ⟨(by show 2 ≤ sizeLine; decide), fun p1 hp1 => ?_⟩
  have k1 := same_new hp1 (.tup [.int 1, .int 1])
  refine ⟨Nat.zero_le _, fun p2 hp2 => ⟨(by show 2 ≤ sizeLine; decide), fun p3 hp3 => ⟨(by show 1 ≤ sizeLine; decide), fun p4 hp4 => ?_⟩⟩⟩
  have k2 := same_new hp2 (.lst [])
  have k3 := same_new hp3 (.tup [.int 0, .ref p2])
  have k4 := same_new hp4 (.lst [.ref p3])
  have dfound : Dp K (upd H p1 (.tup [.int 1, .int 1])) (.ref p1) (dR 1) := int_dp (n := 1) (SqT.of upd_same)
  have dp0 : DpAll K (upd (upd (upd (upd H p1 (.tup [.int 1, .int 1])) p2 (.lst [])) p3 (.tup [.int 0, .ref p2])) p4 (.lst [.ref p3])) [.ref p3] ((someAt ps 0).map dEn) :=
    .cons (dp_same k4 _ _ (.tup (SqT.of upd_same) (.cons (.int _) (.cons (dp_same k3 _ _ (nil_dp upd_same)) .nil)))) .nil
  have m4 := k1.trans (k2.trans (k3.trans k4))
  have df4 := dp_same (k2.trans (k3.trans k4)) _ _ dfound
  have hp4s : (upd (upd (upd (upd H p1 (.tup [.int 1, .int 1])) p2 (.lst [])) p3 (.tup [.int 0, .ref p2])) p4 (.lst [.ref p3])) p4 = some (.lst [.ref p3]) := upd_same
  generalize upd (upd (upd (upd H p1 (.tup [.int 1, .int 1])) p2 (.lst [])) p3 (.tup [.int 0, .ref p2])) p4 (.lst [.ref p3]) = H4 at *
  refine ⟨_, rfl, a, rfl, ⟨xs, m4.seq sa⟩, ?_⟩
  refine for_list (K := K) (a := a) (xs := xs) (fun i σ H' => ∃ (s : Addr) (ys : List V) (y3 y4 y5 y6 y7 : Option V), σ = [some (.ref a), some (.ref p1), some (.ref s), y3, y4, y5, y6, y7, none] ∧ Same H4 H' ∧ H' s = some (.lst ys) ∧ DpAll K H' ys ((someAt ps i).map dEn))
    ⟨p4, _, none, none, none, none, none, rfl, Same.refl _, hp4s, dp0⟩ (fun i σ H' _ hI => ?_) (fun i x σ H' gx hI => ?_) (fun σ H' hI => ?_)
  · obtain ⟨_, _, _, _, _, _, _, _, m, _⟩ := hI; exact (m4.trans m).seq sa
  · obtain ⟨s, ys, y3, y4, y5, y6, y7, rfl, m, hs, dys⟩ := hI
    have hi : i < ps.length := by rw [← hx]; exact (List.getElem?_eq_some_iff.mp gx).1
    obtain ⟨x', gx', dx⟩ := map_get da hi
    have ex : x = x' := Option.some.inj (gx.symm.trans gx')
    subst ex
    obtain ⟨okS, lenS⟩ := some_ok hf i (by omega)
    have hfi := hf _ (List.getElem_mem hi)
    rw [some_step (List.getElem?_eq_getElem hi), more_put]
    generalize ps[i] = pq at *
    generalize someAt ps i = sm at *
    have dx' := dp_same (m4.trans m) _ _ dx
    have hys : ys.length = sm.length := map_len dys
    have hsm : sm.length ≤ 8 := by
      rw [lenS]
      have : i = 0 ∨ i = 1 ∨ i = 2 := by omega
      rcases this with rfl | rfl | rfl <;> decide
    refine ⟨Nat.zero_le _, fun o no => ?_⟩
    refine ⟨_, rfl, s, rfl, ⟨ys, SqL.of (same_new no _ _ _ hs)⟩, ?_⟩
    refine for_list (K := K) (a := s) (xs := ys) (fun j σ H6 => ∃ (y5 y6 y7 : Option V), σ = [some (.ref a), some (.ref p1), some (.ref s), some x, some (.ref o), y5, y6, y7, none] ∧ Grown K H' o (((sm.take j).map (put1 pq)).map dEn) H6)
      ⟨y5, y6, y7, rfl, Grown.start no⟩ (fun j σ H6 _ hJ => ?_) (fun j z σ H6 gz hJ => ?_) (fun σ H6 hJ => ?_)
    · obtain ⟨_, _, _, _, g⟩ := hJ; exact SqL.of (g.same _ _ hs)
    · obtain ⟨y5, y6, y7, rfl, g⟩ := hJ
      have hj : j < sm.length := by rw [← hys]; exact (List.getElem?_eq_some_iff.mp gz).1
      obtain ⟨z', gz', dz⟩ := map_get dys hj
      have ez : z = z' := Option.some.inj (gz.symm.trans gz')
      subst ez
      have oke := okS _ (List.getElem_mem hj)
      have estep : (sm.take (j + 1)).map (put1 pq) = (sm.take j).map (put1 pq) ++ [put1 pq sm[j]] := by
        rw [List.take_add_one, List.getElem?_eq_getElem hj, List.map_append]; rfl
      have hle : ((sm.take j).map (put1 pq)).length ≤ 8 := by rw [List.length_map, List.length_take]; omega
      rw [estep]
      generalize (sm.take j).map (put1 pq) = F at *
      generalize sm[j] = e at *
      obtain ⟨b, pi, rfl, sb, dpi⟩ := dp_en dz
      refine ⟨b, _, rfl, Same.tup g.same sb, rfl, _, _, rfl, _, _, rfl, rfl, ?_⟩
      refine ⟨_, rfl, ?_⟩
      refine ⟨fun σ' H7 => ∃ (vb : V), σ' = [some (.ref a), some (.ref p1), some (.ref s), some x, some (.ref o), some (.int (e.1 : Int)), some pi, some vb, none] ∧ Grown K H' o (F.map dEn) H7 ∧ Dp K (hide o H7) vb (dPart (put1 pq e).2), ?_, ?_⟩
      · refine ⟨_, rfl, _, _, rfl, rfl, _, rfl, ?_⟩
        unfold put1
        by_cases c : 0 < e.1
        · rw [decide_eq_true (show (0 : Int) < (e.1 : Int) by omega)]
          refine iteT ?_
          refine ⟨_, rfl, _, rfl, _, _, e.2, pq, rfl, dp_same g.same _ _ dpi, dp_same g.same _ _ dx', oke.good.cc, oke.good.vd, oke.bd, hfi.bd.pts, hfi.bd.lns, ?_, fun p8 H8 g8 => ?_⟩
          · have := oke.len
            have := hfi.len
            have h4 : most = 300 := rfl
            omega
          · refine ⟨.ref p8, rfl, g.step g8.same, ?_⟩
            dsimp only
            rw [if_pos c]
            exact g.give g8 (lf_part _)
        · rw [decide_eq_false (show ¬ (0 : Int) < (e.1 : Int) by omega)]
          refine iteF ?_
          refine ⟨x, rfl, g, ?_⟩
          dsimp only
          rw [if_neg c]
          exact g.old dx'
      · rintro σ' H7 ⟨vb, rfl, g7, db⟩
        obtain ⟨acc0, h0, _⟩ := g7.ex
        refine ⟨_, rfl, .inl ⟨rfl, _, SqL.of h0⟩, _, rfl, _, _, rfl, rfl, _, rfl, (by show 2 ≤ sizeLine; decide), fun T hT => ?_⟩
        have g8 := g7.tup' (xs := [.int ((e.1 : Int) + 1), vb]) hT
        have e8 : dEn (put1 pq e) = .tuple [.int ((e.1 : Int) + 1), dPart (put1 pq e).2] := rfl
        have d8 : Dp K (hide o (upd H7 T (.tup [.int ((e.1 : Int) + 1), vb]))) (.ref T) (dEn (put1 pq e)) := by
          rw [e8]
          exact g7.tup hT (.cons (.int _) (.cons db .nil))
        obtain ⟨acc, h1, h2, h3⟩ := g8.more d8
        refine ⟨o, acc, _, rfl, rfl, h1, ?_, _, _, _, rfl, ?_⟩
        · rw [h2, List.length_map]; exact line_small (by omega)
        · rw [List.map_append]; exact h3
    · obtain ⟨y5, y6, y7, rfl, g⟩ := hJ
      rw [hys, List.take_of_length_le (Nat.le_refl _)] at g
      obtain ⟨acc, h1, h2⟩ := g.ex
      have hacc : acc.length = sm.length := by rw [dpAll_len h2, List.length_map, List.length_map]
      refine ⟨_, rfl, _, rfl, s, o, ys, acc, rfl, rfl, g.same _ _ hs, h1, ?_, fun p9 hp9 => ?_⟩
      · rw [hys, hacc, sizeLine_eq]; omega
      · have k9 := same_new hp9 (.lst (ys ++ acc))
        refine ⟨p9, ys ++ acc, _, _, _, _, _, rfl, m.trans (g.same.trans k9), upd_same, ?_⟩
        rw [List.map_append]
        exact dpAll_app (dpAll_same (g.same.trans k9) _ _ dys) (dpAll_same ((hide_sub o H6).trans k9) _ _ h2)
  · obtain ⟨s, ys, y3, y4, y5, y6, y7, rfl, m, hs, dys⟩ := hI
    rw [hx] at dys
    have eAll : someAt ps ps.length = allOf ps := by unfold someAt allOf; rw [List.take_of_length_le (Nat.le_refl _)]
    obtain ⟨okS, lenS⟩ := some_ok hf ps.length (Nat.le_refl _)
    have eLL : lawLeft ps = 1 + sumOf wgt (someAt ps ps.length).tail := by rw [eAll]; rfl
    have hsm : (someAt ps ps.length).length ≤ 8 ∧ 1 ≤ (someAt ps ps.length).length := by
      rw [lenS]
      have : ps.length = 0 ∨ ps.length = 1 ∨ ps.length = 2 ∨ ps.length = 3 := by omega
      rcases this with z | z | z | z <;> rw [z] <;> decide
    have ok3 : ∀ e ∈ (someAt ps ps.length).tail, EnOk 3 e := fun e he => (okS e (List.mem_of_mem_tail he)).to3 hn
    have dtl : DpAll K H' (ys.drop 1) ((someAt ps ps.length).tail.map dEn) := by
      have h := dpAll_drop 1 dys
      rw [← List.map_drop] at h
      have e : (someAt ps ps.length).tail = (someAt ps ps.length).drop 1 := List.drop_one.symm
      rw [e]
      exact h
    have hysl : 1 ≤ ys.length := by rw [map_len dys]; exact hsm.2
    have htl : (someAt ps ps.length).tail.length ≤ 7 := by rw [List.length_tail]; omega
    rw [eLL] at q
    generalize (someAt ps ps.length).tail = tl at *
    refine ⟨_, rfl, _, rfl, s, ys, rfl, SqL.of hs, fun p5 hp5 => ?_⟩
    have ecut : cutV ys (some 1) none = ys.drop 1 := cut_from (α := V) (xs := ys) (k := 1) hysl
    have k5 := same_new hp5 (.lst (cutV ys (some 1) none))
    have s5 : SqL K (upd H' p5 (.lst (cutV ys (some 1) none))) p5 (ys.drop 1) := by rw [← ecut]; exact SqL.of upd_same
    have m5 := m.trans k5
    have dtl5 := dpAll_same k5 _ _ dtl
    generalize upd H' p5 (.lst (cutV ys (some 1) none)) = H5 at *
    have hzl : (ys.drop 1).length = tl.length := map_len dtl5
    refine ⟨p5, rfl, ⟨_, s5⟩, ?_⟩
    refine for_list (K := K) (a := p5) (xs := ys.drop 1) (fun j σ H6 => ∃ (vf : V) (y3 y5 y8 : Option V), σ = [some (.ref a), some vf, some (.ref s), y3, y4, y5, y6, y7, y8] ∧ Same H5 H6 ∧ Dp K H6 vf (dR (1 + sumOf wgt (tl.take j))))
      ⟨.ref p1, y3, y5, none, rfl, Same.refl _, dp_same m5 _ _ (by
        have : (1 : Rat) + sumOf wgt (tl.take 0) = 1 := by show (1 : Rat) + 0 = 1; grind
        rw [this]; exact df4)⟩ (fun j σ H6 _ hJ => ?_) (fun j z σ H6 gz hJ => ?_) (fun σ H6 hJ => ?_)
    · obtain ⟨_, _, _, _, _, mm, _⟩ := hJ; exact mm.seq s5
    · obtain ⟨vf, y3, y5, y8, rfl, mm, df⟩ := hJ
      have hj : j < tl.length := by rw [← hzl]; exact (List.getElem?_eq_some_iff.mp gz).1
      obtain ⟨z', gz', dz⟩ := map_get dtl5 hj
      have ez : z = z' := Option.some.inj (gz.symm.trans gz')
      subst ez
      have oke := ok3 _ (List.getElem_mem hj)
      have hsum := sum_ht wgt (LB 0) tl (fun e he => wgt_ht (ok3 e he)) j (by omega)
      have hsz : Sz (1 + sumOf wgt (tl.take j)) := by
        refine sz_le (ht_add (a := 1) ⟨by decide, by decide⟩ hsum) ?_
        have h1 : j * (LB 0 + 1) ≤ 7 * (LB 0 + 1) := Nat.mul_le_mul_right _ (by omega)
        have h2 : 7 * (LB 0 + 1) ≤ 50000000 := by decide
        omega
      have hw := wgt_ht oke
      have hstep : 1 + sumOf wgt (tl.take (j + 1)) = (1 + sumOf wgt (tl.take j)) + wgt tl[j] := by
        rw [sum_step _ (List.getElem?_eq_getElem hj), Rat.add_assoc]
      rw [hstep]
      generalize 1 + sumOf wgt (tl.take j) = W at *
      generalize tl[j] = e at *
      obtain ⟨b, pi, rfl, sb, dpi⟩ := dp_en dz
      refine ⟨b, _, rfl, Same.tup mm sb, rfl, _, _, rfl, _, _, rfl, rfl, ?_⟩
      refine ⟨_, rfl, _, e.2, rfl, dp_same mm _ _ dpi, oke.bd.pts, Nat.le_trans oke.len (by decide), fun u7 H7 k7 d7 => ?_⟩
      obtain ⟨c, rfl, sc⟩ := dp_rat d7
      refine ⟨_, rfl, _, rfl, c, _, 0, _, rfl, rfl, sc, atI_nat (j := 0) rfl, _, _, rfl, rfl, _, rfl, c, _, 0, _, rfl, rfl, sc, atI_nat (j := 0) rfl, (by show 2 ≤ sizeLine; decide), fun p8 hp8 => ?_⟩
      have k8 := same_new hp8 (.lst [.int (0 - (share e.2).num), .int (share e.2).num])
      obtain ⟨w1, w2⟩ := wgt_num e
      have pick : atI [V.int (0 - (share e.2).num), V.int (share e.2).num] (((e.1 : Int) + 1) % 2) = some (.int (wgt e).num) := by
        rw [w1]
        by_cases c2 : (e.1 + 1) % 2 = 0
        · rw [if_pos c2]
          exact at_of (j := 0) (by omega) rfl
        · rw [if_neg c2]
          exact at_of (j := 1) (by omega) rfl
      refine ⟨_, rfl, _, _, rfl, rfl, _, _, rfl, rfl, (show (0 : Int) < 2 by decide), p8, _, _, _, rfl, rfl, SqL.of upd_same, pick, ?_⟩
      refine ⟨_, rfl, c, _, 1, _, rfl, rfl, Same.tup k8 sc, atI_nat (j := 1) rfl, (by show 2 ≤ sizeLine; decide), fun p9 hp9 => ?_⟩
      have k9 := same_new hp9 (.tup [.int (wgt e).num, .int ((share e.2).den : Int)])
      refine ⟨_, _, W, wgt e, rfl, dp_same (k7.trans (k8.trans k9)) _ _ df, rat_dp (by rw [w2]; exact SqT.of upd_same), hsz, sz_le hw (by decide), trivial, fun u10 H10 k10 d10 => ?_⟩
      exact ⟨u10, _, _, _, rfl, mm.trans (k7.trans (k8.trans (k9.trans k10))), d10⟩
    · obtain ⟨vf, y3, y5, y8, rfl, mm, df⟩ := hJ
      rw [hzl, List.take_of_length_le (Nat.le_refl _)] at df
      exact ⟨vf, rfl, q vf H6 (m4.trans (m5.trans mm)) df⟩
end
end Yd

set_option Elab.async false
set_option linter.all false
set_option maxRecDepth 100000
set_option maxHeartbeats 4000000
namespace Yd
open PySem PySem.Spec PyProof.Rows L2 Dial
/-! ### two lists that grow side by side -/
def hide2 (s d : Addr) (H : Hp) : Hp := hide d (hide s H)
theorem hide2_s (s d : Addr) (H : Hp) (o : HO) : hide2 s d (upd H s o) = hide2 s d H := by unfold hide2; rw [hide_upd]
theorem hide2_d (s d : Addr) (H : Hp) (o : HO) : hide2 s d (upd H d o) = hide2 s d H := by
  funext b
  unfold hide2
  by_cases c : b = d
  · subst c; unfold hide; rw [if_pos rfl, if_pos rfl]
  · rw [hide_ne c, hide_ne c]
    by_cases e : b = s
    · subst e; unfold hide; rw [if_pos rfl, if_pos rfl]
    · rw [hide_ne e, hide_ne e, upd_ne c]
theorem hide2_same {s d : Addr} {H H' : Hp} (m : Same H H') : Same (hide2 s d H) (hide2 s d H') := hide_hide (hide_hide m)
theorem hide2_sub (s d : Addr) (H : Hp) : Same (hide2 s d H) H := (hide_sub d (hide s H)).trans (hide_sub s H)
theorem hide2_ne {s d b : Addr} {H : Hp} (h : b ≠ s) (k : b ≠ d) : hide2 s d H b = H b := by unfold hide2; rw [hide_ne k, hide_ne h]
structure Grown2 (K : PySem.W.Frag) (B : Hp) (s d : Addr) (es fs : List PyData) (H : Hp) : Prop where
  fs0 : B s = none
  fd0 : B d = none
  ne : s ≠ d
  same : Same B H
  ex : ∃ xs ys, H s = some (.lst xs) ∧ H d = some (.lst ys) ∧ DpAll K (hide2 s d H) xs es ∧ DpAll K (hide2 s d H) ys fs
section
variable {K : PySem.W.Frag} {B H H' : Hp} {s d : Addr} {es fs : List PyData}
theorem Grown2.step (g : Grown2 K B s d es fs H) (m : Same H H') : Grown2 K B s d es fs H' := by
  obtain ⟨xs, ys, h1, h2, h3, h4⟩ := g.ex
  exact ⟨g.fs0, g.fd0, g.ne, g.same.trans m, xs, ys, m _ _ h1, m _ _ h2, dpAll_same (hide2_same m) _ _ h3, dpAll_same (hide2_same m) _ _ h4⟩
theorem Grown2.old (g : Grown2 K B s d es fs H) {e : PyData} {v : V} (h : Dp K B v e) : Dp K (hide2 s d H) v e := by
  refine dp_same (fun b o k => ?_) _ _ h
  rw [hide2_ne (ne_of_none k g.fs0) (ne_of_none k g.fd0)]
  exact g.same b o k
theorem Grown2.hid (g : Grown2 K B s d es fs H) {e : PyData} {v : V} (l : lf e = true) (h : Dp K H v e) : Dp K (hide2 s d H) v e := by
  obtain ⟨xs, ys, h1, h2, _, _⟩ := g.ex
  have k1 := dp_hide h1 e v l h
  refine dp_hide (D := d) (zs := ys) ?_ e v l k1
  rw [hide_ne (fun z => g.ne z.symm)]; exact h2
theorem Grown2.addS (g : Grown2 K B s d es fs H) {e : PyData} {v : V} (h : Dp K (hide2 s d H) v e) : ∃ acc, H s = some (.lst acc) ∧ acc.length = es.length ∧ Grown2 K B s d (es ++ [e]) fs (upd H s (.lst (acc ++ [v]))) := by
  obtain ⟨xs, ys, h1, h2, h3, h4⟩ := g.ex
  refine ⟨xs, h1, dpAll_len h3, g.fs0, g.fd0, g.ne, fun b o k => ?_, xs ++ [v], ys, upd_same, ?_, ?_, ?_⟩
  · rw [upd_ne (ne_of_none k g.fs0)]; exact g.same b o k
  · rw [upd_ne (fun z => g.ne z.symm)]; exact h2
  · rw [hide2_s]; exact dpAll_app h3 (.cons h .nil)
  · rw [hide2_s]; exact h4
theorem Grown2.addD (g : Grown2 K B s d es fs H) {e : PyData} {v : V} (h : Dp K (hide2 s d H) v e) : ∃ acc, H d = some (.lst acc) ∧ acc.length = fs.length ∧ Grown2 K B s d es (fs ++ [e]) (upd H d (.lst (acc ++ [v]))) := by
  obtain ⟨xs, ys, h1, h2, h3, h4⟩ := g.ex
  refine ⟨ys, h2, dpAll_len h4, g.fs0, g.fd0, g.ne, fun b o k => ?_, xs, ys ++ [v], ?_, upd_same, ?_, ?_⟩
  · rw [upd_ne (ne_of_none k g.fd0)]; exact g.same b o k
  · rw [upd_ne g.ne]; exact h1
  · rw [hide2_d]; exact h3
  · rw [hide2_d]; exact dpAll_app h4 (.cons h .nil)
theorem Grown2.tup (g : Grown2 K B s d es fs H) {T : Addr} {xs : List V} {ds : List PyData} (hT : H T = none) (h : DpAll K (hide2 s d H) xs ds) : Dp K (hide2 s d (upd H T (.tup xs))) (.ref T) (.tuple ds) := by
  obtain ⟨zs, ys, h1, h2, _, _⟩ := g.ex
  have n1 : T ≠ s := fun z => by subst z; rw [hT] at h1; cases h1
  have n2 : T ≠ d := fun z => by subst z; rw [hT] at h2; cases h2
  refine .tup (xs := xs) (SqT.of ?_) ?_
  · rw [hide2_ne n1 n2]; exact upd_same
  · exact dpAll_same (hide2_same (same_new hT _)) _ _ h
theorem Grown2.ownS (g : Grown2 K B s d es fs H) : Own K H (.ref s) es := by
  obtain ⟨xs, ys, h1, h2, h3, h4⟩ := g.ex
  exact ⟨s, xs, rfl, h1, dpAll_same (hide2_sub s d H) _ _ h3⟩
theorem Grown2.ownD (g : Grown2 K B s d es fs H) : Own K H (.ref d) fs := by
  obtain ⟨xs, ys, h1, h2, h3, h4⟩ := g.ex
  exact ⟨d, ys, rfl, h2, dpAll_same (hide2_sub s d H) _ _ h4⟩
theorem Grown2.new {v : V} {e : PyData} (h1 : B s = none) (h2 : (upd B s (.lst [])) d = none) : Grown2 K B s d [] [] (upd (upd B s (.lst [])) d (.lst [])) := by
  have ne : s ≠ d := fun z => by subst z; rw [upd_same] at h2; cases h2
  refine ⟨h1, (same_new h1 (.lst [])).free h2, ne, (same_new h1 _).trans (same_new h2 _), [], [], ?_, upd_same, .nil, .nil⟩
  rw [upd_ne ne]; exact upd_same
end
/-! ### the yard -/
abbrev dTip : Option T3 → PyData
  | none => .none
  | some t => dT t
structure YardOk (K : PySem.W.Frag) (H : Hp) (y : Addr) (vS : V) (face : Pl) (rest : List Pl) (bs : List Pl) : Prop where
  ex : ∃ (vW vD : V) (ws : List (Str × Pl)) (tip : T3) (ds : List (Str × Pl × T3)), SqT K H y [vS, vW, vD] ∧ Own K H vW (ws.map dWall) ∧ Own K H vD (((nmA, face, tip) :: ds).map dDial) ∧ (∀ e ∈ ws, e.1 ≠ nmA) ∧ (∀ e ∈ ds, e.1 ≠ nmA) ∧ bs = ws.map (·.2) ++ ds.map (·.2.1)
  perm : bs.Perm rest
abbrev spYard (K : PySem.W.Frag) : Sp := fun vs H Q _ => ∃ (vS vP vT : V) (face : Pl) (rest : List Pl) (t0 : T3) (ts : List (Option T3)), vs = [vS, vP, vT] ∧ Dp K H vP (.list ((face :: rest).map dPl)) ∧ Dp K H vT (.list ((some t0 :: ts).map dTip)) ∧ ts.length = rest.length ∧ rest.length ≤ 3 ∧
  ∀ y H' bs, Same H H' → YardOk K H' y vS face rest bs → Q (.ref y) H'
def lets : Str := "abcdefgh"
theorem let_get : ∀ k : Nat, k < 4 → ∃ c, lets.cps[k]? = some c ∧ (k = 0 → (⟨#[c]⟩ : Str) = nmA) ∧ (k ≠ 0 → (⟨#[c]⟩ : Str) ≠ nmA)
  | 0, _ => ⟨97, by decide +kernel, fun _ => by decide +kernel, fun h => absurd rfl h⟩
  | 1, _ => ⟨98, by decide +kernel, fun h => (by cases h), fun _ => by decide +kernel⟩
  | 2, _ => ⟨99, by decide +kernel, fun h => (by cases h), fun _ => by decide +kernel⟩
  | 3, _ => ⟨100, by decide +kernel, fun h => (by cases h), fun _ => by decide +kernel⟩
  | k + 4, h => by omega
theorem tip_non {K : PySem.W.Frag} {H : Hp} {v : V} {t : Option T3} (h : Dp K H v (dTip t)) : decide (v = .non) = t.isNone := by
  cases t with
  | none => cases h; rfl
  | some t => obtain ⟨a, rfl, _⟩ := dp_t3 h; rfl
/-- what the yard's loop keeps -/
def YInv (face : Pl) (rest : List Pl) (i : Nat) (ws : List (Str × Pl)) (ds0 : List (Str × Pl × T3)) : Prop :=
  (i = 0 ∧ ws = [] ∧ ds0 = []) ∨ ∃ tip ds, ds0 = (nmA, face, tip) :: ds ∧ 1 ≤ i ∧ (∀ e ∈ ws, e.1 ≠ nmA) ∧ (∀ e ∈ ds, e.1 ≠ nmA) ∧ (ws.map (·.2) ++ ds.map (·.2.1)).Perm (rest.take (i - 1)) ∧ ws.length ≤ i ∧ ds.length ≤ i
theorem YInv.wall {face : Pl} {rest : List Pl} {i : Nat} {ws : List (Str × Pl)} {ds0 : List (Str × Pl × T3)} (h : YInv face rest i ws ds0) {x : Str} (hx : x ≠ nmA) {p : Pl} (hi : 1 ≤ i) (hp : (face :: rest)[i]? = some p) : YInv face rest (i + 1) (ws ++ [(x, p)]) ds0 := by
  rcases h with ⟨rfl, _⟩ | ⟨tip, ds, rfl, _, h1, h2, h3, h4, h5⟩
  · omega
  · refine .inr ⟨tip, ds, rfl, by omega, fun e he => ?_, h2, ?_, by rw [List.length_append]; simp; omega, by omega⟩
    · rcases List.mem_append.mp he with z | z
      · exact h1 e z
      · rw [List.mem_singleton.mp z]; exact hx
    · obtain ⟨j, rfl⟩ : ∃ j, i = j + 1 := ⟨i - 1, by omega⟩
      rw [List.getElem?_cons_succ] at hp
      rw [Nat.add_sub_cancel] at h3 ⊢
      rw [List.take_add_one, hp, List.map_append]
      refine List.Perm.trans ?_ (h3.append (List.Perm.refl _))
      rw [List.append_assoc, List.append_assoc]
      exact (List.Perm.refl _).append List.perm_append_comm
theorem YInv.dial {face : Pl} {rest : List Pl} {i : Nat} {ws : List (Str × Pl)} {ds0 : List (Str × Pl × T3)} (h : YInv face rest i ws ds0) {x : Str} (h0 : i = 0 → x = nmA) (hx : i ≠ 0 → x ≠ nmA) {p : Pl} (hp : (face :: rest)[i]? = some p) (t : T3) : YInv face rest (i + 1) ws (ds0 ++ [(x, p, t)]) := by
  rcases h with ⟨rfl, rfl, rfl⟩ | ⟨tip, ds, rfl, hi, h1, h2, h3, h4, h5⟩
  · have e : p = face := by simpa using hp.symm
    subst e
    rw [h0 rfl]
    exact .inr ⟨t, [], rfl, Nat.le_refl _, fun e he => (by cases he), fun e he => (by cases he), List.Perm.nil, by decide, by decide⟩
  · refine .inr ⟨tip, ds ++ [(x, p, t)], rfl, by omega, h1, fun e he => ?_, ?_, by omega, by rw [List.length_append]; simp; omega⟩
    · rcases List.mem_append.mp he with z | z
      · exact h2 e z
      · rw [List.mem_singleton.mp z]; exact hx (by omega)
    · obtain ⟨j, rfl⟩ : ∃ j, i = j + 1 := ⟨i - 1, by omega⟩
      rw [List.getElem?_cons_succ] at hp
      rw [Nat.add_sub_cancel] at h3 ⊢
      rw [List.take_add_one, hp, List.map_append, ← List.append_assoc]
      exact h3.append (List.Perm.refl _)
section
variable {P : Program} {w : World} {K : PySem.W.Frag} {mg : Str → Option Value} {base : Heap}
theorem ok_yard (D : Df K mg "_law_yard" (topS 66) ["_law_sun", "_law_plates", "_law_tips"]) (mr : mg "range" = none) (ml : mg "len" = none) : Has P w K mg base 1 "_law_yard" (spYard K) := by
  have S : FnScope ["_law_sun", "_law_plates", "_law_tips", "_law_shuts", "_law_dials", "_law_k", "_law_name"] ["_law_sun", "_law_plates", "_law_tips"] (defScope (topS 66)) := ⟨rfl, rfl, rfl, by decide +kernel, rfl, by decide +kernel, by decide +kernel⟩
  refine has0 D S (by rintro _ _ _ _ ⟨_, _, _, _, _, _, _, rfl, _⟩; rfl) (fun f cdv A outer s H vs Q E hr h => ?_)
  obtain ⟨vS, vP, vT, face, rest, t0, ts, rfl, d1, d2, hl, h3, q⟩ := h
  obtain ⟨a, xs, rfl, sa, da⟩ := dp_lst d1
  obtain ⟨b, ys, rfl, sb, db⟩ := dp_lst d2
  have hx : xs.length = rest.length + 1 := by rw [map_len da, List.length_cons]
  have hy : ys.length = rest.length + 1 := by rw [map_len db, List.length_cons, hl]
  refine ⟨_, pss_cons (ps_set (i := 3) S.nd rfl (.inl rfl) (pe_lst pa_nil))
    (pss_cons (ps_set (i := 4) S.nd rfl (.inl rfl) (pe_lst pa_nil))
    (pss_cons (ps_for PassesOwn.never rfl (pi_range1 (by rfl) mr (pa_cons (pe_callB call_len_seq (by rfl) ml PySem.boot_len (pa_cons (pv 1) pa_nil)) pa_nil)) (pg_name (i := 5) S.nd rfl (.inl rfl))
      (pss_cons (ps_set (i := 6) S.nd rfl (.inl rfl) (pe_item_str pe_str (pv 5) (fun _ _ => rfl)))
      (pss_one (ps_if (PW.pt (pw_or (pt_cmpR op_isN (pe_ix ix_list (pv 2) (pv 5) (fun _ _ => rfl)) pe_non (nomark _)) (pw_or1 (pt_cmpR op_eq (pe_op op_mod (pv 5) pe_int) pe_int (nomark _)))))
        (pss_one (ps_expr (pe_bm PySem.F.plainAttrs_list PySem.F.slot_list_append PySem.F.type_list_append mt_append (pv 3) (pa_cons (pe_tup (pa_cons (pv 6) (pa_cons (pe_ix ix_list (pv 1) (pv 5) (fun _ _ => rfl)) pa_nil))) pa_nil))))
        (pss_one (ps_expr (pe_bm PySem.F.plainAttrs_list PySem.F.slot_list_append PySem.F.type_list_append mt_append (pv 4) (pa_cons (pe_tup (pa_cons (pv 6) (pa_cons (pe_ix ix_list (pv 1) (pv 5) (fun _ _ => rfl)) (pa_cons (pe_ix ix_list (pv 2) (pv 5) (fun _ _ => rfl)) pa_nil)))) pa_nil))))))))
    (pss_one (ps_ret (pe_tup (pa_cons (pv 0) (pa_cons (pv 3) (pa_cons (pv 4) pa_nil)))))))), ?_⟩
  refine ⟨Nat.zero_le _, fun s0 hs0 => ⟨Nat.zero_le _, fun d0 hd0 => ?_⟩⟩
  have g0 := Grown2.new (K := K) (v := .non) (e := .none) hs0 hd0
  refine ⟨_, rfl, a, _, rfl, .inl (g0.same.seq sa), _, rfl, ?_⟩
  rw [hx]
  have hm : rest.length + 1 ≤ 1000000 := by omega
  refine ⟨(nat62 hm).1, (nat62 hm).2, ?_⟩
  refine for_range (lo := 0) (n := rest.length + 1) (fun i σ H' => ∃ (y5 y6 : Option V) (ws : List (Str × Pl)) (ds0 : List (Str × Pl × T3)), σ = [some vS, some (.ref a), some (.ref b), some (.ref s0), some (.ref d0), y5, y6] ∧ Grown2 K H s0 d0 (ws.map dWall) (ds0.map dDial) H' ∧ YInv face rest i ws ds0 ∧ ws.length ≤ i ∧ ds0.length ≤ i)
    ⟨none, none, [], [], rfl, g0, .inl ⟨rfl, rfl, rfl⟩, Nat.le_refl _, Nat.le_refl _⟩ (fun i σ H' hi hI => ?_) (fun σ H' hI => ?_)
  · obtain ⟨y5, y6, ws, ds0, rfl, g, hY, hwl, hdl⟩ := hI
    obtain ⟨c, hc, hc0, hc1⟩ := let_get i (by omega)
    have hp : i < (face :: rest).length := by rw [List.length_cons]; exact hi
    have ht : i < (some t0 :: ts).length := by rw [List.length_cons, hl]; exact hi
    obtain ⟨vp, gp, dp⟩ := map_get da hp
    obtain ⟨vt, gt, dt⟩ := map_get db ht
    have pget : (face :: rest)[i]? = some (face :: rest)[i] := List.getElem?_eq_getElem hp
    have tget : i = 0 → (some t0 :: ts)[i] = some t0 := fun z => by subst z; rfl
    have at1 : atI xs (0 + (i : Int)) = some vp := at_of (Int.zero_add _) gp
    have at2 : atI ys (0 + (i : Int)) = some vt := at_of (Int.zero_add _) gt
    have hlen : i < lets.length := by have : lets.length = 8 := by decide +kernel
                                      omega
    generalize (face :: rest)[i] = p at *
    generalize (some t0 :: ts)[i] = tt at *
    refine ⟨_, rfl, lets, 0 + (i : Int), c, rfl, rfl, by omega, by omega, by omega, ?_, ?_⟩
    · rw [show (0 + (i : Int)).toNat = i by omega]; exact hc
    have hdec := tip_non dt
    generalize hname : (⟨#[c]⟩ : Str) = x at *
    have wallCase : i ≠ 0 → ∃ acc, True := fun _ => ⟨(), trivial⟩
    clear wallCase
    refine ⟨_, rfl, _, rfl, b, ys, _, _, rfl, rfl, g.same.seq sb, at2, rfl, _, rfl, ?_⟩
    rw [hdec]
    have putW : i ≠ 0 → ∀ T, H' T = none → ∃ acc, (upd H' T (.tup [.str x, vp])) s0 = some (.lst acc) ∧ acc.length < sizeLine ∧ Grown2 K H s0 d0 ((ws ++ [(x, p)]).map dWall) (ds0.map dDial) (upd (upd H' T (.tup [.str x, vp])) s0 (.lst (acc ++ [.ref T]))) := fun _ T hT => by
      have g8 := g.step (same_new hT (.tup [.str x, vp]))
      obtain ⟨acc, k1, k2, k3⟩ := g8.addS (e := dWall (x, p)) (g.tup hT (.cons (.str x) (.cons (g.old dp) .nil)))
      refine ⟨acc, k1, ?_, ?_⟩
      · rw [k2, List.length_map]; exact line_small (by omega)
      · rw [List.map_append]; exact k3
    cases tt with
    | none =>
      have i0 : i ≠ 0 := fun z => by have := tget z; cases this
      refine iteT ?_
      refine iteT ?_
      obtain ⟨acc0, _, k0, _⟩ := g.ex
      refine ⟨_, rfl, .inl ⟨rfl, _, SqL.of k0⟩, _, rfl, _, rfl, _, rfl, a, xs, _, _, rfl, rfl, g.same.seq sa, at1, (by show 2 ≤ sizeLine; decide), fun T hT => ?_⟩
      obtain ⟨acc, k1, k2, k3⟩ := putW i0 T hT
      exact ⟨s0, acc, _, rfl, rfl, k1, k2, _, _, ws ++ [(x, p)], ds0, rfl, k3, hY.wall (hc1 i0) (by omega) pget, by rw [List.length_append]; simp; omega, by omega⟩
    | some t =>
      refine iteF ?_
      refine ⟨_, rfl, _, _, rfl, rfl, (show (0 : Int) < 3 by decide), rfl, _, rfl, ?_⟩
      by_cases c3 : (0 + (i : Int)) % 3 = 1
      · have i0 : i ≠ 0 := fun z => by subst z; exact absurd c3 (by decide)
        rw [decide_eq_true (show V.int ((0 + (i : Int)) % 3) = V.int 1 by rw [c3])]
        refine iteT ?_
        obtain ⟨acc0, _, k0, _⟩ := g.ex
        refine ⟨_, rfl, .inl ⟨rfl, _, SqL.of k0⟩, _, rfl, _, rfl, _, rfl, a, xs, _, _, rfl, rfl, g.same.seq sa, at1, (by show 2 ≤ sizeLine; decide), fun T hT => ?_⟩
        obtain ⟨acc, k1, k2, k3⟩ := putW i0 T hT
        exact ⟨s0, acc, _, rfl, rfl, k1, k2, _, _, ws ++ [(x, p)], ds0, rfl, k3, hY.wall (hc1 i0) (by omega) pget, by rw [List.length_append]; simp; omega, by omega⟩
      · rw [decide_eq_false (show ¬ V.int ((0 + (i : Int)) % 3) = V.int 1 from fun z => c3 (V.int.inj z))]
        refine iteF ?_
        obtain ⟨zs, acc0, _, k0, _⟩ := g.ex
        refine ⟨_, rfl, .inl ⟨rfl, _, SqL.of k0⟩, _, rfl, _, rfl, _, rfl, a, xs, _, _, rfl, rfl, g.same.seq sa, at1, _, rfl, _, rfl, b, ys, _, _, rfl, rfl, g.same.seq sb, at2, (by show 3 ≤ sizeLine; decide), fun T hT => ?_⟩
        have g8 := g.step (same_new hT (.tup [.str x, vp, vt]))
        obtain ⟨acc, k1, k2, k3⟩ := g8.addD (e := dDial (x, p, t)) (g.tup hT (.cons (.str x) (.cons (g.old dp) (.cons (g.old dt) .nil))))
        refine ⟨d0, acc, _, rfl, rfl, k1, ?_, _, _, ws, ds0 ++ [(x, p, t)], rfl, ?_, hY.dial hc0 hc1 pget t, by omega, by rw [List.length_append]; simp; omega⟩
        · rw [k2, List.length_map]; exact line_small (by omega)
        · rw [List.map_append]; exact k3
  · obtain ⟨y5, y6, ws, ds0, rfl, g, hY, _, _⟩ := hI
    rcases hY with ⟨z, _⟩ | ⟨tip, ds, rfl, _, h1, h2, hp, _, _⟩
    · omega
    refine ⟨_, rfl, _, rfl, _, rfl, (by show 3 ≤ sizeLine; decide), fun y hy => ?_⟩
    have my := same_new hy (.tup [vS, .ref s0, .ref d0])
    rw [Nat.add_sub_cancel, List.take_of_length_le (Nat.le_refl _)] at hp
    refine q y _ _ (g.same.trans my) ⟨⟨.ref s0, .ref d0, ws, tip, ds, SqT.of upd_same, g.ownS.same my, g.ownD.same my, h1, h2, rfl⟩, hp⟩
end
end Yd

set_option Elab.async false
set_option linter.all false
set_option maxRecDepth 100000
set_option maxHeartbeats 4000000
namespace Yd
open PySem PySem.Spec PyProof.Rows L2 Dial
/-! ### what is lit, by the parts -/
def litV (a : Pl) (d : T3) (rest : List Pl) : Rat := if d.2.2 ≤ 0 ∨ tInner (front a) d ≤ 0 then 0 else lawLeft (rest.map (shade a d))
theorem lit_val {a : Pl} {d : T3} {bs rest : List Pl} (k : bs.Perm rest) (ha : PB 10 a) (hr : ∀ b ∈ rest, PB 10 b) (hd : TB 7 d) : litW a d bs = litV a d rest := by
  unfold litW litV
  by_cases c : d.2.2 ≤ 0 ∨ tInner (front a) d ≤ 0
  · rw [if_pos c, if_pos c]
  · rw [if_neg c, if_neg c]
    refine lit_is_lawLeft (fun p hp => ?_) (k.map _)
    obtain ⟨b, hb, rfl⟩ := List.mem_map.mp hp
    exact (shade_fine ha (hr b hb) hd (by omega)).told
theorem litV_less {a : Pl} {d : T3} {r : Pl} {rest fewer : List Pl} (k : rest.Perm (r :: fewer)) (ha : PB 10 a) (hr : ∀ b ∈ rest, PB 10 b) (hd : TB 7 d) : litV a d rest ≤ litV a d fewer := by
  rw [← lit_val (List.Perm.refl rest) ha hr hd, ← lit_val (List.Perm.refl fewer) ha (fun b hb => hr b (k.symm.subset (List.mem_cons_of_mem _ hb))) hd]
  unfold litW
  by_cases c : d.2.2 ≤ 0 ∨ tInner (front a) d ≤ 0
  · rw [if_pos c, if_pos c]; exact Rat.le_refl
  · rw [if_neg c, if_neg c]
    exact lit_mono (p := shade a d r) (k.map (shade a d))
theorem litV_nil {a : Pl} {d : T3} (ha : PB 10 a) (hd : TB 7 d) (c : ¬ (d.2.2 ≤ 0 ∨ tInner (front a) d ≤ 0)) : litV a d [] = 1 := by
  rw [← lit_val (List.Perm.refl []) ha (fun b hb => (by cases hb)) hd]
  unfold litW
  rw [if_neg c]
  exact lit_none
theorem litV_sz {a : Pl} {d : T3} {rest : List Pl} (ha : PB 10 a) (hr : ∀ b ∈ rest, PB 10 b) (hd : TB 7 d) (hl : rest.length ≤ 3) : Sz (litV a d rest) := by
  rw [← lit_val (List.Perm.refl rest) ha hr hd]
  unfold litW
  split
  · exact sz_le (n := 1) ⟨by decide, by decide⟩ (by decide)
  · rename_i c
    have e : litOf (rest.map (shade a d)) = leftOf whole ((rest.map (shade a d)).filter fun q => decide (q ≠ [])) := rfl
    rw [e]
    have hfl : ((rest.map (shade a d)).filter fun q => decide (q ≠ [])).length ≤ 3 := by
      refine Nat.le_trans (List.length_filter_le ..) ?_
      rw [List.length_map]; exact hl
    have hff : ∀ p ∈ (rest.map (shade a d)).filter fun q => decide (q ≠ []), Fine p := fun p hp => by
      obtain ⟨b, hb, rfl⟩ := List.mem_map.mp (List.mem_filter.mp hp).1
      exact shade_fine ha (hr b hb) hd (by omega)
    refine sz_le (left_ht _ whole whole_good whole_bd hff ?_) (Nat.le_trans (lb_mono hfl) (by decide))
    have h3 : whole.length = 4 := rfl
    have h4 : most = 300 := rfl
    omega
theorem lit_use {K : PySem.W.Frag} {H : Hp} {y : Addr} {vS : V} {face : Pl} {rest bs : List Pl} {sun : List (Int × T3)} {h : Int} {e : Int × T3} {Q : VK} {E : XK} (Y : YardOk K H y vS face rest bs) (dS : Dp K H vS (.list (sun.map dE))) (he : sun.find? (fun e => decide (e.1 = h)) = some e)
    (pf : PB 10 face) (pr : ∀ b ∈ rest, PB 10 b) (te : TB 7 e.2) (hl : rest.length ≤ 3) (q : Gives K H Q (dR (litV face e.2 rest))) : spLit K [.ref y, .int h, .str nmA] H Q E := by
  obtain ⟨⟨vW, vD, ws, tip, ds, sy, oW, oD, h1, h2, rfl⟩, hp⟩ := Y
  have mem : ∀ b ∈ ws.map (·.2) ++ ds.map (·.2.1), PB 10 b := fun b hb => pr b (hp.subset hb)
  refine ⟨y, vS, vW, vD, sun, h, e, ws, face, tip, ds, rfl, sy, dS, he, oW, oD, fun w hw => ⟨h1 w hw, mem _ (List.mem_append_left _ (List.mem_map_of_mem hw))⟩, fun w hw => ⟨h2 w hw, mem _ (List.mem_append_right _ (List.mem_map_of_mem (f := fun e : Str × Pl × T3 => e.2.1) hw))⟩, pf, te, ?_, ?_⟩
  · have := hp.length_eq
    rw [List.length_append, List.length_map, List.length_map] at this
    omega
  · rw [lit_val hp pf pr te]
    exact q
theorem dpAll_eq {K : PySem.W.Frag} {H : Hp} {xs ys : List V} {ds : List PyData} (e : xs = ys) (h : DpAll K H ys ds) : DpAll K H xs ds := by subst e; exact h
theorem cutT {xs : List V} {z : Int} {k : Nat} (hz : z = (k : Int)) (h : k ≤ xs.length) : cutV xs none (some z) = xs.take k := by subst hz; exact cut_to h
theorem cutF {xs : List V} {z : Int} {k : Nat} (hz : z = (k : Int)) (h : k ≤ xs.length) : cutV xs (some z) none = xs.drop k := by subst hz; exact cut_from (α := V) h
theorem fewer_map {α : Type} (f : α → PyData) (a : α) (l : List α) (i : Nat) : ((a :: l).map f).take (i + 1) ++ ((a :: l).map f).drop (i + 2) = (a :: (l.take i ++ l.drop (i + 1))).map f := by
  rw [List.map_cons, List.map_cons, List.map_append, List.map_take, List.map_drop]
  rfl
theorem fewer_perm {α : Type} (l : List α) (i : Nat) (h : i < l.length) : l.Perm (l[i] :: (l.take i ++ l.drop (i + 1))) := by
  have e : l = l.take i ++ l[i] :: l.drop (i + 1) := by
    rw [← List.drop_eq_getElem_cons h, List.take_append_drop]
  exact (List.Perm.of_eq e).trans List.perm_middle
abbrev spHour (K : PySem.W.Frag) : Sp := fun vs H Q _ => ∃ (vS vP vT : V) (sun : List (Int × T3)) (i : Nat) (e : Int × T3) (face : Pl) (rest : List Pl) (t0 : T3) (ts : List (Option T3)), vs = [vS, vP, vT, .int (i : Int)] ∧ Dp K H vS (.list (sun.map dE)) ∧ Dp K H vP (.list ((face :: rest).map dPl)) ∧
  Dp K H vT (.list ((some t0 :: ts).map dTip)) ∧ sun[i]? = some e ∧ sun.find? (fun x => decide (x.1 = e.1)) = some e ∧ ts.length = rest.length ∧ rest.length ≤ 3 ∧ PB 10 face ∧ (∀ b ∈ rest, PB 10 b) ∧ TB 7 e.2 ∧ ∀ H', Same H H' → Q (.bl true) H'
section
variable {P : Program} {w : World} {K : PySem.W.Frag} {mg : Str → Option Value} {base : Heap}
theorem ok_hour (D : Df K mg "_law_hour" (topS 67) ["_law_sun", "_law_plates", "_law_tips", "_law_at"]) (mr : mg "range" = none) (ml : mg "len" = none) (hY : Has P w K mg base 1 "_law_yard" (spYard K)) (hI : Has P w K mg base 50 "lit_share" (spLit K)) (hD : Has P w K mg base 1 "_law_dot" (spDot K)) (hC : Has P w K mg base 1 "_law_cross" (spT2 K tCrs))
    (hS : Has P w K mg base 46 "shaded_by" (spShaded K)) (hL : Has P w K mg base 46 "_law_left" (spLLeft K)) (hU : Has P w K mg base 1 "_law_under" (spUnder K)) : Has P w K mg base 51 "_law_hour" (spHour K) := by
  have S : FnScope ["_law_sun", "_law_plates", "_law_tips", "_law_at", "_law_hour_here", "_law_direction", "_law_face", "_law_found", "_law_parts", "_law_k", "_law_fewer", "_law_plate_here"] ["_law_sun", "_law_plates", "_law_tips", "_law_at"] (defScope (topS 67)) := ⟨rfl, rfl, rfl, by decide +kernel, rfl, by decide +kernel, by decide +kernel⟩
  refine has0 D S (by rintro _ _ _ _ ⟨_, _, _, _, _, _, _, _, _, _, rfl, _⟩; rfl) (fun f cdv A outer s H vs Q E hr h => ?_)
  obtain ⟨vS, vP, vT, sun, i, e, face, rest, t0, ts, rfl, dS, dP', dT', hi, he, hl, h3, pf, pr, te, q⟩ := h
  obtain ⟨aS, us, rfl, sS, dSs⟩ := dp_lst dS
  obtain ⟨aP, xs, rfl, sP, dPs⟩ := dp_lst dP'
  obtain ⟨aT, ys, rfl, sT, dTs⟩ := dp_lst dT'
  have hx : xs.length = rest.length + 1 := by rw [map_len dPs, List.length_cons]
  have hy : ys.length = rest.length + 1 := by rw [map_len dTs, List.length_cons, hl]
  refine ⟨_, pss_cons (ps_asg (pe_ix ix_list (pv 0) (pv 3) (fun _ _ => rfl)) (pg_tup rfl (pgs_cons (pg_name (i := 4) S.nd rfl (.inl rfl)) (pgs_cons (pg_name (i := 5) S.nd rfl (.inr rfl)) pgs_nil))))
    (pss_cons (ps_set (i := 6) S.nd rfl (.inr rfl) (pe_ix ix_list (pv 1) pe_int (fun _ _ => rfl)))
    (pss_cons (ps_set (i := 7) S.nd rfl (.inl rfl) (pe_h hI hr (by decide) (by rfl) (pa_cons (pe_h hY hr (by decide) (by rfl) (pa_cons (pv 0) (pa_cons (pv 1) (pa_cons (pv 2) pa_nil)))) (pa_cons (pv 4) (pa_cons pe_str pa_nil)))))
    (pss_cons (ps_if (PW.pt (pw_or (pt_cmpR op_le (pe_ix ix_tup (pv 5) pe_int (fun _ _ => rfl)) pe_int (nomark _)) (pw_or1 (pt_cmpR op_le (pe_h hD hr (by decide) (by rfl) (pa_cons (pe_h hC hr (by decide) (by rfl) (pa_cons (pe_ix ix_tup (pv 6) pe_int (fun _ _ => rfl)) (pa_cons (pe_ix ix_tup (pv 6) pe_int (fun _ _ => rfl)) pa_nil))) (pa_cons (pv 5) pa_nil))) pe_int (nomark _)))))
      (pss_one (ps_ret (pe_cmpR (op_eqD hr.units) (pv 7) (pe_tup (pa_cons pe_int (pa_cons pe_int pa_nil))) (nomark _)))) pss_nil)
    (pss_cons (ps_setLc (i := 8) (own := [("_law_plate_here", 11)]) (g := gName 11) (tt := tYes) rfl S.nd rfl rfl (sw_true rfl rfl rfl (by decide +kernel)) (pi_list (pe_slice sl_list (pv 1) (po_some pe_int) po_none))
      (blkOk_by (own := [("_law_plate_here", 11)]) (N := ["_law_sun", "_law_plates", "_law_tips", "_law_at", "_law_hour_here", "_law_direction", "_law_face", "_law_found", "_law_parts", "_law_k", "_law_fewer", "_law_plate_here"]) (sc := defScope (topS 67)) (by decide +kernel))
      (fun _ _ _ _ _ => by exact pg_name (i := 11) S.nd rfl (.inl rfl)) (fun _ _ _ _ _ => pts_nil)
      (fun _ _ _ _ _ => by exact pe_h hS hr (by decide) (by rfl) (pa_cons (pv 6) (pa_cons (pv 11) (pa_cons (pv 5) pa_nil)))))
    (pss_cons (ps_if (pt_cmpR (op_neD hr.units) (pv 7) (pe_h hL hr (by decide) (by rfl) (pa_cons (pv 8) pa_nil)) (nomark _)) pss_never pss_nil)
    (pss_cons (ps_for PassesOwn.never rfl (pi_range2 (by rfl) mr (pa_cons pe_int (pa_cons (pe_callB call_len_seq (by rfl) ml PySem.boot_len (pa_cons (pv 1) pa_nil)) pa_nil))) (pg_name (i := 9) S.nd rfl (.inl rfl))
      (pss_cons (ps_set (i := 10) S.nd rfl (.inl rfl) (pe_h hY hr (by decide) (by rfl) (pa_cons (pv 0)
        (pa_cons (pe_op op_cat (pe_slice sl_list (pv 1) po_none (po_some (pv 9))) (pe_slice sl_list (pv 1) (po_some (pe_op op_add (pv 9) pe_int)) po_none))
        (pa_cons (pe_op op_cat (pe_slice sl_list (pv 2) po_none (po_some (pv 9))) (pe_slice sl_list (pv 2) (po_some (pe_op op_add (pv 9) pe_int)) po_none)) pa_nil)))))
      (pss_one (ps_if (pt_val (pe_h hU hr (by decide) (by rfl) (pa_cons (pe_h hI hr (by decide) (by rfl) (pa_cons (pv 10) (pa_cons (pv 4) (pa_cons pe_str pa_nil)))) (pa_cons (pv 7) pa_nil)))) pss_never pss_nil))))
    (pss_one (ps_ret (pe_cmpR (op_eqD hr.units) (pe_h hI hr (by decide) (by rfl) (pa_cons (pe_tup (pa_cons (pv 0) (pa_cons (pe_lst pa_nil) (pa_cons (pe_lst (pa_cons (pe_tup (pa_cons pe_str (pa_cons (pv 6) (pa_cons (pe_ix ix_list (pv 2) pe_int (fun _ _ => rfl)) pa_nil)))) pa_nil)) pa_nil))))
      (pa_cons (pv 4) (pa_cons pe_str pa_nil)))) (pe_tup (pa_cons pe_int (pa_cons pe_int pa_nil))) (nomark _)))))))))), ?_⟩
  -- the hour and the direction
  have hil : i < sun.length := by
    rcases Nat.lt_or_ge i sun.length with z | z
    · exact z
    · rw [List.getElem?_eq_none z] at hi; cases hi
  rw [List.getElem?_eq_getElem hil] at hi
  have ei := Option.some.inj hi
  obtain ⟨x0, gx0, dx0⟩ := map_get dSs hil
  rw [ei] at dx0
  obtain ⟨b0, zs, rfl, sb0, db0⟩ := dp_tup dx0
  obtain ⟨z1, vd, rfl, hz1, dvd⟩ := all2 db0
  rw [dp_int hz1] at sb0
  refine ⟨_, rfl, _, rfl, aS, us, _, _, rfl, rfl, sS, atI_nat gx0, b0, _, rfl, sb0, rfl, _, _, rfl, _, _, rfl, rfl, ?_⟩
  obtain ⟨vf0, gf0, df0⟩ := map_get dPs (i := 0) (by simp)
  refine ⟨_, rfl, aP, xs, _, _, rfl, rfl, sP, atI_nat (j := 0) gf0, ?_⟩
  -- what is found
  refine ⟨_, rfl, _, rfl, _, rfl, _, _, _, face, rest, t0, ts, rfl, dP', dT', hl, h3, fun y H1 bs m1 Y1 => ?_⟩
  refine ⟨_, rfl, ?_⟩
  refine lit_use (E := E0) Y1 (dp_same m1 _ _ dS) he pf pr te h3 fun vL H2 m2 dL => ?_
  have n2 := m1.trans m2
  obtain ⟨ad, rfl, sd⟩ := dp_t3 dvd
  obtain ⟨af, c1, c2, c3, rfl, sf, dc1, dc2, dc3⟩ := dp_pl df0
  refine ⟨_, rfl, ad, _, 2, _, rfl, rfl, Same.tup n2 sd, atI_nat (j := 2) rfl, _, _, rfl, rfl, _, rfl, ?_⟩
  have notUp : ∀ H3, Same H2 H3 → (e.2.2.2 ≤ 0 ∨ tInner (front face) e.2 ≤ 0) → tOp (rEqD K) (tVar 7) (tTup (tCons (tC (.int 0)) (tCons (tC (.int 1)) tNil))) [some (.ref aS), some (.ref aP), some (.ref aT), some (.int (i : Int)), some (.int e.1), some (.ref ad), some (.ref af), some vL, none, none, none, none] H3 Q := fun H3 m3 c => by
    refine ⟨_, rfl, (by show 2 ≤ sizeLine; decide), fun p hp => ?_⟩
    have mp := same_new hp (.tup [.int 0, .int 1])
    refine ⟨_, _, dp_same (m3.trans mp) _ _ dL, int_dp (n := 0) (SqT.of upd_same), shaped_rat _, shaped_rat _, ?_⟩
    have ez : litV face e.2 rest = 0 := by unfold litV; rw [if_pos c]
    rw [eqv_rat, decide_eq_true (by rw [ez]; rfl)]
    exact q _ (n2.trans (m3.trans mp))
  by_cases k1 : e.2.2.2 ≤ 0
  · rw [decide_eq_true k1]
    refine iteT ?_
    refine iteT ?_
    exact notUp _ (Same.refl _) (.inl k1)
  rw [decide_eq_false k1]
  refine iteF ?_
  refine ⟨_, rfl, af, _, 1, _, rfl, rfl, Same.tup n2 sf, atI_nat (j := 1) rfl, _, rfl, af, _, 2, _, rfl, rfl, Same.tup n2 sf, atI_nat (j := 2) rfl, _, _, _, _, rfl, dp_same n2 _ _ dc2, dp_same n2 _ _ dc3, pf.2.1.mono (by decide), pf.2.2.mono (by decide), fun u3 H3 m3 e3 => ?_⟩
  have n3 := n2.trans m3
  refine ⟨_, rfl, _, _, front face, e.2, rfl, e3, dp_same n3 _ _ dvd, pf.front.mono (by decide), te.mono (by decide), ?_⟩
  refine ⟨_, _, rfl, rfl, _, rfl, ?_⟩
  by_cases k2 : tInner (front face) e.2 ≤ 0
  · rw [decide_eq_true k2]
    refine iteT ?_
    exact notUp _ m3 (.inr k2)
  rw [decide_eq_false k2]
  refine iteF ?_
  clear notUp
  have up : ¬ (e.2.2.2 ≤ 0 ∨ tInner (front face) e.2 ≤ 0) := by omega
  have hn : tInner (front face) e.2 ≠ 0 := by omega
  have eV : litV face e.2 rest = lawLeft (rest.map (shade face e.2)) := by unfold litV; rw [if_neg up]
  -- the parts
  refine ⟨_, rfl, _, rfl, aP, xs, rfl, n3.seq sP, fun p4 hp4 => ?_⟩
  have k4 := same_new hp4 (.lst (cutV xs (some 1) none))
  have n4 := n3.trans k4
  have ecut : cutV xs (some 1) none = xs.drop 1 := cutF (k := 1) rfl (by omega)
  have s4 : SqL K (upd H3 p4 (.lst (cutV xs (some 1) none))) p4 (xs.drop 1) := by rw [← ecut]; exact SqL.of upd_same
  have d4 : DpAll K (upd H3 p4 (.lst (cutV xs (some 1) none))) (xs.drop 1) (rest.map dPl) := dpAll_same n4 _ _ (dpAll_drop 1 dPs)
  have m34 := m3.trans k4
  generalize upd H3 p4 (.lst (cutV xs (some 1) none)) = H4 at *
  have hzl : (xs.drop 1).length = rest.length := map_len d4
  have df4 := dp_same n4 _ _ df0
  have dd4 := dp_same n4 _ _ dvd
  refine ⟨p4, rfl, ⟨_, s4⟩, fun D5 hD5 => ?_⟩
  refine lc_list (K := K) (a := p4) (xs := xs.drop 1) (fun j H' => Grown K H4 D5 (((rest.map (shade face e.2)).take j).map dPart) H') (Grown.start hD5) (fun j H' _ g => g.same.seq s4) (fun j x H' gx g => ?_) (fun H5 g5 => ?_)
  · have hj : j < rest.length := by rw [← hzl]; exact (List.getElem?_eq_some_iff.mp gx).1
    obtain ⟨x', gx', dx⟩ := map_get d4 hj
    have ex : x = x' := Option.some.inj (gx.symm.trans gx')
    subst ex
    refine ⟨rfl, ?_⟩
    refine tyes_if ?_
    refine ⟨_, rfl, _, rfl, _, rfl, _, _, _, face, rest[j], e.2, rfl, dp_same g.same _ _ df4, dp_same g.same _ _ dx, dp_same g.same _ _ dd4, pf, pr _ (List.getElem_mem hj), te, hn, fun p7 H7 g7 => ?_⟩
    have g8 := g.step g7.same
    obtain ⟨acc, k1, k2, k3⟩ := g8.more (g.give g7 (lf_part _))
    refine ⟨acc, k1, ?_, ?_⟩
    · rw [k2, List.length_map, List.length_take]; exact line_small (by omega)
    · have e7 : (rest.map (shade face e.2))[j]? = some (shade face e.2 rest[j]) := by rw [List.getElem?_map, List.getElem?_eq_getElem hj]; rfl
      rw [List.take_add_one, e7, List.map_append]
      exact k3
  rw [hzl, List.take_of_length_le (by rw [List.length_map]; exact Nat.le_refl _)] at g5
  have n5 := n4.trans g5.same
  refine ⟨_, rfl, _, rfl, _, rest.map (shade face e.2), rfl, g5.dp, fun p hp => ?_, by rw [List.length_map]; exact h3, fun u6 H6 m6 e6 => ?_⟩
  · obtain ⟨b, hb, rfl⟩ := List.mem_map.mp hp
    exact shade_fine pf (pr b hb) te hn
  have n6 := n5.trans m6
  have dL6 := dp_same (m34.trans (g5.same.trans m6)) _ _ dL
  refine ⟨_, _, dL6, e6, shaped_rat _, shaped_rat _, _, rfl, ?_⟩
  rw [eqv_rat, decide_eq_true eV]
  refine iteF ?_
  -- without one
  have hm : rest.length + 1 ≤ 1000000 := by omega
  refine ⟨_, rfl, aP, xs, rfl, .inl (n6.seq sP), _, _, rfl, ⟨by decide, by decide, by rw [hx]; exact (nat62 hm).1, by rw [hx]; exact (nat62 hm).2⟩, ?_⟩
  rw [hx, show (((rest.length + 1 : Nat) : Int) - 1).toNat = rest.length by omega]
  refine for_range (lo := 1) (n := rest.length) (fun j σ H' => ∃ (y9 y10 : Option V), σ = [some (.ref aS), some (.ref aP), some (.ref aT), some (.int (i : Int)), some (.int e.1), some (.ref ad), some (.ref af), some vL, some (.ref D5), y9, y10, none] ∧ Same H6 H')
    ⟨none, none, rfl, Same.refl _⟩ (fun j σ H' hj hJ => ?_) (fun σ H' hJ => ?_)
  · obtain ⟨y9, y10, rfl, mj⟩ := hJ
    have nj := n6.trans mj
    have ct : ∀ {zs : List V}, zs.length = rest.length + 1 → cutV zs none (some (1 + (j : Int))) = zs.take (j + 1) := fun {zs} h => cutT (k := j + 1) (by omega) (by omega)
    have cf : ∀ {zs : List V}, zs.length = rest.length + 1 → cutV zs (some (1 + (j : Int) + 1)) none = zs.drop (j + 2) := fun {zs} h => cutF (k := j + 2) (by omega) (by omega)
    refine ⟨_, rfl, _, rfl, _, rfl, _, rfl, aP, xs, rfl, nj.seq sP, fun q1 hq1 => ?_⟩
    have r1 := same_new hq1 (.lst (cutV xs none (some (1 + (j : Int)))))
    refine ⟨_, rfl, _, rfl, _, _, rfl, rfl, _, rfl, aP, xs, rfl, (nj.trans r1).seq sP, fun q2 hq2 => ?_⟩
    have r2 := same_new hq2 (.lst (cutV xs (some (1 + (j : Int) + 1)) none))
    refine ⟨q1, q2, _, _, rfl, rfl, r2 _ _ upd_same, upd_same, ?_, fun q3 hq3 => ?_⟩
    · rw [ct hx, cf hx, List.length_take, List.length_drop, sizeLine_eq]; omega
    have r3 := same_new hq3 (.lst (cutV xs none (some (1 + (j : Int))) ++ cutV xs (some (1 + (j : Int) + 1)) none))
    have s3 : ∀ {G}, Same (upd (upd (upd H' q1 (.lst (cutV xs none (some (1 + (j : Int)))))) q2 (.lst (cutV xs (some (1 + (j : Int) + 1)) none))) q3 (.lst (cutV xs none (some (1 + (j : Int))) ++ cutV xs (some (1 + (j : Int) + 1)) none))) G → Dp K G (.ref q3) (.list ((face :: (rest.take j ++ rest.drop (j + 1))).map dPl)) := fun {G} g => by
      refine dp_same g _ _ (.lst (SqL.of upd_same) ?_)
      refine dpAll_eq (show _ = xs.take (j + 1) ++ xs.drop (j + 2) from by rw [ct hx, cf hx]) ?_
      rw [← fewer_map]
      exact dpAll_app (dpAll_take (j + 1) (dpAll_same (nj.trans (r1.trans (r2.trans r3))) _ _ dPs)) (dpAll_drop (j + 2) (dpAll_same (nj.trans (r1.trans (r2.trans r3))) _ _ dPs))
    have rr := r1.trans (r2.trans r3)
    generalize upd (upd (upd H' q1 (.lst (cutV xs none (some (1 + (j : Int)))))) q2 (.lst (cutV xs (some (1 + (j : Int) + 1)) none))) q3 (.lst (cutV xs none (some (1 + (j : Int))) ++ cutV xs (some (1 + (j : Int) + 1)) none)) = H7 at *
    have n7 := nj.trans rr
    clear r1 r2 r3 hq1 hq2 hq3
    refine ⟨_, rfl, _, rfl, _, rfl, aT, ys, rfl, n7.seq sT, fun q4 hq4 => ?_⟩
    have r1 := same_new hq4 (.lst (cutV ys none (some (1 + (j : Int)))))
    refine ⟨_, rfl, _, rfl, _, _, rfl, rfl, _, rfl, aT, ys, rfl, (n7.trans r1).seq sT, fun q5 hq5 => ?_⟩
    have r2 := same_new hq5 (.lst (cutV ys (some (1 + (j : Int) + 1)) none))
    refine ⟨q4, q5, _, _, rfl, rfl, r2 _ _ upd_same, upd_same, ?_, fun q6 hq6 => ?_⟩
    · rw [ct hy, cf hy, List.length_take, List.length_drop, sizeLine_eq]; omega
    have r3 := same_new hq6 (.lst (cutV ys none (some (1 + (j : Int))) ++ cutV ys (some (1 + (j : Int) + 1)) none))
    have r13 := r1.trans (r2.trans r3)
    have s6 : Dp K (upd (upd (upd H7 q4 (.lst (cutV ys none (some (1 + (j : Int)))))) q5 (.lst (cutV ys (some (1 + (j : Int) + 1)) none))) q6 (.lst (cutV ys none (some (1 + (j : Int))) ++ cutV ys (some (1 + (j : Int) + 1)) none))) (.ref q6) (.list ((some t0 :: (ts.take j ++ ts.drop (j + 1))).map dTip)) := by
      refine .lst (SqL.of upd_same) ?_
      refine dpAll_eq (show _ = ys.take (j + 1) ++ ys.drop (j + 2) from by rw [ct hy, cf hy]) ?_
      rw [← fewer_map]
      exact dpAll_app (dpAll_take (j + 1) (dpAll_same (n7.trans r13) _ _ dTs)) (dpAll_drop (j + 2) (dpAll_same (n7.trans r13) _ _ dTs))
    have s3' := s3 r13
    generalize upd (upd (upd H7 q4 (.lst (cutV ys none (some (1 + (j : Int)))))) q5 (.lst (cutV ys (some (1 + (j : Int) + 1)) none))) q6 (.lst (cutV ys none (some (1 + (j : Int))) ++ cutV ys (some (1 + (j : Int) + 1)) none)) = H8 at *
    have n8 := n7.trans r13
    have hp := fewer_perm rest j hj
    have hfl : (rest.take j ++ rest.drop (j + 1)).length ≤ 3 := by rw [List.length_append, List.length_take, List.length_drop]; omega
    have htl : (ts.take j ++ ts.drop (j + 1)).length = (rest.take j ++ rest.drop (j + 1)).length := by rw [List.length_append, List.length_append, List.length_take, List.length_drop, List.length_take, List.length_drop, hl]
    have hlt := litV_less hp pf pr te
    have prf : ∀ b ∈ rest.take j ++ rest.drop (j + 1), PB 10 b := fun b hb => pr b (hp.symm.subset (List.mem_cons_of_mem _ hb))
    generalize rest.take j ++ rest.drop (j + 1) = fewer at *
    generalize ts.take j ++ ts.drop (j + 1) = tfew at *
    refine ⟨_, _, _, face, fewer, t0, tfew, rfl, s3', s6, htl, hfl, fun y9 H9 bs9 m9 Y9 => ?_⟩
    refine ⟨_, rfl, _, rfl, ?_⟩
    refine lit_use (E := E0) Y9 (dp_same (n8.trans m9) _ _ dS) he pf prf te hfl fun v10 H10 m10 d10 => ?_
    have nn := mj.trans (rr.trans (r13.trans (m9.trans m10)))
    refine ⟨_, rfl, _, _, _, _, rfl, d10, dp_same nn _ _ dL6, litV_sz pf prf te hfl, litV_sz pf pr te h3, _, rfl, ?_⟩
    rw [decide_eq_false (Rat.not_lt.mpr hlt)]
    refine iteF ?_
    exact ⟨_, _, rfl, nn⟩
  · obtain ⟨y9, y10, rfl, mj⟩ := hJ
    have nj := n6.trans mj
    obtain ⟨vt0, gt0, dt0⟩ := map_get dTs (i := 0) (by simp)
    refine ⟨_, rfl, Nat.zero_le _, fun q1 hq1 => ?_⟩
    have r1 := same_new hq1 (.lst [])
    refine ⟨_, rfl, _, rfl, aT, ys, _, _, rfl, rfl, (nj.trans r1).seq sT, atI_nat (j := 0) gt0, (by show 3 ≤ sizeLine; decide), fun q2 hq2 => ?_⟩
    have r2 := same_new hq2 (.tup [.str nmA, .ref af, vt0])
    refine ⟨(by show 1 ≤ sizeLine; decide), fun q3 hq3 => ?_⟩
    have r3 := same_new hq3 (.lst [.ref q2])
    refine ⟨(by show 3 ≤ sizeLine; decide), fun q4 hq4 => ?_⟩
    have r4 := same_new hq4 (.tup [.ref aS, .ref q1, .ref q3])
    have hq1s := (r2.trans (r3.trans r4)) _ _ (upd_same (H := H') (a := q1) (o := .lst []))
    have hq3s := r4 _ _ (upd_same (H := upd (upd H' q1 (.lst [])) q2 (.tup [.str nmA, .ref af, vt0])) (a := q3) (o := .lst [.ref q2]))
    have dq2 := dp_same (r3.trans r4) _ _ (.tup (K := K) (H := upd (upd H' q1 (.lst [])) q2 (.tup [.str nmA, .ref af, vt0])) (a := q2) (SqT.of upd_same) (.cons (.str nmA) (.cons (dp_same (nj.trans (r1.trans r2)) _ _ df0) (.cons (dp_same (nj.trans (r1.trans r2)) _ _ dt0) .nil))))
    have sq4 := SqT.of (K := K) (upd_same (H := upd (upd (upd H' q1 (.lst [])) q2 (.tup [.str nmA, .ref af, vt0])) q3 (.lst [.ref q2])) (a := q4) (o := .tup [.ref aS, .ref q1, .ref q3]))
    have rr := r1.trans (r2.trans (r3.trans r4))
    generalize upd (upd (upd (upd H' q1 (.lst [])) q2 (.tup [.str nmA, .ref af, vt0])) q3 (.lst [.ref q2])) q4 (.tup [.ref aS, .ref q1, .ref q3]) = H7 at *
    have Y7 : YardOk K H7 q4 (.ref aS) face [] [] := ⟨⟨.ref q1, .ref q3, [], t0, [], sq4, ⟨q1, [], rfl, hq1s, .nil⟩, ⟨q3, [.ref q2], rfl, hq3s, .cons dq2 .nil⟩, fun e he => (by cases he), fun e he => (by cases he), rfl⟩, List.Perm.nil⟩
    refine ⟨_, rfl, ?_⟩
    refine lit_use (E := E0) Y7 (dp_same (nj.trans rr) _ _ dS) he pf (fun b hb => (by cases hb)) te (by decide) fun v8 H8 m8 d8 => ?_
    refine ⟨(by show 2 ≤ sizeLine; decide), fun q9 hq9 => ?_⟩
    have r9 := same_new hq9 (.tup [.int 1, .int 1])
    refine ⟨_, _, dp_same r9 _ _ d8, int_dp (n := 1) (SqT.of upd_same), shaped_rat _, shaped_rat _, ?_⟩
    rw [eqv_rat, decide_eq_true (show litV face e.2 [] = ((1 : Int) : Rat) from litV_nil pf te up)]
    exact q _ (nj.trans (rr.trans (m8.trans r9)))
end
end Yd

set_option Elab.async false
set_option linter.all false
set_option maxRecDepth 100000
set_option maxHeartbeats 4000000
namespace Yd
open PySem PySem.Spec PyProof.Rows L2 Dial
/-! ### the law -/
abbrev sLaw : Stmt := topS 68
def spLaw (K : PySem.W.Frag) : Sp := fun vs H Q _ => ∃ (a : Addr) (ns : List Int), vs = [.ref a] ∧ SqL K H a (ns.map V.int) ∧ ns.length ≤ 63 ∧ ∀ H', Q (.bl true) H'
abbrev spTip2 (K : PySem.W.Frag) : Sp := fun vs H Q _ => ∃ (v : V) (p : Pl) (c : Int), vs = [v, .int c] ∧ Dp K H v (dPl p) ∧ PL 600 120 p ∧ ∀ (t : Option T3) v' H', Same H H' → Dp K H' v' (dTip t) → Q v' H'
theorem lf_tip (t : Option T3) : lf (dTip t) = true := by cases t <;> rfl
theorem Grown2.of {K : PySem.W.Frag} {B : Hp} {s d : Addr} {xs ys : List V} {es fs : List PyData} (h1 : B s = none) (h2 : (upd B s (.lst xs)) d = none) (hx : DpAll K B xs es) (hy : DpAll K B ys fs) : Grown2 K B s d es fs (upd (upd B s (.lst xs)) d (.lst ys)) := by
  have ne : s ≠ d := fun z => by subst z; rw [upd_same] at h2; cases h2
  have hd := (same_new h1 (.lst xs)).free h2
  have m := (same_new h1 (.lst xs)).trans (same_new h2 (.lst ys))
  have mh : Same B (hide2 s d (upd (upd B s (.lst xs)) d (.lst ys))) := fun b o k => by
    rw [hide2_ne (ne_of_none k h1) (ne_of_none k hd)]
    exact m b o k
  refine ⟨h1, hd, ne, m, xs, ys, ?_, upd_same, dpAll_same mh _ _ hx, dpAll_same mh _ _ hy⟩
  rw [upd_ne ne]; exact upd_same
theorem at_last {xs : List V} {n : Nat} (h : xs.length = n + 1) : atI xs (-1) = xs[n]? := by
  have e : ixN xs.length (-1) = some n := by
    unfold ixN
    rw [if_neg (by omega), if_pos (by omega)]
    congr 1
    omega
  unfold atI
  rw [e]
  rfl
section
variable {P : Program} {w : World} {K : PySem.W.Frag} {mg : Str → Option Value} {base : Heap}
theorem tip2 (h : Has P w K mg base 5 "_law_tip" (spTip K)) : Has P w K mg base 5 "_law_tip" (spTip2 K) :=
  h.imp fun vs H Q E hs => by
    obtain ⟨v, p, c, e, d, b, q⟩ := hs
    exact ⟨v, p, c, e, d, b, fun H' m => q none .non H' m .non, fun t v' H' m dt => q (some t) v' H' m dt⟩
theorem ok_law {f : Addr} {fd : FuncData} (F : Fun K "law" "law" sLaw f fd) (mr : mg "range" = none) (hA : Has P w K mg base 1 "_law_cell_at" (spCell1 K)) (hP : Has P w K mg base 4 "_law_plate" (spPlate K)) (hT : Has P w K mg base 5 "_law_tip" (spTip2 K)) (h3 : Has P w K mg base 3 "_law_triple" (spTriple K))
    (hD : Has P w K mg base 1 "_law_draw" spDraw) (hW : Has P w K mg base 2 "_law_ahead" (spLAhead K)) (hC : Has P w K mg base 1 "_law_cross" (spT2 K tCrs)) (hF : Has P w K mg base 1 "_law_far" (spFar K)) (hB : Has P w K mg base 5 "_law_about" (spAbout K)) (hY : Has P w K mg base 1 "_law_yard" (spYard K))
    (hI : Has P w K mg base 50 "lit_share" (spLit K)) (hH : Has P w K mg base 51 "_law_hour" (spHour K)) : FnOk P w K mg base CX0 52 f fd ["_law_script"] (spLaw K) := by
  have S : FnScope ["_law_script", "_law_cell", "_law_face", "_law_tip_here", "_law_direction", "_law_plates", "_law_tips", "_law_k", "_law_one", "_law_sun", "_law_first"] ["_law_script"] (defScope sLaw) := ⟨rfl, rfl, rfl, by decide +kernel, rfl, by decide +kernel, by decide +kernel⟩
  refine F.ok S (by rintro _ _ _ _ ⟨_, _, rfl, _⟩; rfl) (fun cdv A outer s H vs Q E hr h => ?_)
  obtain ⟨a, ns, rfl, sa, hns, q⟩ := h
  refine ⟨_, pss_cons (ps_set (i := 1) S.nd rfl (.inl rfl) (pe_h hA hr (by decide) (by rfl) (pa_cons (pv 0) (pa_cons pe_int pa_nil))))
    (pss_cons (ps_set (i := 2) S.nd rfl (.inl rfl) (pe_h hP hr (by decide) (by rfl) (pa_cons (pv 1) (pa_cons pe_int pa_nil))))
    (pss_cons (ps_set (i := 3) S.nd rfl (.inl rfl) (pe_h hT hr (by decide) (by rfl) (pa_cons (pv 2) (pa_cons (pv 1) pa_nil))))
    (pss_cons (ps_set (i := 4) S.nd rfl (.inl rfl) (pe_h h3 hr (by decide) (by rfl) (pa_cons (pv 1) (pa_cons pe_int pa_nil))))
    (Evl.pss_cut (ps_if (pt_cmpR op_gt (pe_h hD hr (by decide) (by rfl) (pa_cons (pv 1) (pa_cons pe_int (pa_cons pe_int pa_nil)))) pe_int (nomark _))
      (pss_one (ps_set (i := 4) S.nd rfl (.inl rfl) (pe_h hW hr (by decide) (by rfl) (pa_cons (pe_h hC hr (by decide) (by rfl) (pa_cons (pe_ix ix_tup (pv 2) pe_int (fun _ _ => rfl)) (pa_cons (pe_ix ix_tup (pv 2) pe_int (fun _ _ => rfl)) pa_nil))) (pa_cons (pv 4) pa_nil))))) pss_nil)
    (pss_cons (ps_if (PW.pt (pw_or (pt_cmpR op_isN (pv 3) pe_non (nomark _)) (pw_or (pt_cmpR (op_eqD hr.units) (pv 4) (pe_tup (pa_cons pe_int (pa_cons pe_int (pa_cons pe_int pa_nil)))) (nomark _))
        (pw_or1 (pt_val (pe_h hF hr (by decide) (by rfl) (pa_cons (pe_lst (pa_cons (pv 4) pa_nil)) pa_nil))))))) (pss_one (ps_ret pe_bl)) pss_nil)
    (pss_cons (ps_set (i := 5) S.nd rfl (.inl rfl) (pe_lst (pa_cons (pv 2) pa_nil)))
    (pss_cons (ps_set (i := 6) S.nd rfl (.inl rfl) (pe_lst (pa_cons (pv 3) pa_nil)))
    (pss_cons (ps_for PassesOwn.never rfl (pi_range1 (by rfl) mr (pa_cons (pe_op op_add pe_int (pe_h hD hr (by decide) (by rfl) (pa_cons (pv 1) (pa_cons pe_int (pa_cons pe_int pa_nil))))) pa_nil)) (pg_name (i := 7) S.nd rfl (.inl rfl))
      (pss_cons (ps_set (i := 8) S.nd rfl (.inl rfl) (pe_op op_add (pe_h hA hr (by decide) (by rfl) (pa_cons (pv 0) (pa_cons (pe_op op_add pe_int (pe_op op_mulG (pv 7) pe_int)) pa_nil))) (pv 7)))
      (pss_cons (ps_expr (pe_bm PySem.F.plainAttrs_list PySem.F.slot_list_append PySem.F.type_list_append mt_append (pv 5) (pa_cons (pe_h hB hr (by decide) (by rfl) (pa_cons (pv 2) (pa_cons (pv 4) (pa_cons (pv 8) pa_nil)))) pa_nil)))
      (pss_one (ps_expr (pe_bm PySem.F.plainAttrs_list PySem.F.slot_list_append PySem.F.type_list_append mt_append (pv 6) (pa_cons (pe_h hT hr (by decide) (by rfl) (pa_cons (pe_ix ix_list (pv 5) (pe_un un_neg pe_int) (fun _ _ => rfl)) (pa_cons (pv 8) pa_nil))) pa_nil)))))))
    (pss_cons (ps_set (i := 9) S.nd rfl (.inl rfl) (pe_lst (pa_cons (pe_tup (pa_cons pe_int (pa_cons (pv 4) pa_nil))) (pa_cons (pe_tup (pa_cons pe_int (pa_cons (pe_h hW hr (by decide) (by rfl)
      (pa_cons (pe_h hC hr (by decide) (by rfl) (pa_cons (pe_ix ix_tup (pv 2) pe_int (fun _ _ => rfl)) (pa_cons (pe_ix ix_tup (pv 2) pe_int (fun _ _ => rfl)) pa_nil))) (pa_cons (pe_h h3 hr (by decide) (by rfl) (pa_cons (pv 1) (pa_cons pe_int pa_nil))) pa_nil))) pa_nil))) pa_nil))))
    (pss_cons (ps_set (i := 10) S.nd rfl (.inl rfl) (pe_h hI hr (by decide) (by rfl) (pa_cons (pe_h hY hr (by decide) (by rfl) (pa_cons (pv 9) (pa_cons (pv 5) (pa_cons (pv 6) pa_nil)))) (pa_cons pe_int (pa_cons pe_str pa_nil)))))
    (pss_cons (ps_if (PW.pt (pw_or (pt_not (pt_val (pe_h hH hr (by decide) (by rfl) (pa_cons (pv 9) (pa_cons (pv 5) (pa_cons (pv 6) (pa_cons pe_int pa_nil))))))) (pw_or1 (pt_not (pt_val (pe_h hH hr (by decide) (by rfl) (pa_cons (pv 9) (pa_cons (pv 5) (pa_cons (pv 6) (pa_cons pe_int pa_nil)))))))))) pss_never pss_nil)
    (pss_one (ps_ret (pe_cmpR (op_eqD hr.units) (pe_h hI hr (by decide) (by rfl) (pa_cons (pe_h hY hr (by decide) (by rfl) (pa_cons (pv 9) (pa_cons (pv 5) (pa_cons (pv 6) pa_nil)))) (pa_cons pe_int (pa_cons pe_str pa_nil)))) (pv 10) (nomark _))))))))))))))), ?_⟩
  refine ⟨_, rfl, a, ns, 0, rfl, sa, fun c => ?_⟩
  refine ⟨_, rfl, c, 0, rfl, by decide, by decide, fun face vf H1 m1 bf df => ?_⟩
  refine ⟨_, rfl, _, rfl, _, face, c, rfl, df, ⟨bf.1.mono (by decide), bf.2.1.mono (by decide), bf.2.2.mono (by decide)⟩, fun ot vt H2 m2 dt => ?_⟩
  refine ⟨_, rfl, c, 10, rfl, by decide, by decide, fun d0 vd0 H3 m3 bd0 dd0 => ?_⟩
  have n3 := m1.trans (m2.trans m3)
  obtain ⟨af, c1, c2, c3, rfl, sf, dc1, dc2, dc3⟩ := dp_pl df
  refine ⟨fun σ' H' => ∃ (vd : V) (d : T3), σ' = [some (.ref a), some (.int c), some (.ref af), some vt, some vd, none, none, none, none, none, none] ∧ Same H3 H' ∧ TL 63 d ∧ Dp K H' vd (dT d), ?_, ?_⟩
  · refine ⟨_, rfl, c, 70, 6, rfl, by decide, by decide, by decide, fun r r0 r1 => ?_⟩
    refine ⟨_, _, rfl, rfl, _, rfl, ite2 (fun _ => ?_) (fun _ => ⟨vd0, d0, rfl, Same.refl _, bd0.mono (by decide), dd0⟩)⟩
    have m23 := m2.trans m3
    refine ⟨_, rfl, af, _, 1, _, rfl, rfl, Same.tup m23 sf, atI_nat (j := 1) rfl, _, rfl, af, _, 2, _, rfl, rfl, Same.tup m23 sf, atI_nat (j := 2) rfl, _, _, _, _, rfl, dp_same m23 _ _ dc2, dp_same m23 _ _ dc3, bf.2.1.tb (by decide), bf.2.2.tb (by decide), fun u4 H4 m4 e4 => ?_⟩
    refine ⟨_, rfl, _, _, tCrs face.2.1 face.2.2, d0, 60, rfl, e4, dp_same m4 _ _ dd0, (TB.cross (bf.2.1.tb (k := 6) (by decide)) (bf.2.2.tb (k := 6) (by decide))).mono (by decide), bd0, by decide, fun t5 v5 H5 m5 b5 d5 => ?_⟩
    exact ⟨v5, t5, rfl, m4.trans m5, b5, d5⟩
  rintro σ' H4 ⟨vd, d, rfl, m4, bd, dd⟩
  have n4 := n3.trans m4
  have df4 := dp_same (m2.trans (m3.trans m4)) _ _ df
  have dt4 := dp_same (m3.trans m4) _ _ dt
  refine ⟨_, rfl, rfl, _, rfl, ?_⟩
  rw [tip_non dt]
  cases ot with
  | none =>
    refine iteT ?_
    refine iteT ?_
    exact q _
  | some t0 =>
  refine iteF ?_
  refine ⟨_, rfl, (by show 3 ≤ sizeLine; decide), fun p5 hp5 => ?_⟩
  have k5 := same_new hp5 (.tup [.int 0, .int 0, .int 0])
  refine ⟨_, _, dp_same k5 _ _ dd, dp_unit upd_same, shaped_t3 _, shaped_t3 _, _, rfl, ite2 (fun _ => ?_) (fun _ => ?_)⟩
  · refine iteT ?_
    exact q _
  refine ⟨_, rfl, (by show 1 ≤ sizeLine; decide), fun p6 hp6 => ?_⟩
  have k6 := same_new hp6 (.lst [vd])
  refine ⟨_, [d], rfl, .lst (SqL.of upd_same) (.cons (dp_same (k5.trans k6) _ _ dd) .nil), (show 1 ≤ 1000 by decide), fun far H7 k7 => ?_⟩
  refine ⟨_, rfl, ?_⟩
  cases far with
  | true =>
    refine iteT ?_
    exact q _
  | false =>
  refine iteF ?_
  have k57 := k5.trans (k6.trans k7)
  have n7 := n4.trans k57
  have df7 := dp_same k57 _ _ df4
  have dt7 := dp_same k57 _ _ dt4
  have dd7 := dp_same k57 _ _ dd
  -- plates and tips
  refine ⟨_, rfl, (by show 1 ≤ sizeLine; decide), fun s0 hs0 => ?_⟩
  refine ⟨_, rfl, (by show 1 ≤ sizeLine; decide), fun d0' hd0 => ?_⟩
  have g0 : Grown2 K H7 s0 d0' ([face].map dPl) ([some t0].map dTip) _ := Grown2.of hs0 hd0 (.cons df7 .nil) (.cons dt7 .nil)
  refine ⟨_, rfl, c, 71, 3, rfl, by decide, by decide, by decide, fun r r0 r1 => ?_⟩
  refine ⟨_, _, rfl, rfl, 1 + r, rfl, by omega, by omega, ?_⟩
  obtain ⟨n, hn, hn3⟩ : ∃ n : Nat, (1 + r).toNat = n ∧ n ≤ 3 := ⟨_, rfl, by omega⟩
  rw [hn]
  refine for_range (lo := 0) (n := n) (fun i σ H' => ∃ (y7 y8 : Option V) (rest : List Pl) (ts : List (Option T3)), σ = [some (.ref a), some (.int c), some (.ref af), some vt, some vd, some (.ref s0), some (.ref d0'), y7, y8, none, none] ∧ rest.length = i ∧ ts.length = i ∧ (∀ b ∈ rest, PL 489 120 b) ∧
    Grown2 K H7 s0 d0' ((face :: rest).map dPl) ((some t0 :: ts).map dTip) H') ⟨none, none, [], [], rfl, rfl, rfl, fun b hb => (by cases hb), g0⟩ (fun i σ H' hi hI => ?_) (fun σ H8 hI => ?_)
  · obtain ⟨y7, y8, rest, ts, rfl, hrl, htl, hb, g⟩ := hI
    have kb : (0 + (i : Int)).natAbs < 2 ^ 4 := by omega
    refine ⟨_, rfl, _, rfl, _, _, rfl, rfl, mulNat (n := 4) (m := 2) kb (by decide), _, _, rfl, rfl, a, ns, 5 + i * 2, ?_, (n7.trans g.same).seq sa, fun z => ?_⟩
    · show [V.ref a, V.int (5 + (0 + (i : Int)) * 2)] = [V.ref a, V.int ((5 + i * 2 : Nat) : Int)]
      rw [show (5 : Int) + (0 + (i : Int)) * 2 = ((5 + i * 2 : Nat) : Int) by omega]
    refine ⟨_, rfl, _, _, rfl, rfl, ?_⟩
    obtain ⟨xs0, ys0, hx0, hy0, _, _⟩ := g.ex
    refine ⟨_, rfl, .inl ⟨rfl, _, SqL.of hx0⟩, _, rfl, _, rfl, _, rfl, _, _, face, d, _, rfl, dp_same g.same _ _ df7, dp_same g.same _ _ dd7, bf, bd, fun p' v' H9 m9 bp' dp' => ?_⟩
    have g9 := g.step m9
    obtain ⟨acc, h1, h2, g10⟩ := g9.addS (g9.hid (e := dPl p') rfl dp')
    refine ⟨s0, acc, _, rfl, rfl, h1, ?_, ?_⟩
    · rw [h2, List.length_map, List.length_cons]; exact line_small (by omega)
    have em : (face :: rest).map dPl ++ [dPl p'] = (face :: (rest ++ [p'])).map dPl := by simp
    rw [em] at g10
    generalize upd H9 s0 (.lst (acc ++ [v'])) = H10 at *
    obtain ⟨as, xs, ea, hxs, dxs⟩ := g10.ownS
    cases ea
    have hxl : xs.length = (rest.length + 1) + 1 := by rw [map_len dxs, List.length_cons, List.length_append]; rfl
    obtain ⟨vl, gl, dl⟩ := map_get dxs (i := rest.length + 1) (by rw [List.length_cons, List.length_append]; simp)
    have el : (face :: (rest ++ [p']))[rest.length + 1]'(by rw [List.length_cons, List.length_append]; simp) = p' := by simp
    rw [el] at dl
    obtain ⟨_, ys1, _, hy1, _, _⟩ := g10.ex
    refine ⟨_, rfl, .inl ⟨rfl, _, SqL.of hy1⟩, _, rfl, _, rfl, s0, xs, _, _, rfl, rfl, SqL.of hxs, (at_last hxl).trans gl, _, rfl, _, p', _, rfl, dl, ⟨bp'.1.mono (by decide), bp'.2.1, bp'.2.2⟩, fun ot v11 H11 m11 d11 => ?_⟩
    have g11 := g10.step m11
    obtain ⟨acc2, h5, h6, g12⟩ := g11.addD (g11.hid (lf_tip ot) d11)
    refine ⟨d0', acc2, _, rfl, rfl, h5, ?_, _, _, rest ++ [p'], ts ++ [ot], rfl, by rw [List.length_append, hrl]; rfl, by rw [List.length_append, htl]; rfl, fun b hb2 => ?_, ?_⟩
    · rw [h6, List.length_map, List.length_cons]; exact line_small (by omega)
    · rcases List.mem_append.mp hb2 with z | z
      · exact hb b z
      · rw [List.mem_singleton.mp z]; exact bp'
    · have em2 : (some t0 :: ts).map dTip ++ [dTip ot] = (some t0 :: (ts ++ [ot])).map dTip := by simp
      rw [em2] at g12
      exact g12
  · obtain ⟨y7, y8, rest, ts, rfl, hrl, htl, hb, g⟩ := hI
    have hl3 : rest.length ≤ 3 := by omega
    have htr : ts.length = rest.length := by omega
    have pf : PB 10 face := bf.pb (by decide) (by decide)
    have pr : ∀ b ∈ rest, PB 10 b := fun b hb2 => (hb b hb2).pb (by decide) (by decide)
    have te : TB 7 d := bd.tb (by decide)
    have dPs := g.ownS.dp
    have dTs := g.ownD.dp
    have dd8 := dp_same g.same _ _ dd7
    have df8 := dp_same g.same _ _ df7
    have sf8 := Same.tup ((m2.trans (m3.trans m4)).trans (k57.trans g.same)) sf
    have dc28 := dp_same ((m2.trans (m3.trans m4)).trans (k57.trans g.same)) _ _ dc2
    have dc38 := dp_same ((m2.trans (m3.trans m4)).trans (k57.trans g.same)) _ _ dc3
    -- the sun
    refine ⟨_, rfl, (by show 2 ≤ sizeLine; decide), fun q1 hq1 => ?_⟩
    have r1 := same_new hq1 (.tup [.int 7, vd])
    refine ⟨_, rfl, af, _, 1, _, rfl, rfl, Same.tup r1 sf8, atI_nat (j := 1) rfl, _, rfl, af, _, 2, _, rfl, rfl, Same.tup r1 sf8, atI_nat (j := 2) rfl, _, _, _, _, rfl, dp_same r1 _ _ dc28, dp_same r1 _ _ dc38, bf.2.1.tb (by decide), bf.2.2.tb (by decide), fun u2 H9 r2 e2 => ?_⟩
    refine ⟨_, rfl, c, 50, rfl, by decide, by decide, fun t3 v3 H10 r3 b3 e3 => ?_⟩
    refine ⟨_, _, tCrs face.2.1 face.2.2, t3, 60, rfl, dp_same r3 _ _ e2, e3, (TB.cross (bf.2.1.tb (k := 6) (by decide)) (bf.2.2.tb (k := 6) (by decide))).mono (by decide), b3, by decide, fun d2 v4 H11 r4 b4 e4 => ?_⟩
    refine ⟨(by show 2 ≤ sizeLine; decide), fun q5 hq5 => ?_⟩
    have r5 := same_new hq5 (.tup [.int 9, v4])
    refine ⟨(by show 2 ≤ sizeLine; decide), fun q6 hq6 => ?_⟩
    have r6 := same_new hq6 (.lst [.ref q1, .ref q5])
    have dq1 : Dp K (upd H8 q1 (.tup [.int 7, vd])) (.ref q1) (dE (7, d)) := .tup (SqT.of upd_same) (.cons (.int 7) (.cons (dp_same r1 _ _ dd8) .nil))
    have dq5 : Dp K (upd H11 q5 (.tup [.int 9, v4])) (.ref q5) (dE (9, d2)) := .tup (SqT.of upd_same) (.cons (.int 9) (.cons (dp_same r5 _ _ e4) .nil))
    have r26 := r2.trans (r3.trans (r4.trans (r5.trans r6)))
    have dS : Dp K (upd (upd H11 q5 (.tup [.int 9, v4])) q6 (.lst [.ref q1, .ref q5])) (.ref q6) (.list ([(7, d), (9, d2)].map dE)) := .lst (SqL.of upd_same) (.cons (dp_same r26 _ _ dq1) (.cons (dp_same r6 _ _ dq5) .nil))
    have r16 := r1.trans r26
    generalize upd (upd H11 q5 (.tup [.int 9, v4])) q6 (.lst [.ref q1, .ref q5]) = H12 at *
    have te2 : TB 7 d2 := b4.tb (by decide)
    -- first
    refine ⟨_, rfl, _, rfl, _, rfl, _, _, _, face, rest, t0, ts, rfl, dp_same r16 _ _ dPs, dp_same r16 _ _ dTs, htr, hl3, fun y1 H13 bs1 r13 Y1 => ?_⟩
    refine lit_use (E := E0) (e := (7, d)) Y1 (dp_same r13 _ _ dS) rfl pf pr te hl3 fun vL H14 r14 dL => ?_
    have s14 := r13.trans r14
    have u14 := r16.trans s14
    -- the two hours
    refine ⟨_, rfl, _, rfl, _, rfl, _, _, _, _, 0, (7, d), face, rest, t0, ts, rfl, dp_same s14 _ _ dS, dp_same u14 _ _ dPs, dp_same u14 _ _ dTs, rfl, rfl, htr, hl3, pf, pr, te, fun H15 r15 => ?_⟩
    refine ⟨_, rfl, ?_⟩
    refine iteF ?_
    have s15 := s14.trans r15
    have u15 := u14.trans r15
    refine ⟨_, rfl, _, rfl, _, rfl, _, _, _, _, 1, (9, d2), face, rest, t0, ts, rfl, dp_same s15 _ _ dS, dp_same u15 _ _ dPs, dp_same u15 _ _ dTs, rfl, rfl, htr, hl3, pf, pr, te2, fun H16 r16' => ?_⟩
    refine ⟨_, rfl, ?_⟩
    refine iteF ?_
    have s16 := s15.trans r16'
    have u16 := u15.trans r16'
    -- once more
    refine ⟨_, rfl, _, rfl, _, rfl, _, _, _, face, rest, t0, ts, rfl, dp_same u16 _ _ dPs, dp_same u16 _ _ dTs, htr, hl3, fun y2 H17 bs2 r17 Y2 => ?_⟩
    refine lit_use (E := E0) (e := (7, d)) Y2 (dp_same (s16.trans r17) _ _ dS) rfl pf pr te hl3 fun vM H18 r18 dM => ?_
    refine ⟨_, rfl, _, _, dM, dp_same (r15.trans (r16'.trans (r17.trans r18))) _ _ dL, shaped_rat _, shaped_rat _, ?_⟩
    rw [eqv_rat, decide_eq_true rfl]
    exact q _
end
end Yd

set_option Elab.async false
set_option linter.all false
set_option maxRecDepth 100000
set_option maxHeartbeats 4000000
namespace Yd
open PySem PySem.Spec PyProof.Rows L2 Dial
/-! ### what stands in the module -/
def Fact (K : PySem.W.Frag) (x : Str) (st : Stmt) : Prop := ∃ (f : Addr) (od an : Option Addr) (sl : Array (Option Value)) (oc kV dc pm cd ct : Value),
  PySem.W.nsIn K mainGlobals x = some (some (.ref f)) ∧ K.lookup f = some ⟨oc, od, .func (PySem.W.fnOf x x (defArgs st) (defBody st) (defScope st) .none kV dc pm an cd ct), sl⟩ ∧ PySem.W.codeIn K cd x = true ∧ PySem.W.keepIn K (.ref f) = true
theorem fact_mk {K : PySem.W.Frag} {x : Str} {st : Stmt} {f : Addr} {od an : Option Addr} {sl : Array (Option Value)} {oc kV dc pm cd ct : Value} (h1 : PySem.W.nsIn K mainGlobals x = some (some (.ref f)))
    (h2 : K.lookup f = some ⟨oc, od, .func (PySem.W.fnOf x x (defArgs st) (defBody st) (defScope st) .none kV dc pm an cd ct), sl⟩) (h3 : PySem.W.codeIn K cd x = true) (h4 : PySem.W.keepIn K (.ref f) = true) : Fact K x st := ⟨f, od, an, sl, oc, kV, dc, pm, cd, ct, h1, h2, h3, h4⟩
theorem Fact.df {K : PySem.W.Frag} {x : Str} {st : Stmt} {ps : List Str} {h : Heap} {mg : Str → Option Value} (c : Fact K x st) (X : K.In h) (G : h.Ns mainGlobals mg)
    (b : ∀ (kV doc pm : Value) (an : Option Addr) (cdv ct : Value) (us : List Value), us.length = ps.length → bindArgs (PySem.W.fnOf x x (defArgs st) (defBody st) (defScope st) .none kV doc pm an cdv ct) ⟨us, []⟩ = pure (ps.zip us)) : Df K mg x st ps := by
  obtain ⟨f, od, an, sl, oc, kV, dc, pm, cd, ct, h1, h2, h3, h4⟩ := c
  have F := fun_mk (st := st) h2 h3 h4
  exact ⟨f, _, F, PySem.W.mg_of X G h1, F.binds b⟩
mutual
def kDp (K : PySem.W.Frag) : PyData → Value → Bool
  | .int i, .int j _ => i == j
  | .tuple ds, .ref a => (match K.lookup a with
    | some ⟨.type t, _, .seq its _, _⟩ => t == "tuple" && decide (its.size ≤ 1000) && kDpAll K ds its.toList
    | _ => false)
  | .list ds, .ref a => (match K.lookup a with
    | some ⟨.type t, none, .seq its _, _⟩ => t == "list" && decide (its.size ≤ 1000) && kDpAll K ds its.toList
    | _ => false)
  | _, _ => false
def kDpAll (K : PySem.W.Frag) : List PyData → List Value → Bool
  | [], [] => true
  | d :: ds, v :: vs => kDp K d v && kDpAll K ds vs
  | _, _ => false
end
mutual
theorem kDp_ok {K : PySem.W.Frag} {H : Hp} : ∀ (d : PyData) (u : Value), kDp K d u = true → ∃ v, RelV v u ∧ Dp K H v d
  | .int i, .int j t, h => by
    simp only [kDp, beq_iff_eq] at h
    subst h
    exact ⟨.int i, ⟨t, rfl⟩, .int i⟩
  | .tuple ds, .ref a, h => by
    simp only [kDp] at h
    split at h
    · rename_i t od its n sl e
      simp only [Bool.and_eq_true, beq_iff_eq, decide_eq_true_eq] at h
      obtain ⟨⟨h1, h2⟩, h3⟩ := h
      obtain ⟨vs, h4, h5⟩ := kDpAll_ok (H := H) ds its.toList h3
      exact ⟨.ref a, rfl, .tup (.inr ⟨_, its, n, e, by rw [h1], rfl, Nat.le_trans h2 (by decide), h4⟩) h5⟩
    · cases h
  | .list ds, .ref a, h => by
    simp only [kDp] at h
    split at h
    · rename_i t its n sl e
      simp only [Bool.and_eq_true, beq_iff_eq, decide_eq_true_eq] at h
      obtain ⟨⟨h1, h2⟩, h3⟩ := h
      obtain ⟨vs, h4, h5⟩ := kDpAll_ok (H := H) ds its.toList h3
      exact ⟨.ref a, rfl, .lst (.inr ⟨_, its, n, e, by rw [h1], rfl, rfl, Nat.le_trans h2 (by decide), h4⟩) h5⟩
    · cases h
  | .none, _, h => by simp [kDp] at h
  | .bool _, _, h => by simp [kDp] at h
  | .str _, _, h => by simp [kDp] at h
  | .dict _, _, h => by simp [kDp] at h
  | .int _, .none, h => by simp [kDp] at h
  | .int _, .ref _, h => by simp [kDp] at h
  | .int _, .bool _, h => by simp [kDp] at h
  | .int _, .str _ _, h => by simp [kDp] at h
theorem kDpAll_ok {K : PySem.W.Frag} {H : Hp} : ∀ (ds : List PyData) (us : List Value), kDpAll K ds us = true → ∃ vs, Vals vs us ∧ DpAll K H vs ds
  | [], [], _ => ⟨[], .nil, .nil⟩
  | d :: ds, u :: us, h => by
    simp only [kDpAll, Bool.and_eq_true] at h
    obtain ⟨v, h1, h2⟩ := kDp_ok (H := H) d u h.1
    obtain ⟨vs, h3, h4⟩ := kDpAll_ok (H := H) ds us h.2
    exact ⟨v :: vs, .cons h1 h3, .cons h2 h4⟩
  | [], _ :: _, h => by simp [kDpAll] at h
  | _ :: _, [], h => by simp [kDpAll] at h
end
theorem kDp_ref {K : PySem.W.Frag} {H : Hp} {d : PyData} {a : Addr} (h : kDp K d (.ref a) = true) : Dp K H (.ref a) d := by
  obtain ⟨v, h1, h2⟩ := kDp_ok (H := H) d (.ref a) h
  cases v with
  | ref b => cases h1; exact h2
  | _ => first | (cases h1; done) | (obtain ⟨t, e⟩ := h1; cases e)
abbrev p01 (x y : Int) : PyData := .tuple [.tuple [.int x, .int 1], .tuple [.int y, .int 1]]
theorem whole_d : dPart whole = .list [p01 0 0, p01 1 0, p01 1 1, p01 0 1] := by kernel_rfl
theorem nought_d : dR 0 = .tuple [.int 0, .int 1] := by kernel_rfl
theorem all_mk {l : PySem.W.OpenLaw} {w : World} {K : PySem.W.Frag} {h : Heap} {mg : Str → Option Value} {fa : Addr} (X : K.In h) (G : h.Ns mainGlobals mg) (hfa : mg "law" = some (.ref fa)) (hT : l.prog.given.tree = none)
    (c7 : Fact K "is_whole" (topS 7))
    (c8 : Fact K "divisor_of" (topS 8))
    (c9 : Fact K "ratio_of" (topS 9))
    (c10 : Fact K "ratio_sum" (topS 10))
    (c11 : Fact K "ratio_less" (topS 11))
    (c12 : Fact K "ratio_times" (topS 12))
    (c13 : Fact K "ratio_by" (topS 13))
    (c14 : Fact K "is_under" (topS 14))
    (c17 : Fact K "share_of" (topS 17))
    (c18 : Fact K "turn_at" (topS 18))
    (c19 : Fact K "between" (topS 19))
    (c20 : Fact K "kept_side" (topS 20))
    (c21 : Fact K "is_before" (topS 21))
    (c22 : Fact K "tidied_part" (topS 22))
    (c23 : Fact K "both_of" (topS 23))
    (c25 : Fact K "triple_sum" (topS 25))
    (c26 : Fact K "triple_less" (topS 26))
    (c27 : Fact K "dot_of" (topS 27))
    (c28 : Fact K "cross_of" (topS 28))
    (c30 : Fact K "front_of" (topS 30))
    (c31 : Fact K "comes_from_ahead" (topS 31))
    (c33 : Fact K "point_less" (topS 33))
    (c34 : Fact K "point_dot" (topS 34))
    (c35 : Fact K "meeting_of" (topS 35))
    (c37 : Fact K "direction_at" (topS 37))
    (c38 : Fact K "is_up" (topS 38))
    (c42 : Fact K "corners_of" (topS 42))
    (c43 : Fact K "as_point" (topS 43))
    (c44 : Fact K "shaded_by" (topS 44))
    (c45 : Fact K "left_of" (topS 45))
    (c46 : Fact K "lit_share" (topS 46))
    (c48 : Fact K "_law_cell_at" (topS 48))
    (c49 : Fact K "_law_draw" (topS 49))
    (c50 : Fact K "_law_low" (topS 50))
    (c51 : Fact K "_law_add" (topS 51))
    (c54 : Fact K "_law_under" (topS 54))
    (c55 : Fact K "_law_number" (topS 55))
    (c56 : Fact K "_law_triple" (topS 56))
    (c57 : Fact K "_law_cross" (topS 57))
    (c58 : Fact K "_law_dot" (topS 58))
    (c59 : Fact K "_law_plate" (topS 59))
    (c60 : Fact K "_law_ahead" (topS 60))
    (c61 : Fact K "_law_sum" (topS 61))
    (c62 : Fact K "_law_far" (topS 62))
    (c63 : Fact K "_law_about" (topS 63))
    (c64 : Fact K "_law_tip" (topS 64))
    (c65 : Fact K "_law_left" (topS 65))
    (c66 : Fact K "_law_yard" (topS 66))
    (c67 : Fact K "_law_hour" (topS 67))
    (c68 : Fact K "law" (topS 68))
    {aN aW bm : Addr} {tM : Tok} {ob : Obj} (gN : PySem.W.nsIn K mainGlobals "NOUGHT" = some (some (.ref aN))) (kN : kDp K (.tuple [.int 0, .int 1]) (.ref aN) = true)
    (gW : PySem.W.nsIn K mainGlobals "WHOLE" = some (some (.ref aW))) (kW : kDp K (.list [p01 0 0, p01 1 0, p01 1 1, p01 0 1]) (.ref aW) = true) (gM : PySem.W.nsIn K mainGlobals "MOST" = some (some (.int 6 tM)))
    (z0 : PySem.W.nsIn K mainGlobals "isinstance" = some none) (z1 : PySem.W.nsIn K mainGlobals "int" = some none) (z2 : PySem.W.nsIn K mainGlobals "bool" = some none) (z3 : PySem.W.nsIn K mainGlobals "abs" = some none) (z4 : PySem.W.nsIn K mainGlobals "range" = some none) (z5 : PySem.W.nsIn K mainGlobals "len" = some none) (z6 : PySem.W.nsIn K mainGlobals "tuple" = some none) (z7 : PySem.W.nsIn K mainGlobals "zip" = some none) (z8 : PySem.W.nsIn K mainGlobals "max" = some none) (z9 : PySem.W.nsIn K mainGlobals "min" = some none) (z10 : PySem.W.nsIn K mainGlobals "list" = some none)
    (s1 : noName K sysModules "_pylong" = true) (s2 : noName K cStatics "sys.audit-hooks" = true) (s3 : noName K cStatics "sys.dict" = true) (s4 : PySem.W.nsIn K mainGlobals "__builtins__" = some (some (.ref bm))) (s5 : K.lookup bm = some ob) (s6 : ob.cls = .type "module") (s7 : ob.dict = some builtinsNs) :
    ∃ fd : FuncData, (∀ (s : Shared) (v : Value), BindsTo s fd ⟨[v], []⟩ [("_law_script", v)]) ∧ ∀ base : Heap, K.In base → base.Ns mainGlobals mg → FnOk l.prog w K mg base CX0 52 fa fd ["_law_script"] (spLaw K) := by
  obtain ⟨f, od, an, sl, oc, kV, dc, pm, cd, ct, h1, h2, h3, h4⟩ := c68
  have e := hfa.symm.trans (PySem.W.mg_of X G h1)
  cases e
  have F := fun_mk (st := topS 68) h2 h3 h4
  have dN : ∀ H, Dp K H (.ref aN) (dR 0) := fun H => by rw [nought_d]; exact kDp_ref kN
  have dW : ∀ H, Dp K H (.ref aW) (dPart whole) := fun H => by rw [whole_d]; exact kDp_ref kW
  have mN := PySem.W.mg_of X G gN
  have mW := PySem.W.mg_of X G gW
  have mM := PySem.W.mg_of X G gM
  have b0 := PySem.W.mg_none_of X G z0
  have b1 := PySem.W.mg_none_of X G z1
  have b2 := PySem.W.mg_none_of X G z2
  have b3 := PySem.W.mg_none_of X G z3
  have b4 := PySem.W.mg_none_of X G z4
  have b5 := PySem.W.mg_none_of X G z5
  have b6 := PySem.W.mg_none_of X G z6
  have b7 := PySem.W.mg_none_of X G z7
  have b8 := PySem.W.mg_none_of X G z8
  have b9 := PySem.W.mg_none_of X G z9
  have b10 := PySem.W.mg_none_of X G z10
  have D7 := c7.df (ps := ["thing"]) X G fun _ _ _ _ _ _ us hl => match us, hl with | [_], _ => rfl
  have D8 := c8.df (ps := ["one", "other"]) X G fun _ _ _ _ _ _ us hl => match us, hl with | [_, _], _ => rfl
  have D9 := c9.df (ps := ["top", "bottom"]) X G fun _ _ _ _ _ _ us hl => match us, hl with | [_, _], _ => rfl
  have D10 := c10.df (ps := ["one", "other"]) X G fun _ _ _ _ _ _ us hl => match us, hl with | [_, _], _ => rfl
  have D11 := c11.df (ps := ["one", "other"]) X G fun _ _ _ _ _ _ us hl => match us, hl with | [_, _], _ => rfl
  have D12 := c12.df (ps := ["one", "other"]) X G fun _ _ _ _ _ _ us hl => match us, hl with | [_, _], _ => rfl
  have D13 := c13.df (ps := ["one", "other"]) X G fun _ _ _ _ _ _ us hl => match us, hl with | [_, _], _ => rfl
  have D14 := c14.df (ps := ["one", "other"]) X G fun _ _ _ _ _ _ us hl => match us, hl with | [_, _], _ => rfl
  have D17 := c17.df (ps := ["part"]) X G fun _ _ _ _ _ _ us hl => match us, hl with | [_], _ => rfl
  have D18 := c18.df (ps := ["one", "other", "place"]) X G fun _ _ _ _ _ _ us hl => match us, hl with | [_, _, _], _ => rfl
  have D19 := c19.df (ps := ["one", "other", "here", "there"]) X G fun _ _ _ _ _ _ us hl => match us, hl with | [_, _, _, _], _ => rfl
  have D20 := c20.df (ps := ["corners", "heights"]) X G fun _ _ _ _ _ _ us hl => match us, hl with | [_, _], _ => rfl
  have D21 := c21.df (ps := ["one", "other"]) X G fun _ _ _ _ _ _ us hl => match us, hl with | [_, _], _ => rfl
  have D22 := c22.df (ps := ["corners"]) X G fun _ _ _ _ _ _ us hl => match us, hl with | [_], _ => rfl
  have D23 := c23.df (ps := ["one", "other"]) X G fun _ _ _ _ _ _ us hl => match us, hl with | [_, _], _ => rfl
  have D25 := c25.df (ps := ["one", "other"]) X G fun _ _ _ _ _ _ us hl => match us, hl with | [_, _], _ => rfl
  have D26 := c26.df (ps := ["one", "other"]) X G fun _ _ _ _ _ _ us hl => match us, hl with | [_, _], _ => rfl
  have D27 := c27.df (ps := ["one", "other"]) X G fun _ _ _ _ _ _ us hl => match us, hl with | [_, _], _ => rfl
  have D28 := c28.df (ps := ["one", "other"]) X G fun _ _ _ _ _ _ us hl => match us, hl with | [_, _], _ => rfl
  have D30 := c30.df (ps := ["plate"]) X G fun _ _ _ _ _ _ us hl => match us, hl with | [_], _ => rfl
  have D31 := c31.df (ps := ["plate", "direction"]) X G fun _ _ _ _ _ _ us hl => match us, hl with | [_, _], _ => rfl
  have D33 := c33.df (ps := ["one", "other"]) X G fun _ _ _ _ _ _ us hl => match us, hl with | [_, _], _ => rfl
  have D34 := c34.df (ps := ["point", "triple"]) X G fun _ _ _ _ _ _ us hl => match us, hl with | [_, _], _ => rfl
  have D35 := c35.df (ps := ["plate", "point", "direction"]) X G fun _ _ _ _ _ _ us hl => match us, hl with | [_, _, _], _ => rfl
  have D37 := c37.df (ps := ["sun", "hour"]) X G fun _ _ _ _ _ _ us hl => match us, hl with | [_, _], _ => rfl
  have D38 := c38.df (ps := ["sun", "hour"]) X G fun _ _ _ _ _ _ us hl => match us, hl with | [_, _], _ => rfl
  have D42 := c42.df (ps := ["plate"]) X G fun _ _ _ _ _ _ us hl => match us, hl with | [_], _ => rfl
  have D43 := c43.df (ps := ["triple"]) X G fun _ _ _ _ _ _ us hl => match us, hl with | [_], _ => rfl
  have D44 := c44.df (ps := ["plate", "other", "direction"]) X G fun _ _ _ _ _ _ us hl => match us, hl with | [_, _, _], _ => rfl
  have D45 := c45.df (ps := ["part", "parts"]) X G fun _ _ _ _ _ _ us hl => match us, hl with | [_, _], _ => rfl
  have D46 := c46.df (ps := ["yard", "hour", "name"]) X G fun _ _ _ _ _ _ us hl => match us, hl with | [_, _, _], _ => rfl
  have D48 := c48.df (ps := ["_law_script", "_law_k"]) X G fun _ _ _ _ _ _ us hl => match us, hl with | [_, _], _ => rfl
  have D49 := c49.df (ps := ["_law_cell", "_law_k", "_law_many"]) X G fun _ _ _ _ _ _ us hl => match us, hl with | [_, _, _], _ => rfl
  have D50 := c50.df (ps := ["_law_top", "_law_bottom"]) X G fun _ _ _ _ _ _ us hl => match us, hl with | [_, _], _ => rfl
  have D51 := c51.df (ps := ["_law_one", "_law_other"]) X G fun _ _ _ _ _ _ us hl => match us, hl with | [_, _], _ => rfl
  have D54 := c54.df (ps := ["_law_one", "_law_other"]) X G fun _ _ _ _ _ _ us hl => match us, hl with | [_, _], _ => rfl
  have D55 := c55.df (ps := ["_law_cell", "_law_k"]) X G fun _ _ _ _ _ _ us hl => match us, hl with | [_, _], _ => rfl
  have D56 := c56.df (ps := ["_law_cell", "_law_k"]) X G fun _ _ _ _ _ _ us hl => match us, hl with | [_, _], _ => rfl
  have D57 := c57.df (ps := ["_law_one", "_law_other"]) X G fun _ _ _ _ _ _ us hl => match us, hl with | [_, _], _ => rfl
  have D58 := c58.df (ps := ["_law_one", "_law_other"]) X G fun _ _ _ _ _ _ us hl => match us, hl with | [_, _], _ => rfl
  have D59 := c59.df (ps := ["_law_cell", "_law_k"]) X G fun _ _ _ _ _ _ us hl => match us, hl with | [_, _], _ => rfl
  have D60 := c60.df (ps := ["_law_front", "_law_found"]) X G fun _ _ _ _ _ _ us hl => match us, hl with | [_, _], _ => rfl
  have D61 := c61.df (ps := ["_law_one", "_law_other", "_law_many"]) X G fun _ _ _ _ _ _ us hl => match us, hl with | [_, _, _], _ => rfl
  have D62 := c62.df (ps := ["_law_triples"]) X G fun _ _ _ _ _ _ us hl => match us, hl with | [_], _ => rfl
  have D63 := c63.df (ps := ["_law_plate_here", "_law_direction", "_law_cell"]) X G fun _ _ _ _ _ _ us hl => match us, hl with | [_, _, _], _ => rfl
  have D64 := c64.df (ps := ["_law_plate_here", "_law_cell"]) X G fun _ _ _ _ _ _ us hl => match us, hl with | [_, _], _ => rfl
  have D65 := c65.df (ps := ["_law_parts"]) X G fun _ _ _ _ _ _ us hl => match us, hl with | [_], _ => rfl
  have D66 := c66.df (ps := ["_law_sun", "_law_plates", "_law_tips"]) X G fun _ _ _ _ _ _ us hl => match us, hl with | [_, _, _], _ => rfl
  have D67 := c67.df (ps := ["_law_sun", "_law_plates", "_law_tips", "_law_at"]) X G fun _ _ _ _ _ _ us hl => match us, hl with | [_, _, _, _], _ => rfl
  refine ⟨PySem.W.fnOf "law" "law" (defArgs sLaw) (defBody sLaw) (defScope sLaw) .none kV dc pm an cd ct, fun s v => .of_eq rfl, fun base _ _ => ⟨by rintro _ _ _ _ ⟨_, _, rfl, _⟩; rfl, fun A outer s H args us vs Q E hr he => ?_⟩⟩
  have hN := seer_of he.mod s1 s2 s3 (PySem.W.mg_of X G s4) s5 s6 s7
  have H7 := ok_whole (P := l.prog) (w := w) (base := base) D7 b0 b1 b2
  have H8 := ok_divisor (P := l.prog) (w := w) (base := base) D8 b3
  have H9 := ok_ratioOf (P := l.prog) (w := w) (base := base) D9 H7 H8 hN hT
  have H10 := ok_ratio_sum D10 H9
  have H11 := ok_ratio_less D11 H9
  have H12 := ok_ratio_times D12 H9
  have H13 := ok_ratio_by D13 H9
  have H14 := ok_under (P := l.prog) (w := w) (base := base) D14
  have H17 := ok_share D17 mN dN b4 b5 H10 H11 H12 H9
  have H18 := ok_turn D18 H11 H12
  have H19 := ok_between D19 b6 b7 H10 H11 H12 H13
  have H20 := ok_kept D20 mN dN b4 b5 H14 H12 H19
  have H21 := ok_before D21 H14
  have H22 := ok_tidied D22 mN dN b4 b5 H14 H18 H17 H21
  have H23 := ok_both D23 b4 b5 H18 H20 H22
  have H25 := ok_triple_sum (P := l.prog) (w := w) (base := base) D25
  have H26 := ok_triple_less (P := l.prog) (w := w) (base := base) D26
  have H27 := ok_dot_of (P := l.prog) (w := w) (base := base) D27
  have H28 := ok_cross_of (P := l.prog) (w := w) (base := base) D28
  have H30 := ok_front D30 H28
  have H31 := ok_ahead D31 H30 H27
  have H33 := ok_pless D33 b6 b7 H11
  have H34 := ok_pdot D34 b7 H10 H12
  have H35 := ok_meet D35 H28 H27 H30 H33 H34 H13
  have H37 := ok_dirAt (P := l.prog) (w := w) (base := base) D37
  have H38 := ok_isUp D38 H37
  have H42 := ok_corners D42 H25
  have H43 := ok_point (P := l.prog) (w := w) (base := base) D43 b6
  have H44 := ok_shaded D44 b8 b10 mW dW H30 H42 H27 H26 H43 H20 H35 H22 H23
  have H45 := ok_left D45 H17 H11 H23 3
  have H46 := ok_lit D46 b5 b10 mW dW mM H37 H38 H31 H44 H45
  have H48 := ok_cellAt (P := l.prog) (w := w) (base := base) D48 b5
  have H49 := ok_draw (P := l.prog) (w := w) (base := base) D49 b4
  have H50 := ok_low (P := l.prog) (w := w) (base := base) D50 b3 hN hT
  have H51 := ok_ladd D51 H50
  have H54 := ok_lunder (P := l.prog) (w := w) (base := base) D54
  have H55 := ok_number D55 H49
  have H56 := ok_triple D56 H55
  have H57 := ok_law_cross (P := l.prog) (w := w) (base := base) D57
  have H58 := ok_law_dot (P := l.prog) (w := w) (base := base) D58
  have H59 := ok_plate D59 H56 H57
  have H60 := ok_lahead D60 b6 b7 b1 H58
  have H61 := ok_lsum (P := l.prog) (w := w) (base := base) D61 b6 b7
  have H62 := ok_far (P := l.prog) (w := w) (base := base) D62 b8 b9
  have H63 := ok_about D63 H61 H49 H59 H57 H62
  have H64 := ok_tip D64 b6 b4 H57 H60 H49 H61 H62
  have H65 := ok_lleft D65 H23 H17 H51
  have H66 := ok_yard (P := l.prog) (w := w) (base := base) D66 b4 b5
  have H67 := ok_hour D67 b4 b5 H66 H46 H58 H57 H44 H65 H54
  exact (ok_law F b4 H48 H59 (tip2 H64) H56 H49 H60 H57 H62 H63 H66 H46 H67).run A outer s H args us vs Q E hr he
end Yd

open PySem PySem.W PyProof.Rows
set_option maxHeartbeats 0 in
theorem PySem.Challenge.cw_dialyard_k77_whole_lit_by_parts_holds : PySem.Challenge.rw_dialyard_k77_whole_lit_by_parts.Holds := by
  w_on; o_law; x_head; (case hw => w_witness2)
  k_fill
  refine L2.walk_of (l := PySem.Challenge.rw_dialyard_k77_whole_lit_by_parts) (n := 63) (k := 52) (x := "_law_script") (CX := fun _ => L2.CX0) (sp := fun w => Yd.spLaw _) rfl (by decide) rfl ⟨rfl, by decide, by decide⟩ (fun w h Y => PySem.W.kIn_of Y) ?F (fun _ _ a ns hl _ hS => ⟨a, ns, rfl, hS, hl, fun _ => rfl⟩) (fun _ _ _ _ _ h => h)
  case F =>
    intro w mg fa h KX G hmg
    refine' Yd.all_mk KX G hmg rfl ?c7 ?c8 ?c9 ?c10 ?c11 ?c12 ?c13 ?c14 ?c17 ?c18 ?c19 ?c20 ?c21 ?c22 ?c23 ?c25 ?c26 ?c27 ?c28 ?c30 ?c31 ?c33 ?c34 ?c35 ?c37 ?c38 ?c42 ?c43 ?c44 ?c45 ?c46 ?c48 ?c49 ?c50 ?c51 ?c54 ?c55 ?c56 ?c57 ?c58 ?c59 ?c60 ?c61 ?c62 ?c63 ?c64 ?c65 ?c66 ?c67 ?c68 ?gN ?kN ?gW ?kW ?gM ?z0 ?z1 ?z2 ?z3 ?z4 ?z5 ?z6 ?z7 ?z8 ?z9 ?z10 ?s1 ?s2 ?s3 ?s4 ?s5 ?s6 ?s7
    (case c7 => refine' Yd.fact_mk ?a7 ?b7 ?d7 ?e7; (case a7 => k_is); (case b7 => k_is); (case d7 => k_is); (case e7 => k_is))
    (case c8 => refine' Yd.fact_mk ?a8 ?b8 ?d8 ?e8; (case a8 => k_is); (case b8 => k_is); (case d8 => k_is); (case e8 => k_is))
    (case c9 => refine' Yd.fact_mk ?a9 ?b9 ?d9 ?e9; (case a9 => k_is); (case b9 => k_is); (case d9 => k_is); (case e9 => k_is))
    (case c10 => refine' Yd.fact_mk ?a10 ?b10 ?d10 ?e10; (case a10 => k_is); (case b10 => k_is); (case d10 => k_is); (case e10 => k_is))
    (case c11 => refine' Yd.fact_mk ?a11 ?b11 ?d11 ?e11; (case a11 => k_is); (case b11 => k_is); (case d11 => k_is); (case e11 => k_is))
    (case c12 => refine' Yd.fact_mk ?a12 ?b12 ?d12 ?e12; (case a12 => k_is); (case b12 => k_is); (case d12 => k_is); (case e12 => k_is))
    (case c13 => refine' Yd.fact_mk ?a13 ?b13 ?d13 ?e13; (case a13 => k_is); (case b13 => k_is); (case d13 => k_is); (case e13 => k_is))
    (case c14 => refine' Yd.fact_mk ?a14 ?b14 ?d14 ?e14; (case a14 => k_is); (case b14 => k_is); (case d14 => k_is); (case e14 => k_is))
    (case c17 => refine' Yd.fact_mk ?a17 ?b17 ?d17 ?e17; (case a17 => k_is); (case b17 => k_is); (case d17 => k_is); (case e17 => k_is))
    (case c18 => refine' Yd.fact_mk ?a18 ?b18 ?d18 ?e18; (case a18 => k_is); (case b18 => k_is); (case d18 => k_is); (case e18 => k_is))
    (case c19 => refine' Yd.fact_mk ?a19 ?b19 ?d19 ?e19; (case a19 => k_is); (case b19 => k_is); (case d19 => k_is); (case e19 => k_is))
    (case c20 => refine' Yd.fact_mk ?a20 ?b20 ?d20 ?e20; (case a20 => k_is); (case b20 => k_is); (case d20 => k_is); (case e20 => k_is))
    (case c21 => refine' Yd.fact_mk ?a21 ?b21 ?d21 ?e21; (case a21 => k_is); (case b21 => k_is); (case d21 => k_is); (case e21 => k_is))
    (case c22 => refine' Yd.fact_mk ?a22 ?b22 ?d22 ?e22; (case a22 => k_is); (case b22 => k_is); (case d22 => k_is); (case e22 => k_is))
    (case c23 => refine' Yd.fact_mk ?a23 ?b23 ?d23 ?e23; (case a23 => k_is); (case b23 => k_is); (case d23 => k_is); (case e23 => k_is))
    (case c25 => refine' Yd.fact_mk ?a25 ?b25 ?d25 ?e25; (case a25 => k_is); (case b25 => k_is); (case d25 => k_is); (case e25 => k_is))
    (case c26 => refine' Yd.fact_mk ?a26 ?b26 ?d26 ?e26; (case a26 => k_is); (case b26 => k_is); (case d26 => k_is); (case e26 => k_is))
    (case c27 => refine' Yd.fact_mk ?a27 ?b27 ?d27 ?e27; (case a27 => k_is); (case b27 => k_is); (case d27 => k_is); (case e27 => k_is))
    (case c28 => refine' Yd.fact_mk ?a28 ?b28 ?d28 ?e28; (case a28 => k_is); (case b28 => k_is); (case d28 => k_is); (case e28 => k_is))
    (case c30 => refine' Yd.fact_mk ?a30 ?b30 ?d30 ?e30; (case a30 => k_is); (case b30 => k_is); (case d30 => k_is); (case e30 => k_is))
    (case c31 => refine' Yd.fact_mk ?a31 ?b31 ?d31 ?e31; (case a31 => k_is); (case b31 => k_is); (case d31 => k_is); (case e31 => k_is))
    (case c33 => refine' Yd.fact_mk ?a33 ?b33 ?d33 ?e33; (case a33 => k_is); (case b33 => k_is); (case d33 => k_is); (case e33 => k_is))
    (case c34 => refine' Yd.fact_mk ?a34 ?b34 ?d34 ?e34; (case a34 => k_is); (case b34 => k_is); (case d34 => k_is); (case e34 => k_is))
    (case c35 => refine' Yd.fact_mk ?a35 ?b35 ?d35 ?e35; (case a35 => k_is); (case b35 => k_is); (case d35 => k_is); (case e35 => k_is))
    (case c37 => refine' Yd.fact_mk ?a37 ?b37 ?d37 ?e37; (case a37 => k_is); (case b37 => k_is); (case d37 => k_is); (case e37 => k_is))
    (case c38 => refine' Yd.fact_mk ?a38 ?b38 ?d38 ?e38; (case a38 => k_is); (case b38 => k_is); (case d38 => k_is); (case e38 => k_is))
    (case c42 => refine' Yd.fact_mk ?a42 ?b42 ?d42 ?e42; (case a42 => k_is); (case b42 => k_is); (case d42 => k_is); (case e42 => k_is))
    (case c43 => refine' Yd.fact_mk ?a43 ?b43 ?d43 ?e43; (case a43 => k_is); (case b43 => k_is); (case d43 => k_is); (case e43 => k_is))
    (case c44 => refine' Yd.fact_mk ?a44 ?b44 ?d44 ?e44; (case a44 => k_is); (case b44 => k_is); (case d44 => k_is); (case e44 => k_is))
    (case c45 => refine' Yd.fact_mk ?a45 ?b45 ?d45 ?e45; (case a45 => k_is); (case b45 => k_is); (case d45 => k_is); (case e45 => k_is))
    (case c46 => refine' Yd.fact_mk ?a46 ?b46 ?d46 ?e46; (case a46 => k_is); (case b46 => k_is); (case d46 => k_is); (case e46 => k_is))
    (case c48 => refine' Yd.fact_mk ?a48 ?b48 ?d48 ?e48; (case a48 => k_is); (case b48 => k_is); (case d48 => k_is); (case e48 => k_is))
    (case c49 => refine' Yd.fact_mk ?a49 ?b49 ?d49 ?e49; (case a49 => k_is); (case b49 => k_is); (case d49 => k_is); (case e49 => k_is))
    (case c50 => refine' Yd.fact_mk ?a50 ?b50 ?d50 ?e50; (case a50 => k_is); (case b50 => k_is); (case d50 => k_is); (case e50 => k_is))
    (case c51 => refine' Yd.fact_mk ?a51 ?b51 ?d51 ?e51; (case a51 => k_is); (case b51 => k_is); (case d51 => k_is); (case e51 => k_is))
    (case c54 => refine' Yd.fact_mk ?a54 ?b54 ?d54 ?e54; (case a54 => k_is); (case b54 => k_is); (case d54 => k_is); (case e54 => k_is))
    (case c55 => refine' Yd.fact_mk ?a55 ?b55 ?d55 ?e55; (case a55 => k_is); (case b55 => k_is); (case d55 => k_is); (case e55 => k_is))
    (case c56 => refine' Yd.fact_mk ?a56 ?b56 ?d56 ?e56; (case a56 => k_is); (case b56 => k_is); (case d56 => k_is); (case e56 => k_is))
    (case c57 => refine' Yd.fact_mk ?a57 ?b57 ?d57 ?e57; (case a57 => k_is); (case b57 => k_is); (case d57 => k_is); (case e57 => k_is))
    (case c58 => refine' Yd.fact_mk ?a58 ?b58 ?d58 ?e58; (case a58 => k_is); (case b58 => k_is); (case d58 => k_is); (case e58 => k_is))
    (case c59 => refine' Yd.fact_mk ?a59 ?b59 ?d59 ?e59; (case a59 => k_is); (case b59 => k_is); (case d59 => k_is); (case e59 => k_is))
    (case c60 => refine' Yd.fact_mk ?a60 ?b60 ?d60 ?e60; (case a60 => k_is); (case b60 => k_is); (case d60 => k_is); (case e60 => k_is))
    (case c61 => refine' Yd.fact_mk ?a61 ?b61 ?d61 ?e61; (case a61 => k_is); (case b61 => k_is); (case d61 => k_is); (case e61 => k_is))
    (case c62 => refine' Yd.fact_mk ?a62 ?b62 ?d62 ?e62; (case a62 => k_is); (case b62 => k_is); (case d62 => k_is); (case e62 => k_is))
    (case c63 => refine' Yd.fact_mk ?a63 ?b63 ?d63 ?e63; (case a63 => k_is); (case b63 => k_is); (case d63 => k_is); (case e63 => k_is))
    (case c64 => refine' Yd.fact_mk ?a64 ?b64 ?d64 ?e64; (case a64 => k_is); (case b64 => k_is); (case d64 => k_is); (case e64 => k_is))
    (case c65 => refine' Yd.fact_mk ?a65 ?b65 ?d65 ?e65; (case a65 => k_is); (case b65 => k_is); (case d65 => k_is); (case e65 => k_is))
    (case c66 => refine' Yd.fact_mk ?a66 ?b66 ?d66 ?e66; (case a66 => k_is); (case b66 => k_is); (case d66 => k_is); (case e66 => k_is))
    (case c67 => refine' Yd.fact_mk ?a67 ?b67 ?d67 ?e67; (case a67 => k_is); (case b67 => k_is); (case d67 => k_is); (case e67 => k_is))
    (case c68 => refine' Yd.fact_mk ?a68 ?b68 ?d68 ?e68; (case a68 => k_is); (case b68 => k_is); (case d68 => k_is); (case e68 => k_is))
    (case gN => k_is); (case kN => kernel_rfl); (case gW => k_is); (case kW => kernel_rfl); (case gM => k_is)
    (case z0 => k_is)
    (case z1 => k_is)
    (case z2 => k_is)
    (case z3 => k_is)
    (case z4 => k_is)
    (case z5 => k_is)
    (case z6 => k_is)
    (case z7 => k_is)
    (case z8 => k_is)
    (case z9 => k_is)
    (case z10 => k_is)
    (case s1 => kernel_rfl); (case s2 => kernel_rfl); (case s3 => kernel_rfl); (case s4 => k_is); (case s5 => k_is); (case s6 => rfl); (case s7 => rfl)

