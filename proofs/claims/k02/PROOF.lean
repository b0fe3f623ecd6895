import PyProof.Rows.All
import Wide.All
import OpenK.AllK
import Wide.FinOn
import PyProof.EqAt
import PyProof.EqKinds
import PyProof.TupleCall
import HandS.ForMost
import HandS.ForExc
import HandS.Wide
import HandS.Deep
import HandS.Sort
import HandS.SortRule
import HandS.IsInst
import HandS.ExcIs
import HandS.TryMany
import HandS.Defaults
import HandS.Codes
import HandS.Style
import HandS.Head0
import HandS.Head1
import HandS.Head2
import HandS.HeadEnd
import HandS.HeadHook1
import HandS.HeadHook2
import HandS.HeadHook3
import HandS.HeadHook4
import KE.DataFind
import HandS.SortInts
import PySem.Challenge.RW_buddyyard_k02_sizes
set_option Elab.async false
set_option linter.all false
set_option maxRecDepth 100000
set_option maxHeartbeats 4000000
set_option linter.all false
/-! The mathematics of halves of halves: trees, their free pieces and those that are out. No program here. -/
namespace Bud

/-- a piece: where it begins, its size -/
abbrev Pc := Int × Int

def pw (k : Nat) : Int := 2 ^ k
theorem pw_zero : pw 0 = 1 := rfl
theorem pw_succ (k : Nat) : pw (k + 1) = 2 * pw k := by
  show (2 : Int) ^ (k + 1) = 2 * 2 ^ k
  rw [Int.pow_succ, Int.mul_comm]
theorem pw_pos (k : Nat) : 0 < pw k := by
  induction k with
  | zero => exact Int.zero_lt_one
  | succ k ih => rw [pw_succ]; omega
theorem pw_add (j k : Nat) : pw (j + k) = pw j * pw k := Int.pow_add 2 j k
theorem pw_dvd {j k : Nat} (h : j ≤ k) : pw j ∣ pw k := by
  obtain ⟨d, rfl⟩ := Nat.exists_eq_add_of_le h
  rw [pw_add]
  exact Int.dvd_mul_right _ _
theorem pw_le {j k : Nat} (h : j ≤ k) : pw j ≤ pw k := Int.le_of_dvd (pw_pos k) (pw_dvd h)
theorem pw_lt {j k : Nat} (h : j < k) : pw j < pw k := by
  have h1 := pw_le (Nat.succ_le_of_lt h)
  have h2 := pw_pos j
  rw [Nat.succ_eq_add_one, pw_succ] at h1
  omega
theorem pw_inj {j k : Nat} (h : pw j = pw k) : j = k := by
  rcases Nat.lt_trichotomy j k with q | q | q
  · have := pw_lt q; omega
  · exact q
  · have := pw_lt q; omega
theorem pw_lt_iff {j k : Nat} : pw j < pw k ↔ j < k := by
  constructor
  · intro h
    rcases Nat.lt_or_ge j k with q | q
    · exact q
    · have := pw_le q; omega
  · exact pw_lt
theorem pw_le_iff {j k : Nat} : pw j ≤ pw k ↔ j ≤ k := by
  constructor
  · intro h
    rcases Nat.lt_or_ge k j with q | q
    · have := pw_lt q; omega
    · exact q
  · exact pw_le

/-! ### two multiples of one number -/
theorem mul_gap {s a b : Int} (hs : 0 < s) (ha : s ∣ a) (hb : s ∣ b) (h : a < b) : a + s ≤ b := by
  obtain ⟨x, rfl⟩ := ha
  obtain ⟨y, rfl⟩ := hb
  have h1 : x < y := Int.lt_of_mul_lt_mul_left h (Int.le_of_lt hs)
  have h2 : s * (x + 1) ≤ s * y := Int.mul_le_mul_of_nonneg_left (by omega) (Int.le_of_lt hs)
  rw [Int.mul_add, Int.mul_one] at h2
  exact h2

/-! ### the order of pieces -/
def lexle (p q : Pc) : Prop := p.1 < q.1 ∨ (p.1 = q.1 ∧ p.2 ≤ q.2)
theorem lexle_antisymm {p q : Pc} (h : lexle p q) (h' : lexle q p) : p = q := by
  obtain ⟨a, b⟩ := p
  obtain ⟨c, d⟩ := q
  unfold lexle at h h'
  simp only at h h'
  have e1 : a = c := by omega
  have e2 : b = d := by omega
  rw [e1, e2]
theorem lexle_trans {p q r : Pc} (h : lexle p q) (h' : lexle q r) : lexle p r := by
  unfold lexle at *
  omega
def Srt (l : List Pc) : Prop := l.Pairwise lexle
theorem srt_uniq : ∀ {l m : List Pc}, Srt l → Srt m → l.Perm m → l = m
  | [], m, _, _, h => (List.Perm.eq_nil h.symm).symm
  | x :: l, [], _, _, h => absurd h.length_eq (by simp)
  | x :: l, y :: m, hl, hm, h => by
    have e : x = y := by
      rcases List.mem_cons.mp (h.mem_iff.mp (List.mem_cons_self (a := x) (l := l))) with e | hx
      · exact e
      · rcases List.mem_cons.mp (h.mem_iff.mpr (List.mem_cons_self (a := y) (l := m))) with e | hy
        · exact e.symm
        · exact lexle_antisymm ((List.pairwise_cons.mp hl).1 y hy) ((List.pairwise_cons.mp hm).1 x hx)
    subst e
    rw [srt_uniq (List.pairwise_cons.mp hl).2 (List.pairwise_cons.mp hm).2 h.cons_inv]

/-! ### trees -/
inductive T : Nat → Type where
  | free {k : Nat} : T k
  | out {k : Nat} : T k
  | node {k : Nat} (l r : T k) : T (k + 1)

def isFree : {k : Nat} → T k → Bool
  | _, .free => true
  | _, .out => false
  | _, .node _ _ => false
def frees : {k : Nat} → T k → Int → List Pc
  | k, .free, b => [(b, pw k)]
  | _, .out, _ => []
  | k + 1, .node l r, b => frees l b ++ frees r (b + pw k)
def outs : {k : Nat} → T k → Int → List Pc
  | _, .free, _ => []
  | k, .out, b => [(b, pw k)]
  | k + 1, .node l r, b => outs l b ++ outs r (b + pw k)
def Can : {k : Nat} → T k → Prop
  | _, .free => True
  | _, .out => True
  | _, .node l r => Can l ∧ Can r ∧ ¬ (isFree l = true ∧ isFree r = true)
/-- all pieces in a row, whether each is out -/
def pcs : {k : Nat} → T k → Int → List (Pc × Bool)
  | k, .free, b => [((b, pw k), false)]
  | k, .out, b => [((b, pw k), true)]
  | k + 1, .node l r, b => pcs l b ++ pcs r (b + pw k)
def isOut : {k : Nat} → T k → Bool
  | _, .free => false
  | _, .out => true
  | _, .node _ _ => false

theorem free_of_isFree {k : Nat} {t : T k} (h : isFree t = true) : t = .free := by
  cases t with
  | free => rfl
  | out => cases h
  | node l r => cases h

/-- what a piece of a tree of height k at b is -/
def In (k : Nat) (b : Int) (p : Pc) : Prop := b ≤ p.1 ∧ p.1 + p.2 ≤ b + pw k ∧ ∃ j, j ≤ k ∧ p.2 = pw j ∧ pw j ∣ p.1
theorem In.left {k : Nat} {b : Int} {p : Pc} (h : In k b p) : In (k + 1) b p := by
  obtain ⟨h1, h2, j, h3, h4, h5⟩ := h
  have := pw_pos k
  exact ⟨h1, by rw [pw_succ]; omega, j, Nat.le_succ_of_le h3, h4, h5⟩
theorem In.right {k : Nat} {b : Int} {p : Pc} (h : In k (b + pw k) p) : In (k + 1) b p := by
  obtain ⟨h1, h2, j, h3, h4, h5⟩ := h
  have := pw_pos k
  exact ⟨by omega, by rw [pw_succ]; omega, j, Nat.le_succ_of_le h3, h4, h5⟩
theorem dvd_left {k : Nat} {b : Int} (h : pw (k + 1) ∣ b) : pw k ∣ b := Int.dvd_trans (pw_dvd (Nat.le_succ k)) h
theorem dvd_right {k : Nat} {b : Int} (h : pw (k + 1) ∣ b) : pw k ∣ b + pw k := Int.dvd_add (dvd_left h) (Int.dvd_refl _)
theorem in_self {k : Nat} {b : Int} (h : pw k ∣ b) : In k b (b, pw k) := ⟨Int.le_refl _, Int.le_refl _, k, Nat.le_refl k, rfl, h⟩
theorem in_frees : ∀ {k : Nat} (t : T k) {b : Int} {p : Pc}, pw k ∣ b → p ∈ frees t b → In k b p
  | _, .free, b, p, h, hp => by
    rw [List.mem_singleton.mp hp]
    exact in_self h
  | _, .out, b, p, h, hp => by cases hp
  | _, .node l r, b, p, h, hp => by
    rcases List.mem_append.mp hp with q | q
    · exact (in_frees l (dvd_left h) q).left
    · exact (in_frees r (dvd_right h) q).right
theorem in_outs : ∀ {k : Nat} (t : T k) {b : Int} {p : Pc}, pw k ∣ b → p ∈ outs t b → In k b p
  | _, .free, b, p, h, hp => by cases hp
  | _, .out, b, p, h, hp => by
    rw [List.mem_singleton.mp hp]
    exact in_self h
  | _, .node l r, b, p, h, hp => by
    rcases List.mem_append.mp hp with q | q
    · exact (in_outs l (dvd_left h) q).left
    · exact (in_outs r (dvd_right h) q).right
theorem In.pos {k : Nat} {b : Int} {p : Pc} (h : In k b p) : 0 < p.2 := by
  obtain ⟨_, _, j, _, e, _⟩ := h
  rw [e]
  exact pw_pos j

/-! ### in a row -/
/-- one behind the other, from b to e -/
def Row : List Pc → Int → Int → Prop
  | [], b, e => b = e
  | p :: l, b, e => p.1 = b ∧ Row l (b + p.2) e
theorem Row.append : ∀ {l m : List Pc} {b c e : Int}, Row l b c → Row m c e → Row (l ++ m) b e
  | [], m, b, c, e, h, h' => by
    cases h
    exact h'
  | p :: l, m, b, c, e, h, h' => ⟨h.1, Row.append h.2 h'⟩
theorem pcs_row : ∀ {k : Nat} (t : T k) (b : Int), Row ((pcs t b).map (·.1)) b (b + pw k)
  | _, .free, b => ⟨rfl, rfl⟩
  | _, .out, b => ⟨rfl, rfl⟩
  | k + 1, .node l r, b => by
    show Row ((pcs l b ++ pcs r (b + pw k)).map (·.1)) b (b + pw (k + 1))
    rw [List.map_append]
    have e : b + pw (k + 1) = b + pw k + pw k := by rw [pw_succ]; omega
    rw [e]
    exact (pcs_row l b).append (pcs_row r (b + pw k))
theorem pcs_frees : ∀ {k : Nat} (t : T k) (b : Int), ((pcs t b).filter (fun p => !p.2)).map (·.1) = frees t b
  | _, .free, b => rfl
  | _, .out, b => rfl
  | k + 1, .node l r, b => by
    show ((pcs l b ++ pcs r (b + pw k)).filter (fun p => !p.2)).map (·.1) = frees l b ++ frees r (b + pw k)
    rw [List.filter_append, List.map_append, pcs_frees, pcs_frees]
theorem pcs_outs : ∀ {k : Nat} (t : T k) (b : Int), ((pcs t b).filter (fun p => p.2)).map (·.1) = outs t b
  | _, .free, b => rfl
  | _, .out, b => rfl
  | k + 1, .node l r, b => by
    show ((pcs l b ++ pcs r (b + pw k)).filter (fun p => p.2)).map (·.1) = outs l b ++ outs r (b + pw k)
    rw [List.filter_append, List.map_append, pcs_outs, pcs_outs]
theorem pcs_perm : ∀ {k : Nat} (t : T k) (b : Int), ((pcs t b).map (·.1)).Perm (outs t b ++ frees t b)
  | _, .free, b => List.Perm.refl _
  | _, .out, b => List.Perm.refl _
  | k + 1, .node l r, b => by
    show ((pcs l b ++ pcs r (b + pw k)).map (·.1)).Perm ((outs l b ++ outs r (b + pw k)) ++ (frees l b ++ frees r (b + pw k)))
    rw [List.map_append]
    refine ((pcs_perm l b).append (pcs_perm r (b + pw k))).trans ?_
    rw [List.append_assoc, List.append_assoc]
    refine List.Perm.append_left _ ?_
    rw [← List.append_assoc, ← List.append_assoc]
    exact List.Perm.append_right _ List.perm_append_comm

/-- apart, the left one ahead -/
def Ahead (p q : Pc) : Prop := p.1 + p.2 ≤ q.1
theorem ahead_frees : ∀ {k : Nat} (t : T k) {b : Int}, pw k ∣ b → (frees t b).Pairwise Ahead
  | _, .free, b, _ => List.pairwise_singleton _ _
  | _, .out, b, _ => List.Pairwise.nil
  | k + 1, .node l r, b, h => by
    refine List.pairwise_append.mpr ⟨ahead_frees l (dvd_left h), ahead_frees r (dvd_right h), fun x hx y hy => ?_⟩
    have h1 := (in_frees l (dvd_left h) hx).2.1
    have h2 := (in_frees r (dvd_right h) hy).1
    unfold Ahead
    omega
theorem ahead_outs : ∀ {k : Nat} (t : T k) {b : Int}, pw k ∣ b → (outs t b).Pairwise Ahead
  | _, .free, b, _ => List.Pairwise.nil
  | _, .out, b, _ => List.pairwise_singleton _ _
  | k + 1, .node l r, b, h => by
    refine List.pairwise_append.mpr ⟨ahead_outs l (dvd_left h), ahead_outs r (dvd_right h), fun x hx y hy => ?_⟩
    have h1 := (in_outs l (dvd_left h) hx).2.1
    have h2 := (in_outs r (dvd_right h) hy).1
    unfold Ahead
    omega
theorem apart : ∀ {k : Nat} (t : T k) {b : Int}, pw k ∣ b → ∀ p ∈ outs t b, ∀ q ∈ frees t b, Ahead p q ∨ Ahead q p
  | _, .free, b, _, p, hp, q, hq => by cases hp
  | _, .out, b, _, p, hp, q, hq => by cases hq
  | k + 1, .node l r, b, h, p, hp, q, hq => by
    rcases List.mem_append.mp hp with hp | hp
    · rcases List.mem_append.mp hq with hq | hq
      · exact apart l (dvd_left h) p hp q hq
      · have h1 := (in_outs l (dvd_left h) hp).2.1
        have h2 := (in_frees r (dvd_right h) hq).1
        unfold Ahead
        omega
    · rcases List.mem_append.mp hq with hq | hq
      · have h1 := (in_frees l (dvd_left h) hq).2.1
        have h2 := (in_outs r (dvd_right h) hp).1
        unfold Ahead
        omega
      · exact apart r (dvd_right h) p hp q hq
theorem srt_of_ahead {l : List Pc} (h : l.Pairwise Ahead) (hp : ∀ p ∈ l, 0 < p.2) : Srt l := by
  refine List.Pairwise.imp_of_mem (R := Ahead) (fun {p q} hx hy a => ?_) h
  have := hp p hx
  unfold Ahead at a
  exact .inl (by omega)
theorem srt_frees {k : Nat} (t : T k) {b : Int} (h : pw k ∣ b) : Srt (frees t b) := srt_of_ahead (ahead_frees t h) fun p hp => (in_frees t h hp).pos
theorem srt_outs {k : Nat} (t : T k) {b : Int} (h : pw k ∣ b) : Srt (outs t b) := srt_of_ahead (ahead_outs t h) fun p hp => (in_outs t h hp).pos
theorem fst_inj_of_ahead {l : List Pc} (h : l.Pairwise Ahead) (hp : ∀ p ∈ l, 0 < p.2) : ∀ p ∈ l, ∀ q ∈ l, p.1 = q.1 → p = q := by
  induction l with
  | nil => intro p hp; cases hp
  | cons x l ih =>
    have ⟨h1, h2⟩ := List.pairwise_cons.mp h
    intro p hp' q hq' e
    rcases List.mem_cons.mp hp' with rfl | hp1
    · rcases List.mem_cons.mp hq' with rfl | hq1
      · rfl
      · have a := h1 q hq1
        have := hp p List.mem_cons_self
        unfold Ahead at a
        omega
    · rcases List.mem_cons.mp hq' with rfl | hq1
      · have a := h1 p hp1
        have := hp q List.mem_cons_self
        unfold Ahead at a
        omega
      · exact ih h2 (fun z hz => hp z (List.mem_cons_of_mem _ hz)) p hp1 q hq1 e
theorem nodup_fst_of_ahead {l : List Pc} (h : l.Pairwise Ahead) (hp : ∀ p ∈ l, 0 < p.2) : (l.map (·.1)).Nodup := by
  refine List.pairwise_map.mpr ?_
  refine List.Pairwise.imp_of_mem (R := Ahead) (fun {p q} hx hy a => ?_) h
  have := hp p hx
  unfold Ahead at a
  omega

/-! ### a tree of which nothing is out is free -/
theorem free_of_noOuts : ∀ {k : Nat} (t : T k) (b : Int), Can t → outs t b = [] → isFree t = true
  | _, .free, b, _, _ => rfl
  | _, .out, b, _, h => by cases h
  | k + 1, .node l r, b, h, e => by
    have ⟨e1, e2⟩ := List.append_eq_nil_iff.mp e
    exact absurd ⟨free_of_noOuts l b h.1 e1, free_of_noOuts r (b + pw k) h.2.1 e2⟩ h.2.2

/-! ### no two twins are free -/
theorem no_twins : ∀ {k : Nat} (t : T k) {b : Int}, Can t → pw k ∣ b → ∀ (j : Nat) (a : Int), j < k → pw (j + 1) ∣ a → (a, pw j) ∈ frees t b → (a + pw j, pw j) ∈ frees t b → False
  | k, .free, b, _, _, j, a, hj, _, h1, _ => by
    have e := List.mem_singleton.mp h1
    have e2 : pw j = pw k := congrArg Prod.snd e
    have := pw_inj e2
    omega
  | _, .out, b, _, _, j, a, _, _, h1, _ => by cases h1
  | k + 1, .node l r, b, hc, hb, j, a, hj, ha, h1, h2 => by
    have il := fun {p} (hp : p ∈ frees l b) => in_frees l (dvd_left hb) hp
    have ir := fun {p} (hp : p ∈ frees r (b + pw k)) => in_frees r (dvd_right hb) hp
    have pj := pw_pos j
    rcases Nat.lt_or_ge j k with q | q
    · rcases List.mem_append.mp h1 with g1 | g1
      · rcases List.mem_append.mp h2 with g2 | g2
        · exact no_twins l hc.1 (dvd_left hb) j a q ha g1 g2
        · have i1 := (il g1).2.1
          have i2 := (ir g2).1
          simp only at i1 i2
          have e : a + pw j = b + pw k := by omega
          have d1 : pw (j + 1) ∣ b + pw k := Int.dvd_trans (pw_dvd q) (dvd_right hb)
          have d2 : pw (j + 1) ∣ pw j := by
            have : pw j = (b + pw k) - a := by omega
            rw [this]
            exact Int.dvd_sub d1 ha
          have := Int.le_of_dvd pj d2
          rw [pw_succ] at this
          omega
      · rcases List.mem_append.mp h2 with g2 | g2
        · have i1 := (ir g1).1
          have i2 := (il g2).2.1
          simp only at i1 i2
          omega
        · exact no_twins r hc.2.1 (dvd_right hb) j a q ha g1 g2
    · have ej : j = k := by omega
      subst ej
      rcases List.mem_append.mp h1 with g1 | g1
      · rcases List.mem_append.mp h2 with g2 | g2
        · have i1 := (il g1).1
          have i2 := (il g2).2.1
          simp only at i1 i2
          omega
        · -- both children are free
          have f1 : isFree l = true := by
            cases l with
            | free => rfl
            | out => cases g1
            | node x y =>
              rename_i k'
              exfalso
              rcases List.mem_append.mp g1 with g | g
              · have i := (in_frees x (dvd_left (dvd_left hb)) g).2.2
                obtain ⟨i, hi, e, _⟩ := i
                have := pw_inj e
                omega
              · have i := (in_frees y (dvd_right (dvd_left hb)) g).2.2
                obtain ⟨i, hi, e, _⟩ := i
                have := pw_inj e
                omega
          have f2 : isFree r = true := by
            cases r with
            | free => rfl
            | out => cases g2
            | node x y =>
              rename_i k'
              exfalso
              rcases List.mem_append.mp g2 with g | g
              · have i := (in_frees x (dvd_left (dvd_right hb)) g).2.2
                obtain ⟨i, hi, e, _⟩ := i
                have := pw_inj e
                omega
              · have i := (in_frees y (dvd_right (dvd_right hb)) g).2.2
                obtain ⟨i, hi, e, _⟩ := i
                have := pw_inj e
                omega
          exact hc.2.2 ⟨f1, f2⟩
      · rcases List.mem_append.mp h2 with g2 | g2
        · have i1 := (ir g1).1
          have i2 := (il g2).2.1
          simp only at i1 i2
          omega
        · have i1 := (ir g1).1
          have i2 := (ir g2).2.1
          simp only at i1 i2
          omega

/-! ### a part of a tree, and another in its place -/
inductive At : {k : Nat} → T k → Int → {m : Nat} → T m → Int → Prop where
  | here {k : Nat} (t : T k) (b : Int) : At t b t b
  | left {k m : Nat} {l r : T k} {b : Int} {v : T m} {a : Int} (h : At l b v a) : At (.node l r) b v a
  | right {k m : Nat} {l r : T k} {b : Int} {v : T m} {a : Int} (h : At r (b + pw k) v a) : At (.node l r) b v a
theorem At.le {k m : Nat} {t : T k} {b : Int} {v : T m} {a : Int} (h : At t b v a) : m ≤ k := by
  induction h with
  | here => exact Nat.le_refl _
  | left _ ih => omega
  | right _ ih => omega
theorem at_free : ∀ {k : Nat} (t : T k) {b : Int} {a : Int} {m : Nat}, (a, pw m) ∈ frees t b → At t b (.free : T m) a
  | k, .free, b, a, m, h => by
    have e := List.mem_singleton.mp h
    have e1 : a = b := congrArg Prod.fst e
    have e2 := pw_inj (congrArg Prod.snd e : pw m = pw k)
    subst e1
    subst e2
    exact .here _ _
  | _, .out, b, a, m, h => by cases h
  | k + 1, .node l r, b, a, m, h => by
    rcases List.mem_append.mp h with q | q
    · exact .left (at_free l q)
    · exact .right (at_free r q)
theorem at_out : ∀ {k : Nat} (t : T k) {b : Int} {a : Int} {m : Nat}, (a, pw m) ∈ outs t b → At t b (.out : T m) a
  | _, .free, b, a, m, h => by cases h
  | k, .out, b, a, m, h => by
    have e := List.mem_singleton.mp h
    have e1 : a = b := congrArg Prod.fst e
    have e2 := pw_inj (congrArg Prod.snd e : pw m = pw k)
    subst e1
    subst e2
    exact .here _ _
  | k + 1, .node l r, b, a, m, h => by
    rcases List.mem_append.mp h with q | q
    · exact .left (at_out l q)
    · exact .right (at_out r q)
/-- u, which is not free, in v's place -/
theorem At.put {k m : Nat} {t : T k} {b : Int} {v : T m} {a : Int} (h : At t b v a) (hc : Can t) (u : T m) (hu : Can u) (hf : isFree u = false) :
    ∃ t' : T k, Can t' ∧ isFree t' = false ∧ ∃ L R L' R', frees t b = L ++ frees v a ++ R ∧ frees t' b = L ++ frees u a ++ R ∧ outs t b = L' ++ outs v a ++ R' ∧ outs t' b = L' ++ outs u a ++ R' := by
  induction h with
  | here t b => exact ⟨u, hu, hf, [], [], [], [], by simp, by simp, by simp, by simp⟩
  | @left k m l r b v a h ih =>
    obtain ⟨t', c', f', L, R, L', R', e1, e2, e3, e4⟩ := ih hc.1 u hu hf
    refine ⟨.node t' r, ⟨c', hc.2.1, fun q => by rw [f'] at q; cases q.1⟩, rfl, L, R ++ frees r (b + pw k), L', R' ++ outs r (b + pw k), ?_, ?_, ?_, ?_⟩
    · show frees l b ++ frees r (b + pw k) = _
      rw [e1]; simp
    · show frees t' b ++ frees r (b + pw k) = _
      rw [e2]; simp
    · show outs l b ++ outs r (b + pw k) = _
      rw [e3]; simp
    · show outs t' b ++ outs r (b + pw k) = _
      rw [e4]; simp
  | @right k m l r b v a h ih =>
    obtain ⟨t', c', f', L, R, L', R', e1, e2, e3, e4⟩ := ih hc.2.1 u hu hf
    refine ⟨.node l t', ⟨hc.1, c', fun q => by rw [f'] at q; cases q.2⟩, rfl, frees l b ++ L, R, outs l b ++ L', R', ?_, ?_, ?_, ?_⟩
    · show frees l b ++ frees r (b + pw k) = _
      rw [e1]; simp
    · show frees l b ++ frees t' (b + pw k) = _
      rw [e2]; simp
    · show outs l b ++ outs r (b + pw k) = _
      rw [e3]; simp
    · show outs l b ++ outs t' (b + pw k) = _
      rw [e4]; simp

/-! ### halved down to the lower end -/
/-- j: the height of what is out; d more levels above -/
def spine (j : Nat) : (d : Nat) → T (j + d)
  | 0 => .out
  | d + 1 => .node (spine j d) .free
theorem spine_can (j : Nat) : ∀ d, Can (spine j d) ∧ isFree (spine j d) = false
  | 0 => ⟨trivial, rfl⟩
  | d + 1 => ⟨⟨(spine_can j d).1, trivial, fun q => by rw [(spine_can j d).2] at q; cases q.1⟩, rfl⟩
theorem spine_outs (j : Nat) (b : Int) : ∀ d, outs (spine j d) b = [(b, pw j)]
  | 0 => rfl
  | d + 1 => by
    show outs (spine j d) b ++ [] = _
    rw [spine_outs j b d]
    rfl
/-- the upper halves, the least first -/
def ups (b : Int) (j : Nat) : Nat → List Pc
  | 0 => []
  | d + 1 => ups b j d ++ [(b + pw (j + d), pw (j + d))]
theorem spine_frees (j : Nat) (b : Int) : ∀ d, frees (spine j d) b = ups b j d
  | 0 => rfl
  | d + 1 => by
    show frees (spine j d) b ++ [(b + pw (j + d), pw (j + d))] = ups b j (d + 1)
    rw [spine_frees j b d]
    rfl
theorem mem_ups {b : Int} {j : Nat} {p : Pc} : ∀ {d : Nat}, p ∈ ups b j d ↔ ∃ i, i < d ∧ p = (b + pw (j + i), pw (j + i))
  | 0 => ⟨fun h => (by cases h), fun ⟨i, h, _⟩ => absurd h (Nat.not_lt_zero i)⟩
  | d + 1 => by
    show p ∈ ups b j d ++ [(b + pw (j + d), pw (j + d))] ↔ _
    rw [List.mem_append, mem_ups, List.mem_singleton]
    constructor
    · rintro (⟨i, h, e⟩ | e)
      · exact ⟨i, Nat.lt_succ_of_lt h, e⟩
      · exact ⟨d, Nat.lt_succ_self d, e⟩
    · rintro ⟨i, h, e⟩
      rcases Nat.lt_or_ge i d with q | q
      · exact .inl ⟨i, q, e⟩
      · have : i = d := by omega
        subst this
        exact .inr e
/-- a tree of which just the piece at its lower end is out -/
theorem spine_of : ∀ {k : Nat} (t : T k) {b : Int} {j : Nat}, Can t → pw k ∣ b → outs t b = [(b, pw j)] → ∃ d, ∃ e : j + d = k, t = e ▸ spine j d
  | _, .free, b, j, _, _, h => by cases h
  | k, .out, b, j, _, _, h => by
    have e : pw k = pw j := congrArg Prod.snd (List.cons.inj h).1
    have := pw_inj e
    subst this
    exact ⟨0, rfl, rfl⟩
  | k + 1, .node l r, b, j, hc, hb, h => by
    have h' : outs l b ++ outs r (b + pw k) = [(b, pw j)] := h
    have pk := pw_pos k
    cases e : outs l b with
    | nil =>
      rw [e, List.nil_append] at h'
      have m : ((b, pw j) : Pc) ∈ outs r (b + pw k) := by rw [h']; exact List.mem_singleton.mpr rfl
      have := (in_outs r (dvd_right hb) m).1
      simp only at this
      omega
    | cons p l' =>
      rw [e] at h'
      have ⟨e1, e2⟩ := List.cons.inj h'
      have ⟨e3, e4⟩ := List.append_eq_nil_iff.mp e2
      subst e1
      subst e3
      have fr := free_of_isFree (free_of_noOuts r (b + pw k) hc.2.1 e4)
      subst fr
      obtain ⟨d, ed, et⟩ := spine_of l hc.1 (dvd_left hb) e
      subst ed
      refine ⟨d + 1, rfl, ?_⟩
      rw [et]
      rfl
end Bud

set_option linter.all false
namespace Bud

theorem top_free {k : Nat} {t : T k} {b c : Int} (hb : pw k ∣ b) (h : (c, pw k) ∈ frees t b) : isFree t = true := by
  cases t with
  | free => rfl
  | out => cases h
  | node x y =>
    rename_i k'
    exfalso
    rcases List.mem_append.mp h with g | g
    · have i := (in_frees x (dvd_left hb) g).2.2
      obtain ⟨i, hi, e, _⟩ := i
      have := pw_inj e
      omega
    · have i := (in_frees y (dvd_right hb) g).2.2
      obtain ⟨i, hi, e, _⟩ := i
      have := pw_inj e
      omega
theorem free_mem {k : Nat} {t : T k} {b : Int} (h : isFree t = true) : (b, pw k) ∈ frees t b := by
  rw [free_of_isFree h]
  exact List.mem_singleton.mpr rfl

/-! ### the fitting size -/
def feG : Nat → Nat → Int → Nat
  | 0, n, _ => n
  | f + 1, n, w => if w ≤ pw n then n else feG f (n + 1) w
def fe (w : Int) : Nat := feG w.toNat 0 w
def fit (w : Int) : Int := pw (fe w)
theorem pw_ge (n : Nat) : (n : Int) < pw n := by
  induction n with
  | zero => exact Int.zero_lt_one
  | succ n ih => rw [pw_succ]; omega
theorem feG_spec : ∀ (f n : Nat) (w : Int), w ≤ pw (n + f) → (∀ i, i < n → pw i < w) → w ≤ pw (feG f n w) ∧ ∀ i, i < feG f n w → pw i < w
  | 0, n, w, h, h' => ⟨h, h'⟩
  | f + 1, n, w, h, h' => by
    unfold feG
    by_cases c : w ≤ pw n
    · rw [if_pos c]
      exact ⟨c, h'⟩
    · rw [if_neg c]
      refine feG_spec f (n + 1) w ?_ ?_
      · have : n + 1 + f = n + (f + 1) := by omega
        rw [this]
        exact h
      · intro i hi
        rcases Nat.lt_or_ge i n with q | q
        · exact h' i q
        · have : i = n := by omega
          rw [this]
          omega
theorem fe_spec (w : Int) : w ≤ pw (fe w) ∧ ∀ i, i < fe w → pw i < w := by
  refine feG_spec w.toNat 0 w ?_ (fun i hi => absurd hi (Nat.not_lt_zero i))
  have := pw_ge w.toNat
  rw [Nat.zero_add]
  omega
theorem fe_le {w : Int} {n : Nat} (h : w ≤ pw n) : fe w ≤ n := by
  rcases Nat.lt_or_ge n (fe w) with q | q
  · have := (fe_spec w).2 n q
    omega
  · exact q
theorem fit_ge (w : Int) : w ≤ fit w := (fe_spec w).1
theorem fe_eq {w : Int} {n : Nat} (h : w ≤ pw n) (h' : ∀ i, i < n → pw i < w) : fe w = n := by
  have h1 := fe_le h
  rcases Nat.lt_or_ge (fe w) n with q | q
  · have := h' _ q
    have := fit_ge w
    unfold fit at this
    omega
  · omega
theorem fe_eq' {w : Int} {n : Nat} (h : w ≤ pw n) (h' : n = 0 ∨ ∃ m, n = m + 1 ∧ pw m < w) : fe w = n := by
  refine fe_eq h fun i hi => ?_
  rcases h' with e | ⟨m, e, q⟩
  · omega
  · have := pw_le (show i ≤ m by omega)
    omega
theorem fit_le_iff {w : Int} {n : Nat} : fit w ≤ pw n ↔ w ≤ pw n := by
  constructor
  · intro h
    have := fit_ge w
    omega
  · intro h
    exact pw_le (fe_le h)

/-! ### twins -/
def twin (a s : Int) : Int := if a / s % 2 = 0 then a + s else a - s
theorem twin_even {a s : Int} (hs : 0 < s) (h : 2 * s ∣ a) : twin a s = a + s := by
  obtain ⟨x, rfl⟩ := h
  unfold twin
  have e : 2 * s * x / s = 2 * x := by
    rw [show 2 * s * x = s * (2 * x) by rw [Int.mul_comm 2 s, Int.mul_assoc]]
    exact Int.mul_ediv_cancel_left _ (by omega)
  rw [e, if_pos (by omega)]
theorem twin_odd {a s : Int} (hs : 0 < s) (h : 2 * s ∣ a - s) : twin a s = a - s := by
  obtain ⟨x, hx⟩ := h
  unfold twin
  have e : a / s = 2 * x + 1 := by
    have : a = s * (2 * x + 1) := by
      rw [Int.mul_add, Int.mul_one, ← Int.mul_assoc, Int.mul_comm s 2]
      omega
    rw [this]
    exact Int.mul_ediv_cancel_left _ (by omega)
  rw [e, if_neg (by omega)]
theorem dvd_two {a s : Int} (hs : 0 < s) (h : s ∣ a) : 2 * s ∣ a ∨ 2 * s ∣ a - s := by
  obtain ⟨x, rfl⟩ := h
  rcases (show x % 2 = 0 ∨ x % 2 = 1 by omega) with q | q
  · left
    refine ⟨x / 2, ?_⟩
    have e : x = 2 * (x / 2) := by omega
    calc s * x = s * (2 * (x / 2)) := by rw [← e]
      _ = 2 * s * (x / 2) := by rw [← Int.mul_assoc, Int.mul_comm s 2]
  · right
    refine ⟨x / 2, ?_⟩
    have e : x = 2 * (x / 2) + 1 := by omega
    calc s * x - s = s * (2 * (x / 2) + 1) - s := by rw [← e]
      _ = 2 * s * (x / 2) := by rw [Int.mul_add, Int.mul_one, ← Int.mul_assoc, Int.mul_comm s 2]; omega
theorem twin_left {k : Nat} {b : Int} (h : pw (k + 1) ∣ b) : twin b (pw k) = b + pw k := twin_even (pw_pos k) (by rw [← pw_succ]; exact h)
theorem twin_right {k : Nat} {b : Int} (h : pw (k + 1) ∣ b) : twin (b + pw k) (pw k) = b := by
  rw [twin_odd (pw_pos k)]
  · omega
  · rw [← pw_succ]
    have : b + pw k - pw k = b := by omega
    rw [this]
    exact h
/-- the twin lies a size on, where the piece begins at a multiple of twice the size, and only there -/
theorem twin_eq_iff {j : Nat} {a : Int} (h : pw j ∣ a) : twin a (pw j) = a + pw j ↔ pw (j + 1) ∣ a := by
  have hp := pw_pos j
  constructor
  · intro e
    rcases dvd_two hp h with q | q
    · rw [pw_succ]; exact q
    · rw [twin_odd hp q] at e
      omega
  · intro e
    exact twin_left e

/-! ### the smallest that is large enough -/
def better (w : Int) (f : Option Pc) (p : Pc) : Option Pc :=
  if w ≤ p.2 then (match f with | none => some p | some q => if p.2 < q.2 then some p else some q) else f
def bestOf (L : List Pc) (w : Int) : Option Pc := L.foldl (better w) none
theorem best_fold (w : Int) : ∀ (L : List Pc) (f : Option Pc), (∀ q, f = some q → w ≤ q.2) →
    (L.foldl (better w) f = none ↔ f = none ∧ ∀ p ∈ L, p.2 < w) ∧
    ∀ x, L.foldl (better w) f = some x → w ≤ x.2 ∧ (f = some x ∨ ∃ A B, L = A ++ x :: B ∧ (∀ p ∈ A, w ≤ p.2 → x.2 < p.2) ∧ ∀ q, f = some q → x.2 < q.2) ∧ (∀ p ∈ L, w ≤ p.2 → x.2 ≤ p.2) ∧ ∀ q, f = some q → x.2 ≤ q.2
  | [], f, hf => by
    refine ⟨⟨fun h => ⟨h, fun p hp => by cases hp⟩, fun h => h.1⟩, fun x hx => ?_⟩
    have hx' : f = some x := hx
    refine ⟨hf x hx', .inl hx', fun p hp => (by cases hp), fun q hq => ?_⟩
    rw [hx'] at hq
    cases hq
    exact Int.le_refl _
  | p :: L, f, hf => by
    show (L.foldl (better w) (better w f p) = none ↔ _) ∧ ∀ x, L.foldl (better w) (better w f p) = some x → _
    have hf' : ∀ q, better w f p = some q → w ≤ q.2 := by
      intro q hq
      unfold better at hq
      by_cases c : w ≤ p.2
      · rw [if_pos c] at hq
        cases f with
        | none => cases hq; exact c
        | some z =>
          simp only at hq
          by_cases d : p.2 < z.2
          · rw [if_pos d] at hq; cases hq; exact c
          · rw [if_neg d] at hq; cases hq; exact hf _ rfl
      · rw [if_neg c] at hq
        exact hf q hq
    obtain ⟨h1, h2⟩ := best_fold w L (better w f p) hf'
    constructor
    · rw [h1]
      constructor
      · rintro ⟨e, h⟩
        unfold better at e
        by_cases c : w ≤ p.2
        · rw [if_pos c] at e
          cases f with
          | none => cases e
          | some z =>
            simp only at e
            by_cases d : p.2 < z.2
            · rw [if_pos d] at e; cases e
            · rw [if_neg d] at e; cases e
        · rw [if_neg c] at e
          refine ⟨e, fun q hq => ?_⟩
          rcases List.mem_cons.mp hq with rfl | hq
          · omega
          · exact h q hq
      · rintro ⟨e, h⟩
        have c : ¬ w ≤ p.2 := by have := h p List.mem_cons_self; omega
        refine ⟨?_, fun q hq => h q (List.mem_cons_of_mem _ hq)⟩
        unfold better
        rw [if_neg c]
        exact e
    · intro x hx
      obtain ⟨g1, g2, g3, g4⟩ := h2 x hx
      by_cases c : w ≤ p.2
      · cases f with
        | none =>
          have eb : better w none p = some p := by unfold better; rw [if_pos c]
          rw [eb] at g2 g4
          have g4p := g4 p rfl
          refine ⟨g1, .inr ?_, fun q hq hw => ?_, fun q hq => by cases hq⟩
          · rcases g2 with e | ⟨A, B, e, g, g'⟩
            · cases e
              exact ⟨[], L, rfl, fun q hq => (by cases hq), fun q hq => by cases hq⟩
            · refine ⟨p :: A, B, by rw [e]; rfl, fun q hq hw => ?_, fun q hq => by cases hq⟩
              rcases List.mem_cons.mp hq with rfl | hq
              · exact g' _ rfl
              · exact g q hq hw
          · rcases List.mem_cons.mp hq with rfl | hq
            · exact g4p
            · exact g3 q hq hw
        | some z =>
          by_cases d : p.2 < z.2
          · have eb : better w (some z) p = some p := by unfold better; rw [if_pos c]; exact if_pos d
            rw [eb] at g2 g4
            have g4p := g4 p rfl
            refine ⟨g1, .inr ?_, fun q hq hw => ?_, fun q hq => ?_⟩
            · rcases g2 with e | ⟨A, B, e, g, g'⟩
              · cases e
                exact ⟨[], L, rfl, fun q hq => (by cases hq), fun q hq => by cases hq; exact d⟩
              · refine ⟨p :: A, B, by rw [e]; rfl, fun q hq hw => ?_, fun q hq => ?_⟩
                · rcases List.mem_cons.mp hq with rfl | hq
                  · exact g' _ rfl
                  · exact g q hq hw
                · cases hq
                  have := g' p rfl
                  omega
            · rcases List.mem_cons.mp hq with rfl | hq
              · exact g4p
              · exact g3 q hq hw
            · cases hq
              omega
          · have eb : better w (some z) p = some z := by unfold better; rw [if_pos c]; exact if_neg d
            rw [eb] at g2 g4
            have g4z := g4 z rfl
            refine ⟨g1, ?_, fun q hq hw => ?_, fun q hq => ?_⟩
            · rcases g2 with e | ⟨A, B, e, g, g'⟩
              · exact .inl e
              · refine .inr ⟨p :: A, B, by rw [e]; rfl, fun q hq hw => ?_, g'⟩
                rcases List.mem_cons.mp hq with rfl | hq
                · have := g' z rfl
                  omega
                · exact g q hq hw
            · rcases List.mem_cons.mp hq with rfl | hq
              · omega
              · exact g3 q hq hw
            · cases hq
              exact g4z
      · have eb : better w f p = f := by unfold better; rw [if_neg c]
        rw [eb] at g2 g4
        refine ⟨g1, ?_, fun q hq hw => ?_, g4⟩
        · rcases g2 with e | ⟨A, B, e, g, g'⟩
          · exact .inl e
          · refine .inr ⟨p :: A, B, by rw [e]; rfl, fun q hq hw => ?_, g'⟩
            rcases List.mem_cons.mp hq with rfl | hq
            · exact absurd hw c
            · exact g q hq hw
        · rcases List.mem_cons.mp hq with rfl | hq
          · exact absurd hw c
          · exact g3 q hq hw
theorem best_none {L : List Pc} {w : Int} : bestOf L w = none ↔ ∀ p ∈ L, p.2 < w := by
  have h := (best_fold w L none (fun q hq => by cases hq)).1
  exact ⟨fun e => (h.mp e).2, fun e => h.mpr ⟨rfl, e⟩⟩
theorem best_some {L : List Pc} {w : Int} {x : Pc} (h : bestOf L w = some x) : w ≤ x.2 ∧ (∃ A B, L = A ++ x :: B ∧ ∀ p ∈ A, w ≤ p.2 → x.2 < p.2) ∧ ∀ p ∈ L, w ≤ p.2 → x.2 ≤ p.2 := by
  obtain ⟨g1, g2, g3, _⟩ := (best_fold w L none (fun q hq => by cases hq)).2 x h
  rcases g2 with e | ⟨A, B, e, g, _⟩
  · cases e
  · exact ⟨g1, ⟨A, B, e, g⟩, g3⟩
theorem best_mem {L : List Pc} {w : Int} {x : Pc} (h : bestOf L w = some x) : x ∈ L := by
  obtain ⟨_, ⟨A, B, e, _⟩, _⟩ := best_some h
  rw [e]
  exact List.mem_append_right _ List.mem_cons_self
/-- among equally small ones the least place -/
theorem best_first {L : List Pc} {w : Int} {x : Pc} (hs : Srt L) (h : bestOf L w = some x) : ∀ p ∈ L, p.2 = x.2 → x.1 ≤ p.1 := by
  obtain ⟨g, ⟨A, B, e, hA⟩, _⟩ := best_some h
  intro p hp ep
  rw [e] at hp hs
  rcases List.mem_append.mp hp with q | q
  · have := hA p q (by omega)
    omega
  · rcases List.mem_cons.mp q with rfl | q
    · exact Int.le_refl _
    · have := (List.pairwise_cons.mp (List.pairwise_append.mp hs).2.1).1 p q
      unfold lexle at this
      omega
theorem best_uniq {L : List Pc} {w : Int} {x : Pc} (hs : Srt L) (hm : x ∈ L) (hw : w ≤ x.2) (hl : ∀ p ∈ L, w ≤ p.2 → x.2 ≤ p.2) (hf : ∀ p ∈ L, p.2 = x.2 → x.1 ≤ p.1) : bestOf L w = some x := by
  cases e : bestOf L w with
  | none => have := best_none.mp e x hm; omega
  | some y =>
    obtain ⟨g1, _, g3⟩ := best_some e
    have h1 := hl y (best_mem e) g1
    have h2 := g3 x hm hw
    have e2 : x.2 = y.2 := by omega
    have h3 := hf y (best_mem e) e2.symm
    have h4 := best_first hs e x hm e2
    have e1 : x.1 = y.1 := by omega
    rw [Prod.ext e1 e2]

/-! ### one that comes back -/
def pbk : Nat → List Pc → Int → Int → List Pc × Pc
  | 0, L, a, s => (L, (a, s))
  | n + 1, L, a, s => if (twin a s, s) ∈ L then pbk n (L.erase (twin a s, s)) (min a (twin a s)) (s * 2) else (L, (a, s))
def pb (L : List Pc) (a s : Int) : List Pc × Pc := pbk L.length L a s
theorem pb_in {L : List Pc} {a s : Int} (h : (twin a s, s) ∈ L) : pb L a s = pb (L.erase (twin a s, s)) (min a (twin a s)) (s * 2) := by
  have e := List.length_erase_of_mem h
  have hl := List.length_pos_of_mem h
  obtain ⟨n, hn⟩ : ∃ n, L.length = n + 1 := ⟨L.length - 1, by omega⟩
  unfold pb
  rw [e, hn]
  show (if (twin a s, s) ∈ L then _ else _) = _
  rw [if_pos h]
  rfl
theorem pb_out {L : List Pc} {a s : Int} (h : (twin a s, s) ∉ L) : pb L a s = (L, (a, s)) := by
  unfold pb
  cases L.length with
  | zero => rfl
  | succ n =>
    show (if (twin a s, s) ∈ L then _ else _) = _
    rw [if_neg h]

def mk {k : Nat} (l r : T k) : T (k + 1) := if isFree l = true ∧ isFree r = true then .free else .node l r
theorem mk_can {k : Nat} {l r : T k} (hl : Can l) (hr : Can r) : Can (mk l r) := by
  unfold mk
  by_cases c : isFree l = true ∧ isFree r = true
  · rw [if_pos c]; trivial
  · rw [if_neg c]; exact ⟨hl, hr, c⟩
theorem mk_outs {k : Nat} (l r : T k) (b : Int) : outs (mk l r) b = outs l b ++ outs r (b + pw k) := by
  unfold mk
  by_cases c : isFree l = true ∧ isFree r = true
  · rw [if_pos c, free_of_isFree c.1, free_of_isFree c.2]
    rfl
  · rw [if_neg c]; rfl
/-- the piece at a is free again -/
def back : {k : Nat} → T k → Int → Int → T k
  | _, .free, _, _ => .free
  | _, .out, _, _ => .free
  | k + 1, .node l r, b, a => if a < b + pw k then mk (back l b a) r else mk l (back r (b + pw k) a)
theorem back_can : ∀ {k : Nat} (t : T k) (b a : Int), Can t → Can (back t b a)
  | _, .free, _, _, _ => trivial
  | _, .out, _, _, _ => trivial
  | k + 1, .node l r, b, a, h => by
    show Can (if a < b + pw k then mk (back l b a) r else mk l (back r (b + pw k) a))
    by_cases c : a < b + pw k
    · rw [if_pos c]; exact mk_can (back_can l b a h.1) h.2.1
    · rw [if_neg c]; exact mk_can h.1 (back_can r _ a h.2.1)
theorem back_outs : ∀ {k : Nat} (t : T k) {b a s : Int}, pw k ∣ b → (a, s) ∈ outs t b → (outs t b).Perm ((a, s) :: outs (back t b a) b)
  | _, .free, b, a, s, _, h => by cases h
  | _, .out, b, a, s, _, h => by
    rw [List.mem_singleton.mp h]
    exact List.Perm.refl _
  | k + 1, .node l r, b, a, s, hb, h => by
    show (outs l b ++ outs r (b + pw k)).Perm ((a, s) :: outs (if a < b + pw k then mk (back l b a) r else mk l (back r (b + pw k) a)) b)
    rcases List.mem_append.mp h with q | q
    · have i := in_outs l (dvd_left hb) q
      have p := i.pos
      have i2 := i.2.1
      simp only at i2 p
      rw [if_pos (by omega), mk_outs]
      exact (back_outs l (dvd_left hb) q).append_right _
    · have i := (in_outs r (dvd_right hb) q).1
      simp only at i
      rw [if_neg (by omega), mk_outs]
      refine (List.Perm.append_left _ (back_outs r (dvd_right hb) q)).trans ?_
      exact List.perm_middle
/-- what the joining comes to: the sub-tree as a whole became free, and goes on, or it stops within it -/
theorem pb_back : ∀ {k : Nat} (t : T k) {b a : Int} {j : Nat} {F O : List Pc}, Can t → pw k ∣ b → (a, pw j) ∈ outs t b → (∀ p ∈ O, p.1 < b ∨ b + pw k ≤ p.1) → F.Perm (frees t b ++ O) →
    (isFree (back t b a) = true ∧ ∃ F', F'.Perm O ∧ pb F a (pw j) = pb F' b (pw k)) ∨
    (isFree (back t b a) = false ∧ ((pb F a (pw j)).2 :: (pb F a (pw j)).1).Perm (frees (back t b a) b ++ O))
  | _, .free, b, a, j, F, O, _, _, h, _, _ => by cases h
  | k, .out, b, a, j, F, O, _, _, h, _, hF => by
    have e := List.mem_singleton.mp h
    have e1 : a = b := congrArg Prod.fst e
    have e2 : pw j = pw k := congrArg Prod.snd e
    rw [e1, e2]
    exact .inl ⟨rfl, F, hF, rfl⟩
  | k + 1, .node l r, b, a, j, F, O, hc, hb, h, hO, hF => by
    have hF' : F.Perm (frees l b ++ frees r (b + pw k) ++ O) := hF
    have pk := pw_pos k
    have pk1 : pw (k + 1) = 2 * pw k := pw_succ k
    have eback : back (.node l r) b a = if a < b + pw k then mk (back l b a) r else mk l (back r (b + pw k) a) := rfl
    rcases List.mem_append.mp h with q | q
    · have i := in_outs l (dvd_left hb) q
      have p := i.pos
      have i2 := i.2.1
      simp only at i2 p
      rw [eback, if_pos (by omega)]
      have hO' : ∀ p ∈ frees r (b + pw k) ++ O, p.1 < b ∨ b + pw k ≤ p.1 := by
        intro p hp
        rcases List.mem_append.mp hp with hp | hp
        · exact .inr (in_frees r (dvd_right hb) hp).1
        · have := hO p hp
          omega
      rcases pb_back l (F := F) (O := frees r (b + pw k) ++ O) hc.1 (dvd_left hb) q hO' (by rw [← List.append_assoc]; exact hF') with ⟨g, F', hP, e⟩ | ⟨g, hP⟩
      · -- the lower half is free as a whole
        rw [e]
        by_cases c : isFree r = true
        · left
          have em : mk (back l b a) r = .free := by unfold mk; rw [if_pos ⟨g, c⟩]
          rw [em]
          refine ⟨rfl, F'.erase (b + pw k, pw k), ?_, ?_⟩
          · have er := free_of_isFree c
            rw [er] at hP
            have h1 := hP.erase (b + pw k, pw k)
            have e3 : (frees (.free : T k) (b + pw k) ++ O).erase (b + pw k, pw k) = O := by
              show ((b + pw k, pw k) :: O).erase (b + pw k, pw k) = O
              exact List.erase_cons_head _ _
            rw [e3] at h1
            exact h1
          · have et := twin_left hb
            have hm : (twin b (pw k), pw k) ∈ F' := by
              rw [et]
              exact hP.mem_iff.mpr (List.mem_append_left _ (free_mem c))
            rw [pb_in hm, et, pk1, Int.mul_comm 2 (pw k)]
            rw [show min b (b + pw k) = b by omega]
        · right
          have em : mk (back l b a) r = .node (back l b a) r := by unfold mk; rw [if_neg (fun z => c z.2)]
          rw [em]
          refine ⟨rfl, ?_⟩
          have et := twin_left hb
          have hm : (twin b (pw k), pw k) ∉ F' := by
            rw [et]
            intro z
            rcases List.mem_append.mp (hP.mem_iff.mp z) with z | z
            · exact c (top_free (dvd_right hb) z)
            · have := hO _ z
              simp only at this
              omega
          rw [pb_out hm]
          show ((b, pw k) :: F').Perm ((frees (back l b a) b ++ frees r (b + pw k)) ++ O)
          rw [free_of_isFree g]
          show ((b, pw k) :: F').Perm ((b, pw k) :: frees r (b + pw k) ++ O)
          exact hP.cons _
      · right
        have em : mk (back l b a) r = .node (back l b a) r := by unfold mk; rw [if_neg (fun z => by rw [g] at z; cases z.1)]
        rw [em]
        refine ⟨rfl, ?_⟩
        show (_ : List Pc).Perm ((frees (back l b a) b ++ frees r (b + pw k)) ++ O)
        rw [List.append_assoc]
        exact hP
    · have i := (in_outs r (dvd_right hb) q).1
      simp only at i
      rw [eback, if_neg (by omega)]
      have hO' : ∀ p ∈ frees l b ++ O, p.1 < b + pw k ∨ b + pw k + pw k ≤ p.1 := by
        intro p hp
        rcases List.mem_append.mp hp with hp | hp
        · have i := in_frees l (dvd_left hb) hp
          have := i.pos
          have := i.2.1
          omega
        · have := hO p hp
          omega
      have hF2 : F.Perm (frees r (b + pw k) ++ (frees l b ++ O)) := by
        refine hF'.trans ?_
        rw [← List.append_assoc]
        exact List.Perm.append_right _ List.perm_append_comm
      rcases pb_back r (F := F) (O := frees l b ++ O) hc.2.1 (dvd_right hb) q hO' hF2 with ⟨g, F', hP, e⟩ | ⟨g, hP⟩
      · rw [e]
        by_cases c : isFree l = true
        · left
          have em : mk l (back r (b + pw k) a) = .free := by unfold mk; rw [if_pos ⟨c, g⟩]
          rw [em]
          refine ⟨rfl, F'.erase (b, pw k), ?_, ?_⟩
          · have er := free_of_isFree c
            rw [er] at hP
            have h1 := hP.erase (b, pw k)
            have e3 : (frees (.free : T k) b ++ O).erase (b, pw k) = O := by
              show ((b, pw k) :: O).erase (b, pw k) = O
              exact List.erase_cons_head _ _
            rw [e3] at h1
            exact h1
          · have et := twin_right hb
            have hm : (twin (b + pw k) (pw k), pw k) ∈ F' := by
              rw [et]
              exact hP.mem_iff.mpr (List.mem_append_left _ (free_mem c))
            rw [pb_in hm, et, pk1, Int.mul_comm 2 (pw k)]
            rw [show min (b + pw k) b = b by omega]
        · right
          have em : mk l (back r (b + pw k) a) = .node l (back r (b + pw k) a) := by unfold mk; rw [if_neg (fun z => c z.1)]
          rw [em]
          refine ⟨rfl, ?_⟩
          have et := twin_right hb
          have hm : (twin (b + pw k) (pw k), pw k) ∉ F' := by
            rw [et]
            intro z
            rcases List.mem_append.mp (hP.mem_iff.mp z) with z | z
            · exact c (top_free (dvd_left hb) z)
            · have := hO _ z
              simp only at this
              omega
          rw [pb_out hm]
          show ((b + pw k, pw k) :: F').Perm ((frees l b ++ frees (back r (b + pw k) a) (b + pw k)) ++ O)
          rw [free_of_isFree g]
          show ((b + pw k, pw k) :: F').Perm ((frees l b ++ [(b + pw k, pw k)]) ++ O)
          refine (hP.cons _).trans ?_
          rw [List.append_assoc]
          exact List.perm_middle.symm
      · right
        have em : mk l (back r (b + pw k) a) = .node l (back r (b + pw k) a) := by unfold mk; rw [if_neg (fun z => by rw [g] at z; cases z.2)]
        rw [em]
        refine ⟨rfl, ?_⟩
        show (_ : List Pc).Perm ((frees l b ++ frees (back r (b + pw k) a) (b + pw k)) ++ O)
        refine hP.trans ?_
        rw [← List.append_assoc]
        exact List.Perm.append_right _ List.perm_append_comm
end Bud

set_option linter.all false
namespace Bud

theorem perm_srt {l m : List Pc} (h : l.Perm m) (hl : Srt l) (hm : Srt m) : l = m := srt_uniq hl hm h
theorem zdvd (k : Nat) : pw k ∣ 0 := Int.dvd_zero _
/-- the whole yard, all free, has one piece -/
theorem frees_free (k : Nat) (b : Int) : frees (.free : T k) b = [(b, pw k)] := rfl

/-! ### give -/
/-- the free pieces but one -/
def without (L : List Pc) (p : Pc) : List Pc := L.filter fun q => decide (q ≠ p)
theorem without_mid {A B : List Pc} {p : Pc} (h : (A ++ p :: B).Nodup) : without (A ++ p :: B) p = A ++ B := by
  have ⟨h1, h2, h3⟩ := List.nodup_append.mp h
  have ⟨h4, h5⟩ := List.nodup_cons.mp h2
  unfold without
  rw [List.filter_append, List.filter_cons_of_neg (by simp)]
  congr 1
  · refine List.filter_eq_self.mpr fun q hq => ?_
    exact decide_eq_true (h3 q hq p List.mem_cons_self)
  · refine List.filter_eq_self.mpr fun q hq => ?_
    refine decide_eq_true fun e => ?_
    rw [e] at hq
    exact h4 hq
theorem nodup_of_fst {l : List Pc} (h : (l.map (·.1)).Nodup) : l.Nodup := by
  have h' : (l.map (·.1)).Pairwise (· ≠ ·) := h
  rw [List.pairwise_map] at h'
  exact h'.imp fun {a b} hab e => hab (by rw [e])
theorem nodup_frees {k : Nat} (t : T k) {b : Int} (h : pw k ∣ b) : (frees t b).Nodup := nodup_of_fst (nodup_fst_of_ahead (ahead_frees t h) fun p hp => (in_frees t h hp).pos)
theorem nodup_outs {k : Nat} (t : T k) {b : Int} (h : pw k ∣ b) : (outs t b).Nodup := nodup_of_fst (nodup_fst_of_ahead (ahead_outs t h) fun p hp => (in_outs t h hp).pos)

theorem give_tree {k : Nat} {t : T k} {b a : Int} {m j : Nat} (hc : Can t) (hb : pw k ∣ b) (h : (a, pw m) ∈ frees t b) (hj : j ≤ m) :
    ∃ t' : T k, Can t' ∧ isFree t' = false ∧ (frees t' b).Perm (without (frees t b) (a, pw m) ++ ups a j (m - j)) ∧ (outs t' b).Perm ((a, pw j) :: outs t b) := by
  obtain ⟨d, rfl⟩ := Nat.exists_eq_add_of_le hj
  have hat := at_free t h
  obtain ⟨t', c', f', L, R, L', R', e1, e2, e3, e4⟩ := hat.put hc (spine j d) (spine_can j d).1 (spine_can j d).2
  rw [frees_free] at e1
  rw [spine_frees] at e2
  rw [spine_outs] at e4
  have e3' : outs t b = L' ++ R' := by rw [e3]; show L' ++ [] ++ R' = _; simp
  have nd := nodup_frees t hb
  have e1' : frees t b = L ++ (a, pw (j + d)) :: R := by rw [e1]; simp
  rw [e1'] at nd
  have ew : without (frees t b) (a, pw (j + d)) = L ++ R := by rw [e1', without_mid nd]
  refine ⟨t', c', f', ?_, ?_⟩
  · rw [ew, e2, Nat.add_sub_cancel_left, List.append_assoc, List.append_assoc]
    exact List.Perm.append_left _ List.perm_append_comm
  · rw [e4, e3', List.append_assoc]
    exact List.perm_middle

/-! ### back -/
theorem back_tree {k : Nat} {t : T k} {a : Int} {j : Nat} (hc : Can t) (h : (a, pw j) ∈ outs t 0) :
    (frees (back t 0 a) 0).Perm ((pb (frees t 0) a (pw j)).2 :: (pb (frees t 0) a (pw j)).1) := by
  rcases pb_back t (F := frees t 0) (O := []) hc (zdvd k) h (fun p hp => by cases hp) (by rw [List.append_nil]) with ⟨g, F', hP, e⟩ | ⟨g, hP⟩
  · have : F' = [] := hP.eq_nil
    subst this
    rw [e, free_of_isFree g]
    exact List.Perm.refl _
  · rw [List.append_nil] at hP
    exact hP.symm
/-- of the joined ones all are within the yard's sizes -/
theorem pb_mem {k : Nat} {t : T k} {a : Int} {j : Nat} (hc : Can t) (h : (a, pw j) ∈ outs t 0) : ∀ p ∈ (pb (frees t 0) a (pw j)).2 :: (pb (frees t 0) a (pw j)).1, In k 0 p := fun p hp =>
  in_frees (back t 0 a) (zdvd k) ((back_tree hc h).mem_iff.mpr hp)

/-! ### smaller -/
theorem shrink_tree {k : Nat} {t : T k} {b a : Int} {m j : Nat} (hc : Can t) (hb : pw k ∣ b) (h : (a, pw m) ∈ outs t b) (hj : j ≤ m) :
    ∃ t' : T k, Can t' ∧ (frees t' b).Perm (frees t b ++ ups a j (m - j)) ∧ (outs t' b).Perm ((a, pw j) :: (outs t b).erase (a, pw m)) := by
  obtain ⟨d, rfl⟩ := Nat.exists_eq_add_of_le hj
  have hat := at_out t h
  obtain ⟨t', c', f', L, R, L', R', e1, e2, e3, e4⟩ := hat.put hc (spine j d) (spine_can j d).1 (spine_can j d).2
  rw [spine_frees] at e2
  rw [spine_outs] at e4
  have e1' : frees t b = L ++ R := by rw [e1]; show L ++ [] ++ R = _; simp
  have e3' : outs t b = L' ++ (a, pw (j + d)) :: R' := by rw [e3]; show L' ++ [(a, pw (j + d))] ++ R' = _; simp
  have nd := nodup_outs t hb
  have hm : (outs t b).Perm ((a, pw (j + d)) :: (L' ++ R')) := by rw [e3']; exact List.perm_middle
  have he := hm.erase (a, pw (j + d))
  rw [List.erase_cons_head] at he
  refine ⟨t', c', ?_, ?_⟩
  · rw [e1', e2, Nat.add_sub_cancel_left, List.append_assoc, List.append_assoc]
    exact List.Perm.append_left _ List.perm_append_comm
  · rw [e4, List.append_assoc]
    exact List.perm_middle.trans (List.Perm.cons _ he.symm)

/-! ### larger -/
def grw : Nat → List Pc → Int → Nat → Option (List Pc)
  | 0, L, _, _ => some L
  | d + 1, L, a, j => if twin a (pw j) = a + pw j ∧ (a + pw j, pw j) ∈ L then grw d (L.erase (a + pw j, pw j)) a (j + 1) else none
theorem ups_cons (a : Int) (j : Nat) : ∀ d, ups a j (d + 1) = (a + pw j, pw j) :: ups a (j + 1) d
  | 0 => rfl
  | d + 1 => by
    show ups a j (d + 1) ++ [(a + pw (j + (d + 1)), pw (j + (d + 1)))] = _
    rw [ups_cons a j d]
    show (a + pw j, pw j) :: (ups a (j + 1) d ++ [(a + pw (j + (d + 1)), pw (j + (d + 1)))]) = (a + pw j, pw j) :: (ups a (j + 1) d ++ [(a + pw (j + 1 + d), pw (j + 1 + d))])
    rw [show j + (d + 1) = j + 1 + d by omega]
theorem grw_some : ∀ (d : Nat) {L : List Pc} {a : Int} {j : Nat}, (∀ i, i < d → twin a (pw (j + i)) = a + pw (j + i) ∧ (a + pw (j + i), pw (j + i)) ∈ L) →
    ∃ L', grw d L a j = some L' ∧ L.Perm (ups a j d ++ L') ∧ L'.Sublist L
  | 0, L, a, j, _ => ⟨L, rfl, List.Perm.refl _, List.Sublist.refl _⟩
  | d + 1, L, a, j, h => by
    have h0 := h 0 (Nat.succ_pos _)
    rw [Nat.add_zero] at h0
    have h' : ∀ i, i < d → twin a (pw (j + 1 + i)) = a + pw (j + 1 + i) ∧ (a + pw (j + 1 + i), pw (j + 1 + i)) ∈ L.erase (a + pw j, pw j) := by
      intro i hi
      have g := h (i + 1) (Nat.succ_lt_succ hi)
      have e : j + (i + 1) = j + 1 + i := by omega
      rw [e] at g
      refine ⟨g.1, ?_⟩
      refine (List.mem_erase_of_ne ?_).mpr g.2
      intro z
      have := pw_inj (congrArg Prod.snd z : pw (j + 1 + i) = pw j)
      omega
    obtain ⟨L', e1, e2, e3⟩ := grw_some d h'
    refine ⟨L', ?_, ?_, e3.trans List.erase_sublist⟩
    · show (if _ then _ else _) = _
      rw [if_pos h0]
      exact e1
    · rw [ups_cons]
      exact (List.perm_cons_erase h0.2).trans (List.Perm.cons _ e2)
theorem grw_none : ∀ (d : Nat) {L : List Pc} {a : Int} {j : Nat}, grw d L a j = none → ∃ i, i < d ∧ ¬ (twin a (pw (j + i)) = a + pw (j + i) ∧ (a + pw (j + i), pw (j + i)) ∈ L)
  | 0, L, a, j, h => by cases h
  | d + 1, L, a, j, h => by
    have h' : (if twin a (pw j) = a + pw j ∧ (a + pw j, pw j) ∈ L then grw d (L.erase (a + pw j, pw j)) a (j + 1) else none) = none := h
    by_cases c : twin a (pw j) = a + pw j ∧ (a + pw j, pw j) ∈ L
    · rw [if_pos c] at h'
      obtain ⟨i, hi, g⟩ := grw_none d h'
      refine ⟨i + 1, Nat.succ_lt_succ hi, fun z => g ?_⟩
      have e : j + (i + 1) = j + 1 + i := by omega
      rw [e] at z
      refine ⟨z.1, (List.mem_erase_of_ne ?_).mpr z.2⟩
      intro q
      have := pw_inj (congrArg Prod.snd q : pw (j + 1 + i) = pw j)
      omega
    · exact ⟨0, Nat.succ_pos _, by rw [Nat.add_zero]; exact c⟩
/-- room for a larger piece where it stands -/
def Fits {k : Nat} (t : T k) (b a : Int) (j m : Nat) : Prop := pw m ∣ a ∧ a + pw m ≤ b + pw k ∧ ∀ p ∈ outs t b, p ≠ (a, pw j) → ¬ (p.1 < a + pw m ∧ a < p.1 + p.2)
theorem all_eq_one {l : List Pc} {p : Pc} (hn : l.Nodup) (hp : p ∈ l) (h : ∀ q ∈ l, q = p) : l = [p] := by
  cases l with
  | nil => cases hp
  | cons x l =>
    have ex := h x List.mem_cons_self
    subst ex
    cases l with
    | nil => rfl
    | cons y l =>
      have ey := h y (List.mem_cons_of_mem _ List.mem_cons_self)
      rw [ey] at hn
      exact absurd List.mem_cons_self (List.nodup_cons.mp hn).1
theorem fits_at : ∀ {k : Nat} (t : T k) {b a : Int} {j d : Nat}, Can t → pw k ∣ b → 0 < d → (a, pw j) ∈ outs t b → j + d ≤ k → Fits t b a j (j + d) → At t b (spine j d) a
  | _, .free, b, a, j, d, _, _, _, h, _, _ => by cases h
  | k, .out, b, a, j, d, _, _, hd, h, hk, _ => by
    have e := List.mem_singleton.mp h
    have := pw_inj (congrArg Prod.snd e : pw j = pw k)
    omega
  | k + 1, .node l r, b, a, j, d, hc, hb, hd, h, hk, ⟨f1, f2, f3⟩ => by
    have pk := pw_pos k
    have pk1 := pw_succ k
    rcases Nat.lt_or_ge k (j + d) with q | q
    · -- the whole
      have ed : j + d = k + 1 := by omega
      have i := in_outs (.node l r) hb h
      have i1 := i.1
      simp only at i1
      rw [ed] at f2
      have ea : a = b := by omega
      subst ea
      have hone : outs (.node l r) a = [(a, pw j)] := by
        refine all_eq_one (nodup_outs _ hb) h fun p hp => ?_
        refine Classical.byContradiction fun np => f3 p hp np ?_
        have i := in_outs (.node l r) hb hp
        have p0 := i.pos
        have i1 := i.1
        have i2 := i.2.1
        rw [ed]
        omega
      obtain ⟨d', e, et⟩ := spine_of (.node l r) hc hb hone
      have e2 : d' = d := by omega
      subst e2
      have key : ∀ (n : Nat) (t : T n) (e : j + d' = n), t = e ▸ spine j d' → At t a (spine j d') a := by
        intro n t e et
        subst e
        rw [et]
        exact .here _ _
      exact key _ _ e et
    · have hdv : pw (j + d) ∣ pw k := pw_dvd q
      rcases List.mem_append.mp h with g | g
      · refine .left (fits_at l hc.1 (dvd_left hb) hd g q ⟨f1, ?_, fun p hp => f3 p (List.mem_append_left _ hp)⟩)
        have i := in_outs l (dvd_left hb) g
        have p0 := i.pos
        have i2 := i.2.1
        simp only at i2 p0
        exact mul_gap (pw_pos _) f1 (Int.dvd_trans hdv (dvd_right hb)) (by omega)
      · refine .right (fits_at r hc.2.1 (dvd_right hb) hd g q ⟨f1, ?_, fun p hp => f3 p (List.mem_append_right _ hp)⟩)
        omega
theorem fits_ups {k : Nat} {t : T k} {b a : Int} {j d : Nat} (hc : Can t) (hb : pw k ∣ b) (hd : 0 < d) (h : (a, pw j) ∈ outs t b) (hk : j + d ≤ k) (hf : Fits t b a j (j + d)) :
    ∀ i, i < d → twin a (pw (j + i)) = a + pw (j + i) ∧ (a + pw (j + i), pw (j + i)) ∈ frees t b := by
  intro i hi
  have hat := fits_at t hc hb hd h hk hf
  obtain ⟨t', c', f', L, R, L', R', e1, e2, e3, e4⟩ := hat.put hc (.out) trivial rfl
  refine ⟨twin_left (Int.dvd_trans (pw_dvd (by omega)) hf.1), ?_⟩
  rw [e1, spine_frees]
  exact List.mem_append_left _ (List.mem_append_right _ (mem_ups.mpr ⟨i, hi, rfl⟩))
theorem ups_fits {k : Nat} {t : T k} {b a : Int} {j d : Nat} (hb : pw k ∣ b) (hd : 0 < d) (h : (a, pw j) ∈ outs t b)
    (hu : ∀ i, i < d → twin a (pw (j + i)) = a + pw (j + i) ∧ (a + pw (j + i), pw (j + i)) ∈ frees t b) : Fits t b a j (j + d) := by
  have ia := in_outs t hb h
  have hdiv : ∀ i, i ≤ d → pw (j + i) ∣ a := by
    intro i
    induction i with
    | zero =>
      intro _
      obtain ⟨_, _, j', _, e, g⟩ := ia
      have := pw_inj (show pw j = pw j' from e)
      subst this
      exact g
    | succ i ih =>
      intro hi
      exact (twin_eq_iff (ih (by omega))).mp (hu i (by omega)).1
  refine ⟨hdiv d (Nat.le_refl _), ?_, fun p hp np hx => ?_⟩
  · obtain ⟨e, rfl⟩ : ∃ e, d = e + 1 := ⟨d - 1, by omega⟩
    have g := (in_frees t hb (hu e (by omega)).2).2.1
    simp only at g
    have := pw_succ (j + e)
    rw [show j + (e + 1) = j + e + 1 by omega]
    omega
  · have ip := in_outs t hb hp
    have p0 := ip.pos
    have hne : p.1 + p.2 ≤ a ∨ a + pw j ≤ p.1 := by
      have hap := ahead_outs t hb
      have key : ∀ {l : List Pc}, l.Pairwise Ahead → ∀ x ∈ l, ∀ y ∈ l, x ≠ y → Ahead x y ∨ Ahead y x := by
        intro l hl
        induction l with
        | nil => intro x hx; cases hx
        | cons z l ih =>
          have ⟨h1, h2⟩ := List.pairwise_cons.mp hl
          intro x hx y hy ne
          rcases List.mem_cons.mp hx with rfl | hx1
          · rcases List.mem_cons.mp hy with rfl | hy1
            · exact absurd rfl ne
            · exact .inl (h1 y hy1)
          · rcases List.mem_cons.mp hy with rfl | hy1
            · exact .inr (h1 x hx1)
            · exact ih h2 x hx1 y hy1 ne
      have := key hap p hp (a, pw j) h np
      unfold Ahead at this
      simp only at this
      exact this
    have step : ∀ i, i ≤ d → a + pw (j + i) ≤ p.1 := by
      intro i
      induction i with
      | zero => intro _; rw [Nat.add_zero]; omega
      | succ i ih =>
        intro hi
        have g := ih (by omega)
        have := apart t hb p hp _ (hu i (by omega)).2
        unfold Ahead at this
        simp only at this
        have := pw_succ (j + i)
        rw [show j + (i + 1) = j + i + 1 by omega]
        omega
    have := step d (Nat.le_refl _)
    omega
theorem grow_tree {k : Nat} {t : T k} {b a : Int} {j d : Nat} (hc : Can t) (hb : pw k ∣ b) (hd : 0 < d) (h : (a, pw j) ∈ outs t b) (hk : j + d ≤ k) :
    (Fits t b a j (j + d) ∧ ∃ t' : T k, Can t' ∧ grw d (frees t b) a j = some (frees t' b) ∧ (outs t' b).Perm ((a, pw (j + d)) :: (outs t b).erase (a, pw j))) ∨
    (¬ Fits t b a j (j + d) ∧ grw d (frees t b) a j = none) := by
  by_cases c : Fits t b a j (j + d)
  · left
    refine ⟨c, ?_⟩
    have hat := fits_at t hc hb hd h hk c
    obtain ⟨t', c', f', L, R, L', R', e1, e2, e3, e4⟩ := hat.put hc (.out) trivial rfl
    obtain ⟨G, g1, g2, g3⟩ := grw_some d (fits_ups hc hb hd h hk c)
    have eG : G = frees t' b := by
      refine srt_uniq ((srt_frees t hb).sublist g3) (srt_frees t' hb) ?_
      have e2' : frees t' b = L ++ R := by rw [e2]; show L ++ [] ++ R = _; simp
      rw [e2']
      rw [e1, spine_frees] at g2
      have g4 : (ups a j d ++ G).Perm (ups a j d ++ (L ++ R)) := by
        refine g2.symm.trans ?_
        rw [← List.append_assoc]
        exact List.Perm.append_right _ List.perm_append_comm
      exact (List.perm_append_left_iff _).mp g4
    refine ⟨t', c', by rw [g1, eG], ?_⟩
    have e4' : outs t' b = L' ++ (a, pw (j + d)) :: R' := by rw [e4]; show L' ++ [(a, pw (j + d))] ++ R' = _; simp
    have e3' : outs t b = L' ++ (a, pw j) :: R' := by rw [e3, spine_outs]; simp
    have hm : (outs t b).Perm ((a, pw j) :: (L' ++ R')) := by rw [e3']; exact List.perm_middle
    have he := hm.erase (a, pw j)
    rw [List.erase_cons_head] at he
    rw [e4']
    exact List.perm_middle.trans (List.Perm.cons _ he.symm)
  · right
    refine ⟨c, ?_⟩
    cases e : grw d (frees t b) a j with
    | none => rfl
    | some G =>
      exfalso
      refine c (ups_fits hb hd h fun i hi => ?_)
      have hall : ∀ (d : Nat) (L : List Pc) (j : Nat) (G : List Pc), grw d L a j = some G → ∀ i, i < d → twin a (pw (j + i)) = a + pw (j + i) ∧ (a + pw (j + i), pw (j + i)) ∈ L := by
        intro d
        induction d with
        | zero => intro L j G _ i hi; exact absurd hi (Nat.not_lt_zero i)
        | succ d ih =>
          intro L j G e i hi
          have e' : (if twin a (pw j) = a + pw j ∧ (a + pw j, pw j) ∈ L then grw d (L.erase (a + pw j, pw j)) a (j + 1) else none) = some G := e
          by_cases c : twin a (pw j) = a + pw j ∧ (a + pw j, pw j) ∈ L
          · rw [if_pos c] at e'
            cases i with
            | zero => rw [Nat.add_zero]; exact c
            | succ i =>
              have g := ih _ _ _ e' i (by omega)
              rw [show j + (i + 1) = j + 1 + i by omega]
              exact ⟨g.1, List.mem_of_mem_erase g.2⟩
          · rw [if_neg c] at e'
            cases e'
      exact hall d _ j G e i hi

/-! ### a tree is told by what is out -/
theorem outs_uniq : ∀ {k : Nat} (t u : T k) {b : Int}, Can t → Can u → pw k ∣ b → outs t b = outs u b → t = u
  | k, .free, u, b, _, hu, _, h => (free_of_isFree (free_of_noOuts u b hu h.symm)).symm
  | k, t, .free, b, ht, _, _, h => free_of_isFree (free_of_noOuts t b ht h)
  | k, .out, .out, b, _, _, _, _ => rfl
  | k + 1, .out, .node l r, b, _, _, hb, h => by
    exfalso
    have h' : [((b, pw (k + 1)) : Pc)] = outs l b ++ outs r (b + pw k) := h
    have m : ((b, pw (k + 1)) : Pc) ∈ outs l b ++ outs r (b + pw k) := by rw [← h']; exact List.mem_singleton.mpr rfl
    rcases List.mem_append.mp m with g | g
    · obtain ⟨i, hi, e, _⟩ := (in_outs l (dvd_left hb) g).2.2
      have := pw_inj e
      omega
    · obtain ⟨i, hi, e, _⟩ := (in_outs r (dvd_right hb) g).2.2
      have := pw_inj e
      omega
  | k + 1, .node l r, .out, b, _, _, hb, h => by
    exfalso
    have h' : outs l b ++ outs r (b + pw k) = [((b, pw (k + 1)) : Pc)] := h
    have m : ((b, pw (k + 1)) : Pc) ∈ outs l b ++ outs r (b + pw k) := by rw [h']; exact List.mem_singleton.mpr rfl
    rcases List.mem_append.mp m with g | g
    · obtain ⟨i, hi, e, _⟩ := (in_outs l (dvd_left hb) g).2.2
      have := pw_inj e
      omega
    · obtain ⟨i, hi, e, _⟩ := (in_outs r (dvd_right hb) g).2.2
      have := pw_inj e
      omega
  | k + 1, .node l r, .node l' r', b, ht, hu, hb, h => by
    have h' : outs l b ++ outs r (b + pw k) = outs l' b ++ outs r' (b + pw k) := h
    have fl : ∀ (x y : T k), (outs x b ++ outs y (b + pw k)).filter (fun p => decide (p.1 < b + pw k)) = outs x b := by
      intro x y
      rw [List.filter_append]
      have h1 : (outs x b).filter (fun p => decide (p.1 < b + pw k)) = outs x b := List.filter_eq_self.mpr fun p hp => by
        have i := in_outs x (dvd_left hb) hp
        have := i.pos
        have := i.2.1
        exact decide_eq_true (by omega)
      have h2 : (outs y (b + pw k)).filter (fun p => decide (p.1 < b + pw k)) = [] := List.filter_eq_nil_iff.mpr fun p hp => by
        have i := (in_outs y (dvd_right hb) hp).1
        simp only [decide_eq_true_eq]
        omega
      rw [h1, h2, List.append_nil]
    have e1 : outs l b = outs l' b := by rw [← fl l r, ← fl l' r', h']
    have e2 : outs r (b + pw k) = outs r' (b + pw k) := by
      rw [e1] at h'
      exact List.append_cancel_left h'
    rw [outs_uniq l l' ht.1 hu.1 (dvd_left hb) e1, outs_uniq r r' ht.2.1 hu.2.1 (dvd_right hb) e2]
theorem tree_uniq {k : Nat} {t u : T k} (ht : Can t) (hu : Can u) (h : (outs t 0).Perm (outs u 0)) : t = u :=
  outs_uniq t u ht hu (zdvd k) (srt_uniq (srt_outs t (zdvd k)) (srt_outs u (zdvd k)) h)
end Bud
namespace Bud
/-- there are not many more free pieces than pieces that are out -/
theorem frees_few : ∀ {k : Nat} (t : T k) (b : Int), Can t → (frees t b).length ≤ k * (outs t b).length + 1 ∧ (isFree t = false → (frees t b).length ≤ k * (outs t b).length)
  | k, .free, b, _ => ⟨by show 1 ≤ _; omega, fun h => by cases h⟩
  | k, .out, b, _ => ⟨Nat.zero_le _, fun _ => Nat.zero_le _⟩
  | k + 1, .node l r, b, h => by
    obtain ⟨l1, l2⟩ := frees_few l b h.1
    obtain ⟨r1, r2⟩ := frees_few r (b + pw k) h.2.1
    have key : (frees l b ++ frees r (b + pw k)).length ≤ (k + 1) * (outs l b ++ outs r (b + pw k)).length := by
      rw [List.length_append, List.length_append]
      generalize hfl : (frees l b).length = fl at *
      generalize hfr : (frees r (b + pw k)).length = fr at *
      generalize hol : (outs l b).length = ol at *
      generalize hor : (outs r (b + pw k)).length = or at *
      have e : (k + 1) * (ol + or) = k * ol + k * or + ol + or := by rw [Nat.add_mul, Nat.one_mul, Nat.mul_add]; omega
      rw [e]
      cases hl : isFree l with
      | false =>
        have := l2 hl
        cases hr : isFree r with
        | false =>
          have := r2 hr
          omega
        | true =>
          have : 0 < ol := by
            rw [← hol]
            refine List.length_pos_iff.mpr fun q => ?_
            have := free_of_noOuts l b h.1 q
            rw [hl] at this
            cases this
          omega
      | true =>
        cases hr : isFree r with
        | true => exact absurd ⟨hl, hr⟩ h.2.2
        | false =>
          have := r2 hr
          have : 0 < or := by
            rw [← hor]
            refine List.length_pos_iff.mpr fun q => ?_
            have := free_of_noOuts r (b + pw k) h.2.1 q
            rw [hr] at this
            cases this
          omega
    exact ⟨Nat.le_succ_of_le key, fun _ => key⟩
/-- the free pieces where just one, at the lower end, is out -/
theorem spine_frees_of {k : Nat} {t : T k} {b : Int} {j : Nat} (hc : Can t) (hb : pw k ∣ b) (h : outs t b = [(b, pw j)]) : frees t b = ups b j (k - j) := by
  obtain ⟨d, e, et⟩ := spine_of t hc hb h
  subst e
  rw [et, Nat.add_sub_cancel_left]
  exact spine_frees j b d
theorem perm_one {p : Pc} {l : List Pc} (h : l.Perm [p]) : l = [p] := List.perm_singleton.mp h
theorem perm_one_nil {p : Pc} {l : List Pc} {q : Pc} (h : ([p] : List Pc).Perm (q :: l)) : q = p ∧ l = [] := by
  have e := List.perm_singleton.mp h.symm
  exact ⟨(List.cons.inj e).1, (List.cons.inj e).2⟩
theorem free_of_nil {k : Nat} {t : T k} (hc : Can t) (h : outs t 0 = []) : t = .free := free_of_isFree (free_of_noOuts t 0 hc h)
end Bud

set_option Elab.async false
set_option linter.all false
set_option maxRecDepth 100000
set_option maxHeartbeats 4000000
/-! Own words over the hand layer. -/
namespace Yd
open PySem PySem.Spec L2
open PyProof.Rows (envOfC)

/-! ### a def of the text, ready to be called by its name -/
structure DefOk (P : Program) (w : World) (K : PySem.W.Frag) (mg : Str → Option Value) (base : Heap) (k : Nat) (x : Str) (ps : List Str) (sp : Sp) : Prop where
  ex : ∃ fd, FnOk P w K mg base (L2.CX P w) k (He.ga K x) fd ps sp ∧ Binds K fd ps []
  g : mg x = some (.ref (He.ga K x))
  kp : PySem.W.keepIn K (.ref (He.ga K x)) = true
/-- a method of the class named c -/
structure MethOk (P : Program) (w : World) (K : PySem.W.Frag) (mg : Str → Option Value) (base : Heap) (k : Nat) (c m : Str) (ps : List Str) (sp : Sp) : Prop where
  ex : ∃ fd, FnOk P w K mg base (L2.CX P w) k (He.ma K (He.ga K c) m) fd ps sp ∧ Binds K fd ps []
  cl : Cls K (He.ga K c)
  mt : Meth K (He.ga K c) m (He.ma K (He.ga K c) m)
/-- a class that is called -/
structure MakeOk (P : Program) (w : World) (K : PySem.W.Frag) (mg : Str → Option Value) (base : Heap) (k : Nat) (c : Str) (ps : List Str) (sp : Sp) : Prop where
  ex : ∃ fd, FnOk P w K mg base (L2.CX P w) k (He.ma K (He.ga K c) "__init__") fd ps sp ∧ Binds K fd ps []
  mkr : Mk K (He.ga K c) (He.ma K (He.ga K c) "__init__")
  g : mg c = some (.ref (He.ga K c))

section
variable {X : Cx} {k : Nat} {ps : List Str} {sp : Sp} {E : St → XK} {W : WX} {x m c : Str} {p pos apos : Pos} {e o : Expr} {es : List Expr} {ta : TE} {t : TA}
/-- f(e, ..), nothing is raised -/
theorem pe_cd (D : DefOk X.prog X.w X.K X.mg X.base k x ps sp) (hr : Room k X.A) (ha : PA X (e :: es) t) (hg : Gl X x := by rfl)
    (hdb : (x == ("__debug__" : Str)) = false := by decide) (he : starEach (e :: es) X.env = (false, eval e X.env) :: starEach es X.env := by rfl) (hpl : (backTo pos (starEach es X.env)).any (·.1) = false := by rfl) :
    PE X (.Call (.Name x p) (e :: es) [] pos) (tCall sp [] E0 t) := by
  obtain ⟨fd, F, b⟩ := D.ex
  exact pe_call F hr hg D.g D.kp b .nil passL ha hdb he hpl
theorem pe_cd0 (D : DefOk X.prog X.w X.K X.mg X.base k x ps sp) (hr : Room k X.A) (hg : Gl X x := by rfl)
    (hdb : (x == ("__debug__" : Str)) = false := by decide) :
    PE X (.Call (.Name x p) [] [] pos) (tCall sp [] E0 tNil) := by
  obtain ⟨fd, F, b⟩ := D.ex
  exact pe_call0 F hr hg D.g D.kp b .nil passL hdb
/-- f(e, ..), what is raised is wished for -/
theorem pe_cx (tk : Takes X W) (D : DefOk X.prog X.w X.K X.mg X.base k x ps sp) (hr : Room k X.A) (ha : PA X (e :: es) t) (hg : Gl X x := by rfl)
    (hdb : (x == ("__debug__" : Str)) = false := by decide) (he : starEach (e :: es) X.env = (false, eval e X.env) :: starEach es X.env := by rfl) (hpl : (backTo pos (starEach es X.env)).any (·.1) = false := by rfl) :
    PE X (.Call (.Name x p) (e :: es) [] pos) (tCallS sp (WE W) t) := by
  obtain ⟨fd, F, b⟩ := D.ex
  exact pe_callS F hr hg D.g D.kp b (fun σ => passAt tk σ) ha hdb he hpl
theorem passAt0 {X : Cx} (σ : St) : PassesAt (L2.CX X.prog X.w) X σ E0 := fun _ _ _ _ _ _ h => by
  obtain ⟨_, _, _, _, _, _, _, _, _, _, _, _, z⟩ := h
  exact z.elim
/-- o.m(e, ..) -/
def tMt (c m : Str) (sp : Sp) (E : St → XK) (K : PySem.W.Frag) (ta : TE) (t : TA) : TE := fun σ H Q => ta σ H fun x H1 => ∃ a dx fs, x = .ref a ∧ H1 a = some (.ins (He.ga K c) dx fs) ∧ fs.lookup m = none ∧
  t σ H1 fun vs H2 => sp (x :: vs) H2 Q (E σ)
theorem pe_mE {pl : Sem Bool} {K : PySem.W.Frag} (he : PE X o ta) (D : MethOk X.prog X.w K X.mg X.base k c m ps sp) (hr : Room k X.A) (hx : ∀ σ, PassesAt (L2.CX X.prog X.w) X σ (E σ)) (ha : PA X (e :: es) t)
    (hst : starEach (e :: es) X.env = (false, eval e X.env) :: starEach es X.env := by rfl) (hpl : (backTo pos (starEach es X.env)).any (·.1) = false := by rfl)
    (ht : eval (.Call (.Attribute o m apos) (e :: es) [] pos) X.env = (do
      let ov ← eval o X.env
      standAt apos.atName
      let (f, first) ← holding [ov] (getMethod ov m pl)
      callWith pos f first (backTo pos (starEach (e :: es) X.env)) (backToKw pos (keywordEach [] X.env))) := by rfl) (hK : X.K = K := by rfl) :
    PE X (.Call (.Attribute o m apos) (e :: es) [] pos) (tMt c m sp E K ta t) := by
  subst hK
  obtain ⟨fd, F, b⟩ := D.ex
  refine ⟨fun pins s σ H Q I h => ?_⟩
  refine PySem.W.methodCall_KW (pl := pl) (thn (he.run pins s σ H _ I h) fun u s1 ⟨x, H1, I1, rx, a, dx, fs, ex, ea, l, q⟩ => ?_) ht
  subst ex
  obtain rfl : u = Value.ref a := rx
  refine getmeth_ok I1 ea D.cl D.mt l ?_
  refine PySem.W.callWith_K (first := [.ref a]) (h₀ := X.base) I.ok.mod.kin D.mt.kp (thn (ha.run pos pins s1 σ H1 _ I1 q) fun us s2 ⟨vs, H2, I2, r, q2⟩ => ⟨I2.kIn, ?_⟩) hst hpl
  exact run_fnS (us := .ref a :: us) (vs := .ref a :: vs) F hr b (hx σ) I2 (.cons rfl r) q2
theorem pe_mE0 {pl : Sem Bool} {K : PySem.W.Frag} (he : PE X o ta) (D : MethOk X.prog X.w K X.mg X.base k c m ps sp) (hr : Room k X.A) (hx : ∀ σ, PassesAt (L2.CX X.prog X.w) X σ (E σ))
    (ht : eval (.Call (.Attribute o m apos) [] [] pos) X.env = (do
      let ov ← eval o X.env
      standAt apos.atName
      let (f, first) ← holding [ov] (getMethod ov m pl)
      callWith pos f first (backTo pos (starEach [] X.env)) (backToKw pos (keywordEach [] X.env))) := by rfl) (hK : X.K = K := by rfl) :
    PE X (.Call (.Attribute o m apos) [] [] pos) (tMt c m sp E K ta tNil) := by
  subst hK
  obtain ⟨fd, F, b⟩ := D.ex
  refine ⟨fun pins s σ H Q I h => ?_⟩
  refine PySem.W.methodCall_KW (pl := pl) (thn (he.run pins s σ H _ I h) fun u s1 ⟨x, H1, I1, rx, a, dx, fs, ex, ea, l, q⟩ => ?_) ht
  subst ex
  obtain rfl : u = Value.ref a := rx
  refine getmeth_ok I1 ea D.cl D.mt l ?_
  exact PySem.W.callWith_K0 (first := [.ref a]) I1.kIn D.mt.kp (run_fnS (us := [.ref a]) (vs := [.ref a]) F hr b (hx σ) I1 (.cons rfl .nil) q)
theorem pe_m {pl : Sem Bool} {K : PySem.W.Frag} (he : PE X o ta) (D : MethOk X.prog X.w K X.mg X.base k c m ps sp) (hr : Room k X.A) (ha : PA X (e :: es) t)
    (hst : starEach (e :: es) X.env = (false, eval e X.env) :: starEach es X.env := by rfl) (hpl : (backTo pos (starEach es X.env)).any (·.1) = false := by rfl)
    (ht : eval (.Call (.Attribute o m apos) (e :: es) [] pos) X.env = (do
      let ov ← eval o X.env
      standAt apos.atName
      let (f, first) ← holding [ov] (getMethod ov m pl)
      callWith pos f first (backTo pos (starEach (e :: es) X.env)) (backToKw pos (keywordEach [] X.env))) := by rfl) (hK : X.K = K := by rfl) :
    PE X (.Call (.Attribute o m apos) (e :: es) [] pos) (tMt c m sp (fun _ => E0) K ta t) := pe_mE he D hr passAt0 ha hst hpl ht hK
theorem pe_m0 {pl : Sem Bool} {K : PySem.W.Frag} (he : PE X o ta) (D : MethOk X.prog X.w K X.mg X.base k c m ps sp) (hr : Room k X.A)
    (ht : eval (.Call (.Attribute o m apos) [] [] pos) X.env = (do
      let ov ← eval o X.env
      standAt apos.atName
      let (f, first) ← holding [ov] (getMethod ov m pl)
      callWith pos f first (backTo pos (starEach [] X.env)) (backToKw pos (keywordEach [] X.env))) := by rfl) (hK : X.K = K := by rfl) :
    PE X (.Call (.Attribute o m apos) [] [] pos) (tMt c m sp (fun _ => E0) K ta tNil) := pe_mE0 he D hr passAt0 ht hK
/-- o.m(e, ..), nothing is raised -/
abbrev tM (c m : Str) (sp : Sp) (K : PySem.W.Frag) (ta : TE) (t : TA) : TE := tMt c m sp (fun _ => E0) K ta t
/-- what a class's making wants -/
def tMkX (c : Str) (sp : Sp) (E : St → XK) (K : PySem.W.Frag) (t : TA) : TE := fun σ H Q => t σ H fun vs H1 => ∀ x dx, H1 x = none → H1 dx = none → dx ≠ x →
  sp (.ref x :: vs) (upd (upd H1 dx (.own x)) x (.ins (He.ga K c) dx [])) (fun v H2 => v = .non ∧ Q (.ref x) H2) (E σ)
end

/-! ### a class called -/
section
variable {X : Cx} {k : Nat} {ps : List Str} {sp : Sp} {E : L2.St → XK} {c : Str} {p pos : Pos} {e : Expr} {es : List Expr} {t : TA}
theorem run_mk {pins : List (Addr × Obj)} {σ : L2.St} {H : Hp} {s : Shared} {Q : VK} {us : List Value} {vs : List V} (D : MakeOk X.prog X.w X.K X.mg X.base k c ps sp) (hr : Room (k + 1) X.A) (hx : PassesAt (L2.CX X.prog X.w) X σ (E σ))
    (I : Inv X pins σ H s) (r : Vals vs us)
    (h : ∀ x dx, H x = none → H dx = none → dx ≠ x → sp (.ref x :: vs) (upd (upd H dx (.own x)) x (.ins (He.ga X.K c) dx [])) (fun v H2 => v = .non ∧ Q (.ref x) H2) (E σ)) :
    wpAny (model X.prog X.w) X.A (call (.ref (He.ga X.K c)) us) (EP X pins σ Q) X.xe s := by
  obtain ⟨fd, F, b⟩ := D.ex
  have hq := h (s.heap.objs.size + 1) s.heap.objs.size (I.hok.fresh (Nat.le_succ _)) (I.hok.fresh (Nat.le_refl _)) (Nat.ne_of_lt (Nat.lt_succ_self _))
  have I2 := Inv.made (C := He.ga X.K c) I
  have r2 : Vals (V.ref (s.heap.objs.size + 1) :: vs) (Value.ref (s.heap.objs.size + 1) :: us) := .cons rfl r
  have hl : (Value.ref (s.heap.objs.size + 1) :: us).length = ps.length := by
    have e := r2.length
    rw [F.len _ _ _ _ hq] at e
    exact e.symm
  have b2 := b _ (Value.ref (s.heap.objs.size + 1) :: us) I2.kIn (by rw [List.append_nil]; exact hl)
  rw [List.append_nil] at b2
  refine wpAny_call (make_map (f := He.ma X.K (He.ga X.K c) "__init__") I.kIn D.mkr.makes D.mkr.init (beq_iff_eq.mp D.mkr.fn)
    (codeAny_mono (F.run _ X.stack _ _ ⟨Value.ref (s.heap.objs.size + 1) :: us, []⟩ (Value.ref (s.heap.objs.size + 1) :: us) _ _ (E σ) (hr.make _ us []) (I2.env0.make _ us []) b2 r2 hq) fun r s' hq' => ?_))
  cases r with
  | error e => exact hx pins _ _ e s' I2 hq'
  | ok fl =>
    cases fl with
    | ret u =>
      obtain ⟨v, H', I3, rv, ev, q3⟩ := I2.after hq'
      subst ev
      exact ⟨rv, ⟨V.ref (s.heap.objs.size + 1), H', I3, rfl, q3⟩⟩
    | next => exact False.elim hq'
    | brk => exact False.elim hq'
    | cont => exact False.elim hq'
theorem pe_mk {K : PySem.W.Frag} (D : MakeOk X.prog X.w K X.mg X.base k c ps sp) (hr : Room (k + 1) X.A) (hx : ∀ σ, PassesAt (L2.CX X.prog X.w) X σ (E σ)) (ha : PA X (e :: es) t) (hg : Gl X c := by rfl)
    (hdb : (c == ("__debug__" : Str)) = false := by decide) (he : starEach (e :: es) X.env = (false, eval e X.env) :: starEach es X.env := by rfl) (hpl : (backTo pos (starEach es X.env)).any (·.1) = false := by rfl) (hK : X.K = K := by rfl) :
    PE X (.Call (.Name c p) (e :: es) [] pos) (tMkX c sp E K t) := by
  subst hK
  refine ⟨fun pins s σ H Q I h => ?_⟩
  refine wpAny_Call_Name_kw (ld_glob I hg D.g ?_ hdb)
  refine PySem.W.callWith_K (h₀ := X.base) I.ok.mod.kin D.mkr.kp (thn (ha.run pos pins s σ H _ I h) fun us s1 ⟨vs, H1, I1, r, q⟩ => ⟨I1.kIn, ?_⟩) he hpl
  exact run_mk D hr (hx σ) I1 r q
end

/-! ### a def by its body -/
section
variable {P : Program} {w : World} {K : PySem.W.Frag} {mg : Str → Option Value} {base : Heap} {x qual : Str} {params : Arguments} {body : List Stmt} {scope : Scope} {f : Addr}
theorem mkFn {CX : CXT} {fd : FuncData} {N ps : List Str} {k : Nat} {sp : Sp} (F : FunD K x qual params body scope [] [] f fd) (S : FnScope N ps scope) (len : ∀ vs H Q E, sp vs H Q E → vs.length = ps.length)
    (hbody : ∀ (cdv : Value) (A : Around) (outer : List Env) (s : Shared) (H : Hp) (vs : List V) (Q : VK) (E : XK), Room k (A.deeper (envOfC qual scope s.heap.objs.size f cdv)) → sp vs H Q E →
      ∃ t, PSs (cxOf CX P w K mg base N qual scope f cdv A outer s H E) body t ∧ t { nx := fun _ H' => Q .non H', rt := Q } (start N vs) H) : FnOk P w K mg base CX (k + 1) f fd ps sp := F.ok S len hbody
theorem mkDef {N ps : List Str} {k : Nat} {sp : Sp} (F : ∃ fd, FunD K x qual params body scope [] [] (He.ga K x) fd) (g : mg x = some (.ref (He.ga K x)))
    (b : ∀ (kV doc pm : Value) (an : Option Addr) (cdv ct : Value) (us : List Value), us.length = ps.length → bindArgs (PySem.W.fnOf x qual params body scope .none kV doc pm an cdv ct) ⟨us, []⟩ = pure (ps.zip us))
    (S : FnScope N ps scope) (len : ∀ vs H Q E, sp vs H Q E → vs.length = ps.length)
    (hbody : ∀ (cdv : Value) (A : Around) (outer : List Env) (s : Shared) (H : Hp) (vs : List V) (Q : VK) (E : XK), Room k (A.deeper (envOfC qual scope s.heap.objs.size (He.ga K x) cdv)) → sp vs H Q E →
      ∃ t, PSs (cxOf (L2.CX P w) P w K mg base N qual scope (He.ga K x) cdv A outer s H E) body t ∧ t { nx := fun _ H' => Q .non H', rt := Q } (start N vs) H) : DefOk P w K mg base (k + 1) x ps sp := by
  obtain ⟨fd, F⟩ := F
  exact ⟨⟨fd, mkFn F S len hbody, F.bindsN b⟩, g, F.kp⟩
theorem DefOk.mono {j k : Nat} {ps : List Str} {sp : Sp} (D : DefOk P w K mg base j x ps sp) (h : j ≤ k) : DefOk P w K mg base k x ps sp := by
  obtain ⟨fd, F, b⟩ := D.ex
  exact ⟨⟨fd, F.mono h, b⟩, D.g, D.kp⟩
theorem mkMake {c : Str} {N ps : List Str} {k : Nat} {sp : Sp} (F : ∃ fd, FunD K "__init__" qual params body scope [] [] (He.ma K (He.ga K c) "__init__") fd) (mk : Mk K (He.ga K c) (He.ma K (He.ga K c) "__init__")) (g : mg c = some (.ref (He.ga K c)))
    (b : ∀ (kV doc pm : Value) (an : Option Addr) (cdv ct : Value) (us : List Value), us.length = ps.length → bindArgs (PySem.W.fnOf "__init__" qual params body scope .none kV doc pm an cdv ct) ⟨us, []⟩ = pure (ps.zip us))
    (S : FnScope N ps scope) (len : ∀ vs H Q E, sp vs H Q E → vs.length = ps.length)
    (hbody : ∀ (cdv : Value) (A : Around) (outer : List Env) (s : Shared) (H : Hp) (vs : List V) (Q : VK) (E : XK), Room k (A.deeper (envOfC qual scope s.heap.objs.size (He.ma K (He.ga K c) "__init__") cdv)) → sp vs H Q E →
      ∃ t, PSs (cxOf (L2.CX P w) P w K mg base N qual scope (He.ma K (He.ga K c) "__init__") cdv A outer s H E) body t ∧ t { nx := fun _ H' => Q .non H', rt := Q } (start N vs) H) : MakeOk P w K mg base (k + 1) c ps sp := by
  obtain ⟨fd, F⟩ := F
  exact ⟨⟨fd, mkFn F S len hbody, F.bindsN b⟩, mk, g⟩
theorem mkMeth {c m : Str} {N ps : List Str} {k : Nat} {sp : Sp} (F : ∃ fd, FunD K x qual params body scope [] [] (He.ma K (He.ga K c) m) fd) (cl : Cls K (He.ga K c)) (mt : Meth K (He.ga K c) m (He.ma K (He.ga K c) m))
    (b : ∀ (kV doc pm : Value) (an : Option Addr) (cdv ct : Value) (us : List Value), us.length = ps.length → bindArgs (PySem.W.fnOf x qual params body scope .none kV doc pm an cdv ct) ⟨us, []⟩ = pure (ps.zip us))
    (S : FnScope N ps scope) (len : ∀ vs H Q E, sp vs H Q E → vs.length = ps.length)
    (hbody : ∀ (cdv : Value) (A : Around) (outer : List Env) (s : Shared) (H : Hp) (vs : List V) (Q : VK) (E : XK), Room k (A.deeper (envOfC qual scope s.heap.objs.size (He.ma K (He.ga K c) m) cdv)) → sp vs H Q E →
      ∃ t, PSs (cxOf (L2.CX P w) P w K mg base N qual scope (He.ma K (He.ga K c) m) cdv A outer s H E) body t ∧ t { nx := fun _ H' => Q .non H', rt := Q } (start N vs) H) : MethOk P w K mg base (k + 1) c m ps sp := by
  obtain ⟨fd, F⟩ := F
  exact ⟨⟨fd, mkFn F S len hbody, F.bindsN b⟩, cl, mt⟩
end

/-! ### a while by the number of its turns -/
section
variable {c : TT} {tb : TS} {D : Ends} {σ : L2.St} {H : Hp}
theorem while_n (n : Nat) (Pv : Nat → L2.St → Hp → Prop) (h0 : Pv 0 σ H)
    (hs : ∀ i σ H, i ≤ n → Pv i σ H → c σ H fun b H1 => if b = true then ∃ N : L2.St → Hp → Prop, (∀ σ' H', N σ' H' → ∃ m', m' < n - i ∧ ∃ i', i' ≤ n ∧ m' = n - i' ∧ Pv i' σ' H') ∧ tb { D with nx := N, ct := N, bk := D.nx } σ H1 else D.nx σ H1) : tWhile c tb D σ H := by
  refine ⟨fun m σ H => ∃ i, i ≤ n ∧ m = n - i ∧ Pv i σ H, ⟨n - 0, 0, Nat.zero_le _, rfl, h0⟩, ?_⟩
  rintro m σ H ⟨i, hi, rfl, p⟩
  exact hs i σ H hi p
theorem wh_step {n i : Nat} {Pv : Nat → L2.St → Hp → Prop} (h : i < n) : ∀ σ' H', Pv (i + 1) σ' H' → ∃ m', m' < n - i ∧ ∃ i', i' ≤ n ∧ m' = n - i' ∧ Pv i' σ' H' := fun _ _ p => ⟨n - (i + 1), by omega, i + 1, h, rfl, p⟩
end
/-- an if whose test is known to come to b -/
theorem ifP {c : TT} {t u : TS} {D : Ends} {σ : L2.St} {H : Hp} (b : Bool) (hc : ∀ Q : Bool → Hp → Prop, Q b H → c σ H Q) (h1 : b = true → t D σ H) (h2 : b = false → u D σ H) : tIfS c t u D σ H := by
  refine hc _ ?_
  cases b with
  | true => exact iteT (h1 rfl)
  | false => exact iteF (h2 rfl)
theorem ifS {c : TT} {t u v : TS} {D : Ends} {σ : L2.St} {H : Hp} (b : Bool) (hc : ∀ Q : Bool → Hp → Prop, Q b H → c σ H Q) (h1 : b = true → t { D with nx := v D } σ H) (h2 : b = false → u { D with nx := v D } σ H) : tSeq (tIfS c t u) v D σ H := ifP (D := { D with nx := v D }) b hc h1 h2
theorem blT {c : Prop} [Decidable c] (h : c) : V.bl (decide c) = V.bl true := congrArg V.bl (decide_eq_true h)
theorem blF {c : Prop} [Decidable c] (h : ¬ c) : V.bl (decide c) = V.bl false := congrArg V.bl (decide_eq_false h)
/-! ### sizes -/
/-- whether it is a size -/
def isSz (n : Int) : Bool := (List.range 61).any fun k => n == Bud.pw k
theorem isSz_iff {n : Int} : isSz n = true ↔ ∃ k, k ≤ 60 ∧ n = Bud.pw k := by
  unfold isSz
  rw [List.any_eq_true]
  constructor
  · rintro ⟨k, hk, e⟩
    exact ⟨k, by have := List.mem_range.mp hk; omega, eq_of_beq e⟩
  · rintro ⟨k, hk, e⟩
    exact ⟨k, List.mem_range.mpr (by omega), beq_iff_eq.mpr e⟩
theorem pw60 : Bud.pw 60 = 1152921504606846976 := by decide +kernel
theorem pw61 : Bud.pw 61 = 2305843009213693952 := by decide +kernel
theorem pw_bound {n : Nat} (h : n ≤ 61) : Bud.pw n ≤ 2305843009213693952 := by
  rw [← pw61]
  exact Bud.pw_le h
theorem isSz_low {n : Int} (h : n < 1) : isSz n = false := by
  cases e : isSz n with
  | false => rfl
  | true =>
    obtain ⟨k, hk, rfl⟩ := isSz_iff.mp e
    have := Bud.pw_pos k
    omega
theorem isSz_high {n : Int} (h : 1152921504606846976 < n) : isSz n = false := by
  cases e : isSz n with
  | false => rfl
  | true =>
    obtain ⟨k, hk, rfl⟩ := isSz_iff.mp e
    have := Bud.pw_le hk
    rw [pw60] at this
    omega
theorem isSz_fit {n : Int} (h : 1 ≤ n) (h' : n ≤ 1152921504606846976) : decide (Bud.fit n = n) = isSz n := by
  have hf : Bud.fe n ≤ 60 := Bud.fe_le (by rw [pw60]; exact h')
  cases e : isSz n with
  | true =>
    obtain ⟨k, hk, rfl⟩ := isSz_iff.mp e
    refine decide_eq_true ?_
    unfold Bud.fit
    rw [Bud.fe_eq (n := k) (Int.le_refl _) fun i hi => Bud.pw_lt hi]
  | false =>
    refine decide_eq_false fun q => ?_
    have : isSz n = true := isSz_iff.mpr ⟨Bud.fe n, hf, q.symm⟩
    rw [e] at this
    cases this

/-! ### isinstance of the exception that the suite holds, its class told in the reading -/
section
variable {X : Cx} {a : Addr} {oe : Obj} {cls : Value} {d : Option Addr} {pn : List (Addr × Obj)}
def rIsEv (K : PySem.W.Frag) (a : Addr) (cls : Value) (d : Option Addr) : List V → Hp → VK → Prop := fun xs H Q => ∃ (D : Addr) (c : V) (cv : Value) (b : Bool), cls = .ref D ∧ d = none ∧ ExcC K D ∧ xs = [.ref a, c] ∧ ClsV c cv ∧ PySem.W.kitOne K (.ref D) cv = some b ∧ Q (.bl b) H
theorem call_isEv (hz : Zc cls d oe) (hf : ∃ vs, oe.data = .fields vs) : CallR (X.suite a ((a, oe) :: pn)) (.builtin "isinstance") (rIsEv X.K a cls d) := by
  intro pins s σ H xs us Q I r h
  obtain ⟨D, c, cv, b, rfl, rfl, C, e, hc, hk, q⟩ := h
  exact call_isE C hz hf pins s σ H xs us Q I r ⟨c, cv, b, e, fun u ru => hc.eq ru, hk, q⟩
def rIsETv (K : PySem.W.Frag) (a : Addr) (cls : Value) (d : Option Addr) : List V → Hp → VK → Prop := fun xs H Q => ∃ (D tp : Addr) (cs : List V) (ws : List Value) (b : Bool), cls = .ref D ∧ d = none ∧ ExcC K D ∧ xs = [.ref a, .ref tp] ∧ H tp = some (.tup cs) ∧ Paired ClsV cs ws ∧ PySem.W.kitAny K (.ref D) ws = some b ∧ Q (.bl b) H
theorem call_isETv (hz : Zc cls d oe) (hf : ∃ vs, oe.data = .fields vs) : CallR (X.suite a ((a, oe) :: pn)) (.builtin "isinstance") (rIsETv X.K a cls d) := by
  intro pins s σ H xs us Q I r h
  obtain ⟨D, tp, cs, ws, b, rfl, rfl, C, rfl, hT, k, e, q⟩ := h
  obtain ⟨u1, u2, rfl, r1, r2⟩ := vals2 r
  cases (show u2 = Value.ref tp from r2)
  cases (show u1 = Value.ref a from r1)
  obtain ⟨hget, _⟩ := I.pin (a, oe) (List.mem_append.mpr (.inl List.mem_cons_self))
  obtain ⟨vs, hv⟩ := hf
  have J : PySem.W.InstAt s.heap a oe D none := by
    obtain ⟨oc, od, oda, osl⟩ := oe
    obtain ⟨h1, h2⟩ := hz
    dsimp only at h1 h2 hv
    subst h1 h2 hv
    exact ⟨hget, rfl, rfl, trivial⟩
  obtain ⟨_, its, rv, o, h1, h2, n, h3⟩ := (show ObjOk X.prog X.w H s.heap tp (.tup cs) from I.hok tp _ hT)
  have e3 := ClsV.all k rv
  subst e3
  obtain ⟨oc, od, dt, sl⟩ := o
  simp only at h2 h3
  subst h2 h3
  exact PySem.W.kia_tup (PySem.W.handS_kitx_exc C.hg C.hk C.hs C.hd C.ha C.hn C.ht C.hm) I.kIn J h1 e (fun z => nomatch z) fun tk => ⟨.bl b, H, I.kept (t' := tk) fun _ _ z => z, rfl, q⟩
end
/-- ExcC by one Bool -/
def exB (K : PySem.W.Frag) (D : Addr) : Bool :=
  He.eqO (PySem.W.findIn K (.ref D) "__getattribute__") (some (some (.builtin "BaseException.__getattribute__"))) &&
  (He.eqO (PySem.W.findIn K (.ref D) "__getattr__") (some none) &&
  (decide (PySem.W.subIn K (.ref D) (.type "BaseException") = some true) &&
  (PySem.W.hasDictIn K D &&
  (He.eqO (PySem.W.findIn K (.ref D) "__class__") (some (some (.builtin "object.__class__"))) &&
  (He.eqO (PySem.W.specialIn K (.builtin "object.__class__") "__get__") (some (some (.builtin "getset_descriptor.__get__"))) &&
  (decide (PySem.W.takesIn K (.builtin "object.__class__") = some true) &&
  decide (PySem.W.mroIn K D (.type "object") = some true)))))))
theorem exB_ok {K : PySem.W.Frag} {D : Addr} (h : exB K D = true) : ExcC K D := by
  unfold exB at h
  simp only [Bool.and_eq_true] at h
  obtain ⟨h1, h2, h3, h4, h5, h6, h7, h8⟩ := h
  exact ⟨He.eqO_ok h1, He.eqO_ok h2, of_decide_eq_true h3, h4, He.eqO_ok h5, He.eqO_ok h6, of_decide_eq_true h7, of_decide_eq_true h8⟩
end Yd

set_option Elab.async false
set_option linter.all false
set_option maxRecDepth 100000
set_option maxHeartbeats 4000000
/-! Lists of pairs of whole numbers, a yard in the heap. -/
namespace Yd
open PySem PySem.Spec L2
open PyProof.Rows (envOfC)
open Bud (Pc)

theorem hu65 {A : Around} {k : Nat} (hr : Room k A) : A.units + 65 < cLine := by have := hr.un; omega
/-! ### pairs -/
/-- x is a pair of whole numbers p -/
def IsPr (H : Hp) (x : V) (p : Pc) : Prop := ∃ t, x = .ref t ∧ H t = some (.tup [.int p.1, .int p.2])
/-- xs are the pairs L -/
abbrev Prs (H : Hp) : List V → List Pc → Prop := Paired (IsPr H)
def pairOf (H : Hp) (x : V) : Pc := match x with
  | .ref t => (match H t with
    | some (.tup [.int i, .int j]) => (i, j)
    | _ => (0, 0))
  | _ => (0, 0)
theorem IsPr.of {H : Hp} {x : V} {p : Pc} (h : IsPr H x p) : pairOf H x = p := by
  obtain ⟨t, rfl, e⟩ := h
  unfold pairOf
  simp only [e]
theorem Prs.length {H : Hp} {xs : List V} {L : List Pc} (h : Prs H xs L) : xs.length = L.length := Paired.length h
theorem Prs.map_of {H : Hp} : ∀ {xs : List V} {L : List Pc}, Prs H xs L → L = xs.map (pairOf H)
  | _, _, .nil => rfl
  | _, _, .cons r t => by rw [List.map_cons, ← Prs.map_of t, r.of]
theorem Prs.mem {H : Hp} : ∀ {xs : List V} {L : List Pc}, Prs H xs L → ∀ x ∈ xs, IsPr H x (pairOf H x)
  | _, _, .nil, x, hx => by cases hx
  | _, _, .cons r t, x, hx => by
    rcases List.mem_cons.mp hx with rfl | hx
    · rw [r.of]; exact r
    · exact Prs.mem t x hx
theorem Prs.of_mem {H : Hp} : ∀ {xs : List V}, (∀ x ∈ xs, IsPr H x (pairOf H x)) → Prs H xs (xs.map (pairOf H))
  | [], _ => .nil
  | x :: xs, h => .cons (h x List.mem_cons_self) (Prs.of_mem fun y hy => h y (List.mem_cons_of_mem _ hy))
theorem Prs.append {H : Hp} : ∀ {xs ys : List V} {L M : List Pc}, Prs H xs L → Prs H ys M → Prs H (xs ++ ys) (L ++ M)
  | _, _, _, _, .nil, h => h
  | _, _, _, _, .cons r t, h => .cons r (Prs.append t h)
theorem Prs.get {H : Hp} : ∀ {xs : List V} {L : List Pc} {i : Nat} {x : V}, Prs H xs L → xs[i]? = some x → ∃ p, L[i]? = some p ∧ IsPr H x p
  | _, _, _, _, .nil, e => by simp at e
  | _, _, 0, _, .cons r _, e => by simp at e; subst e; exact ⟨_, rfl, r⟩
  | _, _, i + 1, x, .cons _ t, e => by
    obtain ⟨u, h1, h2⟩ := Prs.get (i := i) (x := x) t (by simpa using e)
    exact ⟨u, by simpa using h1, h2⟩
theorem Prs.get' {H : Hp} : ∀ {xs : List V} {L : List Pc} {i : Nat} {p : Pc}, Prs H xs L → L[i]? = some p → ∃ x, xs[i]? = some x ∧ IsPr H x p
  | _, _, _, _, .nil, e => by simp at e
  | _, _, 0, _, .cons r _, e => by simp at e; subst e; exact ⟨_, rfl, r⟩
  | _, _, i + 1, p, .cons _ t, e => by
    obtain ⟨u, h1, h2⟩ := Prs.get' (i := i) (p := p) t (by simpa using e)
    exact ⟨u, by simpa using h1, h2⟩
theorem Prs.eraseIdx {H : Hp} : ∀ {xs : List V} {L : List Pc} (i : Nat), Prs H xs L → Prs H (xs.eraseIdx i) (L.eraseIdx i)
  | _, _, _, .nil => .nil
  | _, _, 0, .cons _ t => t
  | _, _, i + 1, .cons r t => .cons r (Prs.eraseIdx i t)
theorem Prs.take {H : Hp} : ∀ {xs : List V} {L : List Pc} (i : Nat), Prs H xs L → Prs H (xs.take i) (L.take i)
  | _, _, 0, _ => .nil
  | _, _, _ + 1, .nil => .nil
  | _, _, i + 1, .cons r t => .cons r (Prs.take i t)
/-- the tuples stand still -/
def TupKept (H H' : Hp) : Prop := ∀ t xs, H t = some (.tup xs) → H' t = some (.tup xs)
theorem IsPr.kept {H H' : Hp} {x : V} {p : Pc} (k : TupKept H H') (h : IsPr H x p) : IsPr H' x p := by
  obtain ⟨t, e, e2⟩ := h
  exact ⟨t, e, k _ _ e2⟩
theorem Prs.kept {H H' : Hp} (k : TupKept H H') {xs : List V} {L : List Pc} (h : Prs H xs L) : Prs H' xs L := Paired.mapP h fun _ _ r => r.kept k
theorem Same.tups {H H' : Hp} (s : Same H H') : TupKept H H' := fun t xs e => s t _ e
theorem tups_upd {H : Hp} {a : Addr} {o : HO} (h : H a = none) : TupKept H (upd H a o) := fun t xs e => by
  rw [upd_ne (ne_of_none e h)]
  exact e
/-- a store to what is no tuple -/
theorem tups_put {H : Hp} {a : Addr} {o u : HO} (h : H a = some u) (hn : ∀ xs, u ≠ .tup xs) : TupKept H (upd H a o) := fun t xs e => by
  refine (upd_ne ?_).trans e
  intro q
  rw [q, h] at e
  exact hn xs (Option.some.inj e)
theorem TupKept.trans {H H1 H2 : Hp} (a : TupKept H H1) (b : TupKept H1 H2) : TupKept H H2 := fun t xs e => b _ _ (a _ _ e)
theorem same_new {H : Hp} {p : Addr} {o : HO} (h : H p = none) : Same H (upd H p o) := fun b u e => by
  rw [upd_ne (ne_of_none e h)]
  exact e

/-! ### the same as data -/
def pD (p : Pc) : PyData := .tuple [.int p.1, .int p.2]
theorem pD_depth (p : Pc) : (pD p).depth = 1 := by simp [pD, PyData.depth, PyData.depthAll]
theorem pD_lay (p : Pc) : (pD p).canLay0 = true := by simp [pD, PyData.canLay0, PyData.canLayAll0]
theorem pDs_lay : ∀ L : List Pc, PyData.canLayAll0 (L.map pD) = true
  | [] => by simp [PyData.canLayAll0]
  | p :: L => by simp [PyData.canLayAll0, pD_lay p, pDs_lay L]
theorem pD_plain (p : Pc) : (pD p).plain = true := by simp [pD, PyData.plain, PyData.plainAll]
theorem pDs_plain : ∀ L : List Pc, PyData.plainAll (L.map pD) = true
  | [] => by simp [PyData.plainAll]
  | p :: L => by simp [PyData.plainAll, pD_plain p, pDs_plain L]
theorem pDs_depth : ∀ L : List Pc, PyData.depthAll (L.map pD) ≤ 1
  | [] => by simp [PyData.depthAll]
  | p :: L => by
    have h1 := pDs_depth L
    have h2 := pD_depth p
    simp only [List.map_cons, PyData.depthAll]
    omega
theorem pD_shaped (p : Pc) : SeqAt.shaped (pD p) = true := by
  have h := pD_depth p
  show ((pD p).canLay0 && decide ((pD p).depth ≤ 64)) = true
  rw [Bool.and_eq_true]
  exact ⟨pD_lay p, decide_eq_true (by omega)⟩
theorem pDs_shaped (L : List Pc) : SeqAt.shaped (.list (L.map pD)) = true := by
  have h1 := pDs_depth L
  have h2 : PyData.depth (.list (L.map pD)) ≤ 64 := by
    simp only [PyData.depth]
    omega
  show (PyData.canLay0 (.list (L.map pD)) && decide (PyData.depth (.list (L.map pD)) ≤ 64)) = true
  rw [Bool.and_eq_true]
  exact ⟨by simp only [PyData.canLay0]; exact pDs_lay L, decide_eq_true h2⟩
theorem pD_eqv (p q : Pc) : PyData.eqv (pD p) (pD q) = decide (p = q) := by
  obtain ⟨a, b⟩ := p
  obtain ⟨c, d⟩ := q
  have e : PyData.eqv (pD (a, b)) (pD (c, d)) = ((a == c) && ((b == d) && true)) := by simp only [pD, PyData.eqv, PyData.eqvAll]
  rw [e]
  by_cases h : ((a, b) : Pc) = (c, d)
  · cases h
    simp
  · rw [decide_eq_false h]
    by_cases h1 : a = c
    · have h2 : ¬ b = d := fun q => h (by rw [h1, q])
      rw [beq_eq_false_iff_ne.mpr h2, Bool.false_and, Bool.and_false]
    · rw [beq_eq_false_iff_ne.mpr h1, Bool.false_and]
theorem pDs_eqv : ∀ L M : List Pc, PyData.eqvAll (L.map pD) (M.map pD) = decide (L = M)
  | [], [] => by simp [PyData.eqvAll]
  | [], q :: M => by simp [PyData.eqvAll]
  | p :: L, [] => by simp [PyData.eqvAll]
  | p :: L, q :: M => by
    simp only [List.map_cons, PyData.eqvAll, pD_eqv, pDs_eqv L M]
    by_cases h1 : p = q
    · by_cases h2 : L = M
      · rw [decide_eq_true h1, decide_eq_true h2, decide_eq_true (by rw [h1, h2])]
        rfl
      · rw [decide_eq_false h2, decide_eq_false (fun z => h2 (List.cons.inj z).2), Bool.and_false]
    · rw [decide_eq_false h1, decide_eq_false (fun z => h1 (List.cons.inj z).1), Bool.false_and]
theorem IsPr.dp {K : PySem.W.Frag} {H : Hp} {x : V} {p : Pc} (h : IsPr H x p) : Dp K H x (pD p) := by
  obtain ⟨t, rfl, e⟩ := h
  exact .tup (SqT.of e) (.cons (.int _) (.cons (.int _) .nil))
theorem Prs.dps {K : PySem.W.Frag} {H : Hp} : ∀ {xs : List V} {L : List Pc}, Prs H xs L → DpAll K H xs (L.map pD)
  | _, _, .nil => .nil
  | _, _, .cons r t => .cons r.dp (Prs.dps t)
theorem Prs.dp {K : PySem.W.Frag} {H : Hp} {l : Addr} {xs : List V} {L : List Pc} (h : Prs H xs L) (hl : SqL K H l xs) : Dp K H (.ref l) (.list (L.map pD)) := .lst hl h.dps
theorem any_pD (L : List Pc) (p : Pc) : ((L.map pD).any fun z => PyData.eqv z (pD p)) = decide (p ∈ L) := by
  rw [List.any_map]
  by_cases h : p ∈ L
  · rw [decide_eq_true h]
    exact List.any_eq_true.mpr ⟨p, h, by simp [Function.comp, pD_eqv]⟩
  · rw [decide_eq_false h]
    refine List.any_eq_false.mpr fun q hq => ?_
    simp only [Function.comp, pD_eqv, decide_eq_true_eq]
    intro e
    rw [e] at hq
    exact h hq

section
variable {X : Cx}
def rInP (K : PySem.W.Frag) (neg : Bool) : R2 := fun x y H Q => ∃ (l : Addr) (vs : List V) (L : List Pc) (p : Pc), y = .ref l ∧ SqL K H l vs ∧ Prs H vs L ∧ IsPr H x p ∧ Q (.bl (if neg then !decide (p ∈ L) else decide (p ∈ L))) H
theorem op_inP (hu : X.A.units + 65 < cLine) : OpR X (compareOp .In) (rInP X.K false) := by
  intro pins s σ H x y v u Q I rx ry h
  obtain ⟨l, vs, L, p, rfl, hl, hp, hx, q⟩ := h
  refine op_inD hu pins s σ H x _ v u Q I rx ry ⟨pD p, L.map pD, hx.dp, hp.dp hl, pD_shaped p, pDs_shaped L, ?_⟩
  rw [any_pD]
  exact q
theorem op_notInP (hu : X.A.units + 65 < cLine) : OpR X (compareOp .NotIn) (rInP X.K true) := by
  intro pins s σ H x y v u Q I rx ry h
  obtain ⟨l, vs, L, p, rfl, hl, hp, hx, q⟩ := h
  refine op_notInD hu pins s σ H x _ v u Q I rx ry ⟨pD p, L.map pD, hx.dp, hp.dp hl, pD_shaped p, pDs_shaped L, ?_⟩
  rw [any_pD]
  exact q
/-- two lists of pairs -/
def rEqPs (K : PySem.W.Frag) (neg : Bool) : R2 := fun x y H Q => ∃ (l m : Addr) (vs us : List V) (L M : List Pc), x = .ref l ∧ y = .ref m ∧ SqL K H l vs ∧ SqL K H m us ∧ Prs H vs L ∧ Prs H us M ∧ Q (.bl (if neg then !decide (L = M) else decide (L = M))) H
theorem op_eqPs (hu : X.A.units + 64 < cLine) : OpR X (compareOp .Eq) (rEqPs X.K false) := by
  intro pins s σ H x y v u Q I rx ry h
  obtain ⟨l, m, vs, us, L, M, rfl, rfl, hl, hm, hp, hq, q⟩ := h
  refine op_eqD hu pins s σ H _ _ v u Q I rx ry ⟨_, _, hp.dp hl, hq.dp hm, pDs_shaped L, pDs_shaped M, ?_⟩
  simp only [PyData.eqv]
  rw [pDs_eqv]
  exact q
theorem op_nePs (hu : X.A.units + 64 < cLine) : OpR X (compareOp .NotEq) (rEqPs X.K true) := by
  intro pins s σ H x y v u Q I rx ry h
  obtain ⟨l, m, vs, us, L, M, rfl, rfl, hl, hm, hp, hq, q⟩ := h
  refine op_neD hu pins s σ H _ _ v u Q I rx ry ⟨_, _, hp.dp hl, hq.dp hm, pDs_shaped L, pDs_shaped M, ?_⟩
  simp only [PyData.eqv]
  rw [pDs_eqv]
  exact q
theorem eqT {L M : List Pc} (h : L = M) : V.bl (if false = true then !decide (L = M) else decide (L = M)) = V.bl true := by
  rw [decide_eq_true h]
  rfl
theorem neF {L M : List Pc} (h : L = M) : V.bl (if true = true then !decide (L = M) else decide (L = M)) = V.bl false := by
  rw [decide_eq_true h]
  rfl
/-- two pairs -/
def rNeP : R2 := fun x y H Q => ∃ p q : Pc, IsPr H x p ∧ IsPr H y q ∧ Q (.bl (!decide (p = q))) H
theorem op_neP (hu : X.A.units + 64 < cLine) : OpR X (compareOp .NotEq) rNeP := by
  intro pins s σ H x y v u Q I rx ry h
  obtain ⟨p, q, hp, hq, k⟩ := h
  refine op_neD hu pins s σ H _ _ v u Q I rx ry ⟨_, _, hp.dp, hq.dp, pD_shaped p, pD_shaped q, ?_⟩
  rw [pD_eqv]
  exact k
/-- sorted of a list of pairs -/
def rSortPs (K : PySem.W.Frag) : List V → Hp → VK → Prop := fun vs H Q => ∃ (a : Addr) (xs : List V) (L : List Pc), vs = [.ref a] ∧ SqL K H a xs ∧ Prs H xs L ∧
  ∀ (ys : List V) (M : List Pc) (q : Addr), M.Perm L → Bud.Srt M → Prs H ys M → H q = none → Q (.ref q) (upd H q (.lst ys))
theorem cr_sortPs : CallR X (.builtin "sorted") (rSortPs X.K) := by
  intro pins s σ H vs us Q I r h
  obtain ⟨a, xs, L, rfl, hl, hp, k⟩ := h
  refine cr_sortedPO pins s σ H _ us Q I r ⟨a, xs, pairOf H, rfl, hl, fun x hx => hp.mem x hx, fun ys q hs hb hq => ?_⟩
  have hm : ∀ y ∈ ys, IsPr H y (pairOf H y) := fun y hy => hp.mem y (hb.perm.mem_iff.mp hy)
  refine k ys (ys.map (pairOf H)) q ?_ ?_ (Prs.of_mem hm) hq
  · rw [hp.map_of]
    exact hb.perm.map _
  · refine List.pairwise_map.mpr (List.Pairwise.imp (fun {x y} h => ?_) hs)
    have := SrtO.lexB_no.mp h
    unfold Bud.lexle
    omega
end

/-! ### p[0], p[1] of a pair -/
section
variable {X : Cx} {e i : Expr} {te : TE} {pos p2 : Pos} {k : Nat}
def tSel0 (te : TE) : TE := fun σ H Q => te σ H fun x H1 => ∃ p : Pc, IsPr H1 x p ∧ Q (.int p.1) H1
def tSel1 (te : TE) : TE := fun σ H Q => te σ H fun x H1 => ∃ p : Pc, IsPr H1 x p ∧ Q (.int p.2) H1
theorem pe_p0 {p3 : Pos} (he : PE X e te) : PE X (.Subscript e (.Constant (.int 0) k p3) pos) (tSel0 te) := by
  refine ⟨fun pins s σ H Q I h => ?_⟩
  refine PyProof.Rows.Subscript_ (thn (he.run pins s σ H _ I h) fun v s1 ⟨x, H1, I1, rx, p, hp, q⟩ => thn (pe_int.run pins s1 σ H1 (fun y H2 => y = .int 0 ∧ H2 = H1) I1 ⟨rfl, rfl⟩) fun u s2 ⟨y, H2, I2, ry, ey, eH⟩ => ?_)
  subst ey
  subst eH
  obtain ⟨t, rfl, et⟩ := hp
  exact ix_tup e _ pins s2 σ H2 _ _ v u Q I2 rx ry ⟨t, _, 0, _, rfl, rfl, SqT.of et, rfl, q⟩ rfl
theorem pe_p1 {p3 : Pos} (he : PE X e te) : PE X (.Subscript e (.Constant (.int 1) k p3) pos) (tSel1 te) := by
  refine ⟨fun pins s σ H Q I h => ?_⟩
  refine PyProof.Rows.Subscript_ (thn (he.run pins s σ H _ I h) fun v s1 ⟨x, H1, I1, rx, p, hp, q⟩ => thn (pe_int.run pins s1 σ H1 (fun y H2 => y = .int 1 ∧ H2 = H1) I1 ⟨rfl, rfl⟩) fun u s2 ⟨y, H2, I2, ry, ey, eH⟩ => ?_)
  subst ey
  subst eH
  obtain ⟨t, rfl, et⟩ := hp
  exact ix_tup e _ pins s2 σ H2 _ _ v u Q I2 rx ry ⟨t, _, 1, _, rfl, rfl, SqT.of et, rfl, q⟩ rfl
theorem PE.imp {X : Cx} {e : Expr} {t t' : TE} (h : PE X e t) (i : ∀ σ H Q, t' σ H Q → t σ H Q) : PE X e t' := ⟨fun pins s σ H Q I q => h.run pins s σ H Q I (i σ H Q q)⟩
end

/-! ### xs.remove(p), p a pair that is there -/
theorem place_pD : ∀ {L : List Pc} {p : Pc}, p ∈ L → ∃ j, SeqAt.dataPlace (L.map pD) (pD p) = some j ∧ L.eraseIdx j = L.erase p
  | [], p, h => by cases h
  | q :: L, p, h => by
    unfold SeqAt.dataPlace
    rw [List.map_cons, List.findIdx?_cons, pD_eqv]
    by_cases e : q = p
    · subst e
      rw [decide_eq_true rfl]
      exact ⟨0, rfl, by rw [List.erase_cons_head]; rfl⟩
    · rw [decide_eq_false e]
      have hp : p ∈ L := by
        rcases List.mem_cons.mp h with z | z
        · exact absurd z.symm e
        · exact z
      obtain ⟨j, h1, h2⟩ := place_pD hp
      unfold SeqAt.dataPlace at h1
      refine ⟨j + 1, ?_, ?_⟩
      · simp only [Bool.false_eq_true, if_false]
        rw [h1]
        rfl
      · rw [List.erase_cons_tail (by simpa using e), ← h2]
        rfl
section
variable {X : Cx}
def rRemP : V → List V → Hp → VK → Prop := fun x xs H Q => ∃ (l : Addr) (y : V) (vs : List V) (L : List Pc) (p : Pc), x = .ref l ∧ xs = [y] ∧ H l = some (.lst vs) ∧ Prs H vs L ∧ IsPr H y p ∧ p ∈ L ∧
  ∀ vs', Prs H vs' (L.erase p) → Q .non (upd H l (.lst vs'))
theorem mt_removeP (hu : X.A.units + 65 < cLine) : MtR X "list.remove" rRemP := by
  intro pins s σ H x xs v us Q I rx rxs h
  obtain ⟨l, y, vs, L, p, rfl, rfl, hl, hp, hy, hm, q⟩ := h
  cases rx
  obtain ⟨u, rfl, ry⟩ := vals1 rxs
  obtain ⟨z, its, n, r, hlen, e0⟩ := I.lstM hl
  obtain ⟨bs, r1⟩ := Dp.reads I (pD p) y u (hy.dp (K := X.K)) ry
  obtain ⟨as, r2⟩ := Dp.readsAll I (L.map pD) vs its (hp.dps (K := X.K)) r
  obtain ⟨j, hj, he⟩ := place_pD hm
  have hsz : its.toArray.size ≤ sizeLine := by rw [List.size_toArray, ← hlen]; exact z
  refine SeqAt.remove_list_data (vs := its.toArray) ⟨_, e0, rfl, n, rfl⟩ r2 r1 (pDs_plain L) (pD_plain p) ?_ hj hsz ?_
  · have h1 := pD_depth p
    have h2 : min (PyData.depthAll (L.map pD)) (pD p).depth ≤ (pD p).depth := Nat.min_le_right _ _
    omega
  · refine ⟨.non, _, I.lset (its' := its.eraseIdx j) hl e0 ?_ (r.eraseIdx j) ?_, rfl, q (vs.eraseIdx j) ?_⟩
    · show its.toArray.eraseIdxIfInBounds j = (its.eraseIdx j).toArray
      rw [List.eraseIdxIfInBounds_toArray]
    · have := List.length_eraseIdx_le vs j
      omega
    · rw [← he]
      exact hp.eraseIdx j
/-- sorted(d): the keys of a dict, all whole numbers, any number of them -/
def rSortD : List V → Hp → VK → Prop := fun xs H Q => ∃ (a : Addr) (kvs : List (Key × V)) (ks : List Int), xs = [.ref a] ∧ Rd H a (.dK kvs) ∧ kvs.map (·.1) = ks.map Sum.inl ∧
    ∀ (ys : List Int) (p : Addr), ys.Perm ks → ys.Pairwise (· ≤ ·) → H p = none → Q (.ref p) (upd H p (.lst (ys.map V.int)))
theorem cr_sortD (hcalm : X.calm = true) : CallR X (.builtin "sorted") rSortD := by
  intro pins s σ H xs us Q I r q
  obtain ⟨a, kvs, ks, rfl, hd, hks, q⟩ := q
  obtain ⟨u, rfl, rx⟩ := vals1 r
  cases rx
  obtain ⟨z, lo, vs, rel, dd⟩ := dk_rd I.hok hd
  obtain ⟨ep, hat⟩ := dd.dictAt
  have hkeys : vs.map (·.1) = ks.map Sum.inl := rel.keys.symm.trans hks
  have hl : vs.length = ks.length := by
    have e := congrArg List.length hkeys
    rw [List.length_map, List.length_map] at e
    exact e
  have h16 : vs.length ≤ sizeLine := by
    have e : kvs.length = vs.length := Paired.length rel
    omega
  refine Calls.call_function_entry PyProof.Rows.kind_sorted PyProof.Rows.plain_sorted PyProof.Rows.entry_sorted (PyProof.Rows.args_sorted1 _) ?_
  unfold Builtin.«sorted»
  refine wpAny_bind (m := checkCount "sorted" 1 1 _) (wpAny_pure ?_)
  refine wpAny_bind (PySem.W.kdu_collect (A := X.A.in1) (PySem.W.kdl_dict (knd := mixKind X.prog X.w) (kvs := vs) (ep := ep) lo) (I.ok.hd hcalm) hat h16 fun h' tk acc hk hacc => ?_)
  have hal : acc.toList.length = ks.length := by rw [Array.length_toList, hacc.1, hl]
  have hS : PyProof.Rows.IntsAre acc.toList ks := ints_each hal fun j v e => by
    obtain ⟨k, x, e1, e2⟩ := hacc.2 j v (by rw [← Array.getElem?_toList]; exact e)
    have e3 : (vs.map (·.1))[j]? = some k := by rw [List.getElem?_map, e1]; rfl
    rw [hkeys, List.getElem?_map] at e3
    cases e4 : ks[j]? with
    | none => rw [e4] at e3; cases e3
    | some y =>
      rw [e4] at e3
      have e5 : Sum.inl y = k := Option.some.inj e3
      subst e5
      rcases keyIs_shape (show keyIs (Sum.inl y) v = true from e2) with ⟨i, t, ek, ev⟩ | ⟨z, t, ek, ev⟩
      · cases ek
        exact ⟨y, t, rfl, ev⟩
      · cases ek
  have I1 : Inv X pins σ H { s with heap := h', toks := tk } := I.kept hk
  have hzz : acc.toList.length ≤ sizeLine := by omega
  refine wpAny_bind (wpAny_newList ?_ hzz)
  have hoL : (h'.push (PyProof.Rows.seqObj "list" acc.toList.toArray 0)).get? h'.objs.size = some (PyProof.Rows.seqObj "list" acc.toList.toArray 0) := Heap.get?_push_size _ rfl
  show wpAny _ _ _ _ _ { s with heap := h'.push (PyProof.Rows.seqObj "list" acc.toList.toArray 0), toks := tk }
  refine wpAny_bind (wpAny_holding (wpAny_call_entry PyProof.Rows.slot_list_sort ⟨_, hoL, rfl⟩ PyProof.Rows.entry_list_sort
    (SrtO.list_sort_ord (s := { s with heap := h'.push (PyProof.Rows.seqObj "list" acc.toList.toArray 0), toks := tk }) SrtO.swo_int hoL hzz (fun h2 => SrtO.ints_sortable hS h2) fun out g1 g2 => ⟨_, rfl, ?_⟩) (PyProof.Rows.args_list_sort _)))
  obtain ⟨k1, k2, k3⟩ := SrtO.ints_out hS g1 g2
  obtain ⟨e', he'⟩ := PyProof.Rows.sortedHeap_at (vs := acc.toList) (out := out.toArray) hoL
  have hlen : ((out.map SrtO.iv).map V.int).length ≤ sizeLine := by
    rw [List.length_map, k2.length_eq]
    omega
  refine wpAny_pure ⟨_, rfl, .ref h'.objs.size, upd H h'.objs.size (.lst ((out.map SrtO.iv).map V.int)), I1.laid (t' := tk) (fun b u e => ?_) (Nat.le_refl _)
    (show ObjOk X.prog X.w _ _ _ (.lst ((out.map SrtO.iv).map V.int)) from ⟨hlen, out, e', vals_of_ints k1, he'⟩), rfl, q _ _ k2 k3 (I1.hok.fresh (Nat.le_refl _))⟩
  have hb : b < h'.objs.size := Heap.lt_size e
  rw [PyProof.Rows.sortedHeap_old (Nat.ne_of_lt hb) (by rw [Heap.size_push]; exact Nat.lt_succ_of_lt hb)]
  exact Heap.get?_push_of_some _ e
end
end Yd

set_option Elab.async false
set_option linter.all false
set_option maxRecDepth 100000
set_option maxHeartbeats 4000000
/-! A yard in the heap. -/
namespace Yd
open PySem PySem.Spec L2
open PyProof.Rows (envOfC)
open Bud (Pc T Can frees outs pw)

/-! ### its fields -/
theorem n_cs : ¬ (("cells" : Str) = "spare") := by decide +kernel
theorem n_cg : ¬ (("cells" : Str) = "given") := by decide +kernel
theorem n_sg : ¬ (("spare" : Str) = "given") := by decide +kernel
def yf (c : Int) (l d : Addr) : List (Str × V) := putF "given" (.ref d) (putF "spare" (.ref l) (putF "cells" (.int c) []))
theorem yf_eq (c : Int) (l d : Addr) : yf c l d = ([("cells", V.int c), ("spare", V.ref l), ("given", V.ref d)] : List (Str × V)) := by
  unfold yf
  show (if ("cells" : Str) = "given" then _ else (("cells" : Str), V.int c) :: putF "given" (.ref d) (putF "spare" (.ref l) [])) = _ <;>
  first
  | rfl
  | (simp only [putF, if_neg n_cs, if_neg n_cg, if_neg n_sg])
theorem yf_cells (c : Int) (l d : Addr) : (yf c l d).lookup ("cells" : Str) = some (.int c) := by
  unfold yf
  rw [lookup_putF, if_neg n_cg, lookup_putF, if_neg n_cs, lookup_putF, if_pos rfl]
theorem yf_spare (c : Int) (l d : Addr) : (yf c l d).lookup ("spare" : Str) = some (.ref l) := by
  unfold yf
  rw [lookup_putF, if_neg n_sg, lookup_putF, if_pos rfl]
theorem yf_given (c : Int) (l d : Addr) : (yf c l d).lookup ("given" : Str) = some (.ref d) := by
  unfold yf
  rw [lookup_putF, if_pos rfl]
theorem yf_no (c : Int) (l d : Addr) {m : Str} (h1 : ¬ m = "cells") (h2 : ¬ m = "spare") (h3 : ¬ m = "given") : (yf c l d).lookup m = none := by
  unfold yf
  rw [lookup_putF, if_neg h3, lookup_putF, if_neg h2, lookup_putF, if_neg h1]
  rfl
theorem yf_put (c : Int) (l m d : Addr) : putF "spare" (.ref m) (yf c l d) = yf c m d := by
  rw [yf_eq, yf_eq]
  simp only [putF, if_neg n_cs, if_pos]
theorem yf_len (c : Int) (l d : Addr) : (yf c l d).length < 1000 := by
  rw [yf_eq]
  show 3 < 1000
  decide

/-! ### the dict of what is given -/
def gk (G : List Pc) : List (Key × V) := G.map fun p => ((Sum.inl p.1 : Key), V.int p.2)
theorem gk_len (G : List Pc) : (gk G).length = G.length := List.length_map _
theorem gk_keys (G : List Pc) : (gk G).map (·.1) = (G.map (·.1)).map Sum.inl := by
  unfold gk
  rw [List.map_map, List.map_map]
  rfl
theorem gk_none {a : Int} : ∀ {G : List Pc}, (∀ p ∈ G, p.1 ≠ a) → valV (gk G) (Sum.inl a : Key) = none
  | [], _ => rfl
  | p :: G, h => by
    show valV (((Sum.inl p.1 : Key), V.int p.2) :: gk G) (Sum.inl a) = none
    rw [valV_neg (fun q => h p List.mem_cons_self (Sum.inl.inj q))]
    exact gk_none fun q hq => h q (List.mem_cons_of_mem _ hq)
theorem gk_val {a s : Int} : ∀ {G : List Pc}, (G.map (·.1)).Nodup → (a, s) ∈ G → valV (gk G) (Sum.inl a : Key) = some (.int s)
  | [], _, h => by cases h
  | p :: G, nd, h => by
    show valV (((Sum.inl p.1 : Key), V.int p.2) :: gk G) (Sum.inl a) = some (.int s)
    have ⟨n1, n2⟩ := List.nodup_cons.mp nd
    rcases List.mem_cons.mp h with e | h
    · rw [← e]
      exact valV_pos rfl
    · rw [valV_neg (fun q => n1 (by
      show p.1 ∈ G.map (·.1)
      rw [show p.1 = a from Sum.inl.inj q]
      exact List.mem_map.mpr ⟨_, h, rfl⟩))]
      exact gk_val n2 h
theorem gk_some {a : Int} {v : V} : ∀ {G : List Pc}, valV (gk G) (Sum.inl a : Key) = some v → ∃ s, v = .int s ∧ (a, s) ∈ G
  | [], h => by cases h
  | p :: G, h => by
    have h' : valV (((Sum.inl p.1 : Key), V.int p.2) :: gk G) (Sum.inl a) = some v := h
    by_cases e : p.1 = a
    · rw [valV_pos (by rw [e])] at h'
      refine ⟨p.2, (Option.some.inj h').symm, ?_⟩
      rw [← e]
      exact List.mem_cons_self
    · rw [valV_neg (fun q => e (Sum.inl.inj q))] at h'
      obtain ⟨s, e1, e2⟩ := gk_some h'
      exact ⟨s, e1, List.mem_cons_of_mem _ e2⟩
theorem gk_drop (G : List Pc) (a : Int) : dropK (gk G) (Sum.inl a : Key) = gk (G.filter fun p => decide (p.1 ≠ a)) := by
  unfold dropK gk
  rw [List.filter_map]
  congr 1
  refine List.filter_congr fun p _ => ?_
  show decide ((Sum.inl p.1 : Key) ≠ Sum.inl a) = decide (p.1 ≠ a)
  exact decide_eq_decide.mpr ⟨fun h q => h (by rw [q]), fun h q => h (Sum.inl.inj q)⟩
theorem gk_new {G : List Pc} {a s : Int} (h : valV (gk G) (Sum.inl a : Key) = none) : putK (gk G) (Sum.inl a) (.int s) = gk (G ++ [(a, s)]) := by
  rw [putK_new _ h]
  unfold gk
  rw [List.map_append]
  rfl
theorem gk_old {G : List Pc} {a s : Int} {v : V} (h : valV (gk G) (Sum.inl a : Key) = some v) : putK (gk G) (Sum.inl a) (.int s) = gk (G.map fun p => if p.1 = a then (p.1, s) else p) := by
  unfold putK
  rw [valV_any, h, if_pos (show (some v).isSome = true from rfl)]
  unfold gk
  rw [List.map_map, List.map_map]
  refine List.map_congr_left fun p _ => ?_
  show (if (Sum.inl p.1 : Key) = Sum.inl a then _ else _) = _
  by_cases e : p.1 = a
  · rw [if_pos (by rw [e])]
    show _ = ((Sum.inl (if p.1 = a then (p.1, s) else p).1 : Key), V.int (if p.1 = a then (p.1, s) else p).2)
    rw [if_pos e]
  · rw [if_neg (fun q => e (Sum.inl.inj q))]
    show _ = ((Sum.inl (if p.1 = a then (p.1, s) else p).1 : Key), V.int (if p.1 = a then (p.1, s) else p).2)
    rw [if_neg e]

/-! ### what stays -/
/-- all but what stands at p and d is as it was -/
def Kp (p d : Addr) (H H' : Hp) : Prop := ∀ b o, H b = some o → b ≠ p → b ≠ d → H' b = some o
theorem Same.kp {H H' : Hp} (s : Same H H') (p d : Addr) : Kp p d H H' := fun b o e _ _ => s b o e
theorem Kp.trans {p d : Addr} {H H1 H2 : Hp} (a : Kp p d H H1) (b : Kp p d H1 H2) : Kp p d H H2 := fun c o e h1 h2 => b c o (a c o e h1 h2) h1 h2
theorem Kp.free {p d : Addr} {H H' : Hp} (k : Kp p d H H') {b : Addr} (hp : b ≠ p) (hd : b ≠ d) (h : H' b = none) : H b = none := by
  cases q : H b with
  | none => rfl
  | some o =>
    rw [k b o q hp hd] at h
    cases h
/-- a yard at p, its dict at d -/
def YardAt (K : PySem.W.Frag) (H : Hp) (p d : Addr) (c : Int) (L G : List Pc) : Prop := ∃ (dx l : Addr) (xs : List V), H p = some (.ins (He.ga K "Yard") dx (yf c l d)) ∧ H l = some (.lst xs) ∧ Prs H xs L ∧ H d = some (.dK (gk G))
/-- there is a yard -/
def HasY (H : Hp) (p d : Addr) : Prop := (∃ C dx fs, H p = some (.ins C dx fs)) ∧ ∃ kvs, H d = some (.dK kvs)
section
variable {K : PySem.W.Frag} {H H' : Hp} {p d : Addr} {c : Int} {L G : List Pc}
theorem YardAt.has (y : YardAt K H p d c L G) : HasY H p d := by
  obtain ⟨dx, l, xs, h1, _, _, h2⟩ := y
  exact ⟨⟨_, _, _, h1⟩, _, h2⟩
theorem YardAt.same (s : Same H H') (y : YardAt K H p d c L G) : YardAt K H' p d c L G := by
  obtain ⟨dx, l, xs, h1, h2, h3, h4⟩ := y
  exact ⟨dx, l, xs, s _ _ h1, s _ _ h2, h3.kept (Same.tups s), s _ _ h4⟩
theorem HasY.ne (y : HasY H p d) : p ≠ d := by
  obtain ⟨⟨_, _, _, h1⟩, _, h2⟩ := y
  exact ne_of h1 h2 (by intro z; cases z)
theorem HasY.other (y : HasY H p d) {b : Addr} {o : HO} (h : H b = some o) (h1 : ∀ C dx fs, o ≠ .ins C dx fs) (h2 : ∀ kvs, o ≠ .dK kvs) : b ≠ p ∧ b ≠ d := by
  obtain ⟨⟨_, _, _, e1⟩, _, e2⟩ := y
  exact ⟨ne_of h e1 (h1 _ _ _), ne_of h e2 (h2 _)⟩
theorem HasY.keep (y : HasY H p d) (k : Kp p d H H') {b : Addr} {o : HO} (h : H b = some o) (h1 : ∀ C dx fs, o ≠ .ins C dx fs) (h2 : ∀ kvs, o ≠ .dK kvs) : H' b = some o := by
  obtain ⟨n1, n2⟩ := y.other h h1 h2
  exact k b o h n1 n2
theorem HasY.lst (y : HasY H p d) (k : Kp p d H H') {b : Addr} {xs : List V} (h : H b = some (.lst xs)) : H' b = some (.lst xs) := y.keep k h (fun _ _ _ z => by cases z) (fun _ z => by cases z)
theorem HasY.tups (y : HasY H p d) (k : Kp p d H H') : TupKept H H' := fun b xs h => y.keep k h (fun _ _ _ z => by cases z) (fun _ z => by cases z)
theorem HasY.prs (y : HasY H p d) (k : Kp p d H H') {xs : List V} {M : List Pc} (h : Prs H xs M) : Prs H' xs M := h.kept (y.tups k)
theorem HasY.seq (y : HasY H p d) (k : Kp p d H H') {a : Addr} {xs : List V} (h : SqL K H a xs) : SqL K H' a xs := by
  rcases h with (h | ⟨o, h⟩) | h
  · exact .inl (.inl (y.lst k h))
  · exact .inl (.inr ⟨o, y.keep k h (fun _ _ _ z => by cases z) (fun _ z => by cases z)⟩)
  · exact .inr h
end
/-- a yard of 2 ** k cells whose pieces are t's -/
def YardT (K : PySem.W.Frag) (H : Hp) (p d : Addr) {k : Nat} (t : T k) : Prop := k ≤ 60 ∧ Can t ∧ ∃ G, G.Perm (outs t 0) ∧ YardAt K H p d (pw k) (frees t 0) G
section
variable {K : PySem.W.Frag} {H H' : Hp} {p d : Addr} {k : Nat} {t : T k}
theorem YardT.has (y : YardT K H p d t) : HasY H p d := by
  obtain ⟨_, _, G, _, y⟩ := y
  exact y.has
theorem YardT.same (s : Same H H') (y : YardT K H p d t) : YardT K H' p d t := by
  obtain ⟨h1, h2, G, h3, y⟩ := y
  exact ⟨h1, h2, G, h3, y.same s⟩
end
theorem keys_nd {k : Nat} {t : T k} {G : List Pc} (h : G.Perm (outs t 0)) : (G.map (·.1)).Nodup :=
  (h.map (·.1)).nodup_iff.mpr (Bud.nodup_fst_of_ahead (Bud.ahead_outs t (Bud.zdvd k)) fun p hp => (Bud.in_outs t (Bud.zdvd k) hp).pos)
theorem frees_1000 {k : Nat} {t : T k} (hk : k ≤ 60) (hc : Can t) (h : (outs t 0).length ≤ 1000) : (frees t 0).length ≤ 100000 := by
  have h1 := (Bud.frees_few t 0 hc).1
  have h2 : k * (outs t 0).length ≤ 60 * 1000 := Nat.mul_le_mul hk h
  omega
theorem frees_sz {k : Nat} {t : T k} (hk : k ≤ 60) : ∀ p ∈ frees t 0, 0 < p.2 ∧ p.2 ≤ pw 60 := fun p hp => by
  have i := Bud.in_frees t (Bud.zdvd k) hp
  obtain ⟨_, _, j, hj, e, _⟩ := i
  rw [e]
  exact ⟨Bud.pw_pos j, Bud.pw_le (by omega)⟩

structure NoM (fs : List (Str × V)) : Prop where
  give : fs.lookup ("give" : Str) = none
  take : fs.lookup ("take_back" : Str) = none
  resize : fs.lookup ("resize" : Str) = none
  free : fs.lookup ("free" : Str) = none
  out : fs.lookup ("out" : Str) = none
  owner : fs.lookup ("owner" : Str) = none
theorem noM (c : Int) (l d : Addr) : NoM (yf c l d) :=
  ⟨yf_no _ _ _ (by decide +kernel) (by decide +kernel) (by decide +kernel), yf_no _ _ _ (by decide +kernel) (by decide +kernel) (by decide +kernel), yf_no _ _ _ (by decide +kernel) (by decide +kernel) (by decide +kernel),
    yf_no _ _ _ (by decide +kernel) (by decide +kernel) (by decide +kernel), yf_no _ _ _ (by decide +kernel) (by decide +kernel) (by decide +kernel), yf_no _ _ _ (by decide +kernel) (by decide +kernel) (by decide +kernel)⟩
theorem YardAt.at_ {K : PySem.W.Frag} {H : Hp} {p d : Addr} {c : Int} {L G : List Pc} (y : YardAt K H p d c L G) : ∃ dx fs, H p = some (.ins (He.ga K "Yard") dx fs) ∧ NoM fs ∧ fs.lookup ("cells" : Str) = some (.int c) := by
  obtain ⟨dx, l, xs, h1, _⟩ := y
  exact ⟨dx, _, h1, noM c l d, yf_cells c l d⟩
theorem YardT.at_ {K : PySem.W.Frag} {H : Hp} {p d : Addr} {k : Nat} {t : T k} (y : YardT K H p d t) : ∃ dx fs, H p = some (.ins (He.ga K "Yard") dx fs) ∧ NoM fs ∧ fs.lookup ("cells" : Str) = some (.int (pw k)) := by
  obtain ⟨_, _, G, _, y⟩ := y
  exact y.at_
theorem yardT_new {K : PySem.W.Frag} {H : Hp} {p d : Addr} {k : Nat} (hk : k ≤ 60) (y : YardAt K H p d (pw k) [(0, pw k)] []) : YardT K H p d (.free : T k) := ⟨hk, trivial, [], List.Perm.refl _, y⟩
/-- a read-only raw yard of a tree's -/
theorem YardT.raw {K : PySem.W.Frag} {H : Hp} {p d : Addr} {k : Nat} {t : T k} (y : YardT K H p d t) : ∃ G, G.Perm (outs t 0) ∧ (G.map (·.1)).Nodup ∧ YardAt K H p d (pw k) (frees t 0) G := by
  obtain ⟨_, _, G, hG, y⟩ := y
  exact ⟨G, hG, keys_nd hG, y⟩
theorem isSz_pw {k : Nat} (h : k ≤ 60) : isSz (pw k) = true := isSz_iff.mpr ⟨k, h, rfl⟩
end Yd
namespace Yd
open PySem L2
open PyProof.Rows (envOfC)
/-! ### the text by places -/
def top (i : Nat) : Stmt := PySem.Challenge.pw_buddyyard_k02_sizes.main.body.getD i (.Pass ⟨0, 0, 0, 0⟩)
abbrev s__wall : Stmt := top 0
abbrev s_is_size : Stmt := top 10
theorem sc_is_size : FnScope ["number", "size"] ["number"] (defScope s_is_size) := ⟨rfl, rfl, rfl, by decide +kernel, rfl, by decide +kernel, by decide +kernel⟩
theorem bd_is_size : ∀ (kV doc pm : Value) (an : Option Addr) (cdv ct : Value) (us : List Value), us.length = 1 → bindArgs (PySem.W.fnOf "is_size" "is_size" (defArgs s_is_size) (defBody s_is_size) (defScope s_is_size) .none kV doc pm an cdv ct) ⟨us, []⟩ = pure ((["number"] : List Str).zip us) := fun _ _ _ _ _ _ us hl => match us, hl with | [_], _ => rfl
abbrev s_Yard_init : Stmt := inClass (top 12) 0
theorem sc_Yard_init : FnScope ["self", "cells"] ["self", "cells"] (defScope s_Yard_init) := ⟨rfl, rfl, rfl, by decide +kernel, rfl, by decide +kernel, by decide +kernel⟩
theorem bd_Yard_init : ∀ (kV doc pm : Value) (an : Option Addr) (cdv ct : Value) (us : List Value), us.length = 2 → bindArgs (PySem.W.fnOf "__init__" "Yard.__init__" (defArgs s_Yard_init) (defBody s_Yard_init) (defScope s_Yard_init) .none kV doc pm an cdv ct) ⟨us, []⟩ = pure ((["self", "cells"] : List Str).zip us) := fun _ _ _ _ _ _ us hl => match us, hl with | [_, _], _ => rfl
abbrev s_Yard_free : Stmt := inClass (top 12) 1
theorem sc_Yard_free : FnScope ["self"] ["self"] (defScope s_Yard_free) := ⟨rfl, rfl, rfl, by decide +kernel, rfl, by decide +kernel, by decide +kernel⟩
theorem bd_Yard_free : ∀ (kV doc pm : Value) (an : Option Addr) (cdv ct : Value) (us : List Value), us.length = 1 → bindArgs (PySem.W.fnOf "free" "Yard.free" (defArgs s_Yard_free) (defBody s_Yard_free) (defScope s_Yard_free) .none kV doc pm an cdv ct) ⟨us, []⟩ = pure ((["self"] : List Str).zip us) := fun _ _ _ _ _ _ us hl => match us, hl with | [_], _ => rfl
abbrev s_Yard_out : Stmt := inClass (top 12) 2
theorem sc_Yard_out : FnScope ["self", "at"] ["self"] (defScope s_Yard_out) := ⟨rfl, rfl, rfl, by decide +kernel, rfl, by decide +kernel, by decide +kernel⟩
theorem bd_Yard_out : ∀ (kV doc pm : Value) (an : Option Addr) (cdv ct : Value) (us : List Value), us.length = 1 → bindArgs (PySem.W.fnOf "out" "Yard.out" (defArgs s_Yard_out) (defBody s_Yard_out) (defScope s_Yard_out) .none kV doc pm an cdv ct) ⟨us, []⟩ = pure ((["self"] : List Str).zip us) := fun _ _ _ _ _ _ us hl => match us, hl with | [_], _ => rfl
abbrev s_Yard_owner : Stmt := inClass (top 12) 3
abbrev s_Yard_give : Stmt := inClass (top 12) 4
abbrev s_Yard_take_back : Stmt := inClass (top 12) 5
abbrev s_Yard_resize : Stmt := inClass (top 12) 6
abbrev s__law_whole : Stmt := top 14
theorem sc__law_whole : FnScope ["_law_found"] ["_law_found"] (defScope s__law_whole) := ⟨rfl, rfl, rfl, by decide +kernel, rfl, by decide +kernel, by decide +kernel⟩
theorem bd__law_whole : ∀ (kV doc pm : Value) (an : Option Addr) (cdv ct : Value) (us : List Value), us.length = 1 → bindArgs (PySem.W.fnOf "_law_whole" "_law_whole" (defArgs s__law_whole) (defBody s__law_whole) (defScope s__law_whole) .none kV doc pm an cdv ct) ⟨us, []⟩ = pure ((["_law_found"] : List Str).zip us) := fun _ _ _ _ _ _ us hl => match us, hl with | [_], _ => rfl
abbrev s__law_cell_at : Stmt := top 15
theorem sc__law_cell_at : FnScope ["_law_script", "_law_k"] ["_law_script", "_law_k"] (defScope s__law_cell_at) := ⟨rfl, rfl, rfl, by decide +kernel, rfl, by decide +kernel, by decide +kernel⟩
theorem bd__law_cell_at : ∀ (kV doc pm : Value) (an : Option Addr) (cdv ct : Value) (us : List Value), us.length = 2 → bindArgs (PySem.W.fnOf "_law_cell_at" "_law_cell_at" (defArgs s__law_cell_at) (defBody s__law_cell_at) (defScope s__law_cell_at) .none kV doc pm an cdv ct) ⟨us, []⟩ = pure ((["_law_script", "_law_k"] : List Str).zip us) := fun _ _ _ _ _ _ us hl => match us, hl with | [_, _], _ => rfl
abbrev s__law_doubled : Stmt := top 16
theorem sc__law_doubled : FnScope ["_law_times", "_law_size", "_law_k"] ["_law_times"] (defScope s__law_doubled) := ⟨rfl, rfl, rfl, by decide +kernel, rfl, by decide +kernel, by decide +kernel⟩
theorem bd__law_doubled : ∀ (kV doc pm : Value) (an : Option Addr) (cdv ct : Value) (us : List Value), us.length = 1 → bindArgs (PySem.W.fnOf "_law_doubled" "_law_doubled" (defArgs s__law_doubled) (defBody s__law_doubled) (defScope s__law_doubled) .none kV doc pm an cdv ct) ⟨us, []⟩ = pure ((["_law_times"] : List Str).zip us) := fun _ _ _ _ _ _ us hl => match us, hl with | [_], _ => rfl
abbrev s__law_number : Stmt := top 17
theorem sc__law_number : FnScope ["_law_script", "_law_way", "_law_cell", "_law_more"] ["_law_script"] (defScope s__law_number) := ⟨rfl, rfl, rfl, by decide +kernel, rfl, by decide +kernel, by decide +kernel⟩
theorem bd__law_number : ∀ (kV doc pm : Value) (an : Option Addr) (cdv ct : Value) (us : List Value), us.length = 1 → bindArgs (PySem.W.fnOf "_law_number" "_law_number" (defArgs s__law_number) (defBody s__law_number) (defScope s__law_number) .none kV doc pm an cdv ct) ⟨us, []⟩ = pure ((["_law_script"] : List Str).zip us) := fun _ _ _ _ _ _ us hl => match us, hl with | [_], _ => rfl
abbrev s__law_due : Stmt := top 18
theorem sc__law_due : FnScope ["_law_number_here"] ["_law_number_here"] (defScope s__law_due) := ⟨rfl, rfl, rfl, by decide +kernel, rfl, by decide +kernel, by decide +kernel⟩
theorem bd__law_due : ∀ (kV doc pm : Value) (an : Option Addr) (cdv ct : Value) (us : List Value), us.length = 1 → bindArgs (PySem.W.fnOf "_law_due" "_law_due" (defArgs s__law_due) (defBody s__law_due) (defScope s__law_due) .none kV doc pm an cdv ct) ⟨us, []⟩ = pure ((["_law_number_here"] : List Str).zip us) := fun _ _ _ _ _ _ us hl => match us, hl with | [_], _ => rfl
abbrev s__law_refused : Stmt := top 19
theorem sc__law_refused : FnScope ["_law_number_here"] ["_law_number_here"] (defScope s__law_refused) := ⟨rfl, rfl, rfl, by decide +kernel, rfl, by decide +kernel, by decide +kernel⟩
theorem bd__law_refused : ∀ (kV doc pm : Value) (an : Option Addr) (cdv ct : Value) (us : List Value), us.length = 1 → bindArgs (PySem.W.fnOf "_law_refused" "_law_refused" (defArgs s__law_refused) (defBody s__law_refused) (defScope s__law_refused) .none kV doc pm an cdv ct) ⟨us, []⟩ = pure ((["_law_number_here"] : List Str).zip us) := fun _ _ _ _ _ _ us hl => match us, hl with | [_], _ => rfl
abbrev s__law_refused_by_any : Stmt := top 20
theorem sc__law_refused_by_any : FnScope ["_law_number_here", "e"] ["_law_number_here"] (defScope s__law_refused_by_any) := ⟨rfl, rfl, rfl, by decide +kernel, rfl, by decide +kernel, by decide +kernel⟩
theorem bd__law_refused_by_any : ∀ (kV doc pm : Value) (an : Option Addr) (cdv ct : Value) (us : List Value), us.length = 1 → bindArgs (PySem.W.fnOf "_law_refused_by_any" "_law_refused_by_any" (defArgs s__law_refused_by_any) (defBody s__law_refused_by_any) (defScope s__law_refused_by_any) .none kV doc pm an cdv ct) ⟨us, []⟩ = pure ((["_law_number_here"] : List Str).zip us) := fun _ _ _ _ _ _ us hl => match us, hl with | [_], _ => rfl
abbrev s_law : Stmt := top 21
theorem sc_law : FnScope ["_law_script", "_law_number_here", "_law_due_here", "_law_found", "_law_yard"] ["_law_script"] (defScope s_law) := ⟨rfl, rfl, rfl, by decide +kernel, rfl, by decide +kernel, by decide +kernel⟩
theorem bd_law : ∀ (kV doc pm : Value) (an : Option Addr) (cdv ct : Value) (us : List Value), us.length = 1 → bindArgs (PySem.W.fnOf "law" "law" (defArgs s_law) (defBody s_law) (defScope s_law) .none kV doc pm an cdv ct) ⟨us, []⟩ = pure ((["_law_script"] : List Str).zip us) := fun _ _ _ _ _ _ us hl => match us, hl with | [_], _ => rfl
/-! ### what the top has written -/
structure Txt (K : PySem.W.Frag) (mg : Str → Option Value) : Prop where
  n_ValueError : mg "ValueError" = none
  n_bool : mg "bool" = none
  n_int : mg "int" = none
  n_isinstance : mg "isinstance" = none
  n_len : mg "len" = none
  n_list : mg "list" = none
  n_range : mg "range" = none
  n_sorted : mg "sorted" = none
  g_is_size : mg "is_size" = some (.ref (He.ga K "is_size"))
  m_Yard_free : Meth K (He.ga K "Yard") "free" (He.ma K (He.ga K "Yard") "free")
  m_Yard_out : Meth K (He.ga K "Yard") "out" (He.ma K (He.ga K "Yard") "out")
  g__law_whole : mg "_law_whole" = some (.ref (He.ga K "_law_whole"))
  g__law_cell_at : mg "_law_cell_at" = some (.ref (He.ga K "_law_cell_at"))
  g__law_doubled : mg "_law_doubled" = some (.ref (He.ga K "_law_doubled"))
  g__law_number : mg "_law_number" = some (.ref (He.ga K "_law_number"))
  g__law_due : mg "_law_due" = some (.ref (He.ga K "_law_due"))
  g__law_refused : mg "_law_refused" = some (.ref (He.ga K "_law_refused"))
  g__law_refused_by_any : mg "_law_refused_by_any" = some (.ref (He.ga K "_law_refused_by_any"))
  g_law : mg "law" = some (.ref (He.ga K "law"))
  g_YardError : mg "YardError" = some (.ref (He.ga K "YardError"))
  g_NoYard : mg "NoYard" = some (.ref (He.ga K "NoYard"))
  g_NoWish : mg "NoWish" = some (.ref (He.ga K "NoWish"))
  g_NoRoom : mg "NoRoom" = some (.ref (He.ga K "NoRoom"))
  g_NotOut : mg "NotOut" = some (.ref (He.ga K "NotOut"))
  g_NoNote : mg "NoNote" = some (.ref (He.ga K "NoNote"))
  g_Yard : mg "Yard" = some (.ref (He.ga K "Yard"))
  cl : Cls K (He.ga K "Yard")
  a_cells : NoAttr K (He.ga K "Yard") "cells"
  a_spare : NoAttr K (He.ga K "Yard") "spare"
  a_given : NoAttr K (He.ga K "Yard") "given"
  mkr : Mk K (He.ga K "Yard") (He.ma K (He.ga K "Yard") "__init__")
  x_YardError : PySem.W.excIn K (He.ga K "YardError") He.veBase "ValueError.__new__" = true ∧ PySem.W.keepIn K (.ref (He.ga K "YardError")) = true ∧ PySem.W.subIn K (.ref (He.ga K "YardError")) (.type "BaseException") = some true ∧ PySem.W.typeIn K (.ref (He.ga K "YardError")) = some (.type "type")
  x_NoYard : PySem.W.excIn K (He.ga K "NoYard") He.veBase "ValueError.__new__" = true ∧ PySem.W.keepIn K (.ref (He.ga K "NoYard")) = true ∧ PySem.W.subIn K (.ref (He.ga K "NoYard")) (.type "BaseException") = some true ∧ PySem.W.typeIn K (.ref (He.ga K "NoYard")) = some (.type "type")
  x_NoWish : PySem.W.excIn K (He.ga K "NoWish") He.veBase "ValueError.__new__" = true ∧ PySem.W.keepIn K (.ref (He.ga K "NoWish")) = true ∧ PySem.W.subIn K (.ref (He.ga K "NoWish")) (.type "BaseException") = some true ∧ PySem.W.typeIn K (.ref (He.ga K "NoWish")) = some (.type "type")
  x_NoRoom : PySem.W.excIn K (He.ga K "NoRoom") He.veBase "ValueError.__new__" = true ∧ PySem.W.keepIn K (.ref (He.ga K "NoRoom")) = true ∧ PySem.W.subIn K (.ref (He.ga K "NoRoom")) (.type "BaseException") = some true ∧ PySem.W.typeIn K (.ref (He.ga K "NoRoom")) = some (.type "type")
  x_NotOut : PySem.W.excIn K (He.ga K "NotOut") He.veBase "ValueError.__new__" = true ∧ PySem.W.keepIn K (.ref (He.ga K "NotOut")) = true ∧ PySem.W.subIn K (.ref (He.ga K "NotOut")) (.type "BaseException") = some true ∧ PySem.W.typeIn K (.ref (He.ga K "NotOut")) = some (.type "type")
  x_NoNote : PySem.W.excIn K (He.ga K "NoNote") He.veBase "ValueError.__new__" = true ∧ PySem.W.keepIn K (.ref (He.ga K "NoNote")) = true ∧ PySem.W.subIn K (.ref (He.ga K "NoNote")) (.type "BaseException") = some true ∧ PySem.W.typeIn K (.ref (He.ga K "NoNote")) = some (.type "type")
  e_NoYard_NoYard : PySem.W.exmOne K (.ref (He.ga K "NoYard")) (.ref (He.ga K "NoYard")) = some true
  e_NoWish_NoYard : PySem.W.exmOne K (.ref (He.ga K "NoWish")) (.ref (He.ga K "NoYard")) = some false
  e_NoRoom_NoYard : PySem.W.exmOne K (.ref (He.ga K "NoRoom")) (.ref (He.ga K "NoYard")) = some false
  e_NotOut_NoYard : PySem.W.exmOne K (.ref (He.ga K "NotOut")) (.ref (He.ga K "NoYard")) = some false
  e_NoNote_NoYard : PySem.W.exmOne K (.ref (He.ga K "NoNote")) (.ref (He.ga K "NoYard")) = some false
  e_NoYard_YardError : PySem.W.exmOne K (.ref (He.ga K "NoYard")) (.ref (He.ga K "YardError")) = some true
  e_NoWish_YardError : PySem.W.exmOne K (.ref (He.ga K "NoWish")) (.ref (He.ga K "YardError")) = some true
  e_NoRoom_YardError : PySem.W.exmOne K (.ref (He.ga K "NoRoom")) (.ref (He.ga K "YardError")) = some true
  e_NotOut_YardError : PySem.W.exmOne K (.ref (He.ga K "NotOut")) (.ref (He.ga K "YardError")) = some true
  e_NoNote_YardError : PySem.W.exmOne K (.ref (He.ga K "NoNote")) (.ref (He.ga K "YardError")) = some true
  c_MOST : ∃ t, mg "MOST" = some (.int 1152921504606846976 t)
  F_is_size : ∃ fd, FunD K "is_size" "is_size" (defArgs s_is_size) (defBody s_is_size) (defScope s_is_size) [] [] (He.ga K "is_size") fd
  F_Yard_init : ∃ fd, FunD K "__init__" "Yard.__init__" (defArgs s_Yard_init) (defBody s_Yard_init) (defScope s_Yard_init) [] [] (He.ma K (He.ga K "Yard") "__init__") fd
  F_Yard_free : ∃ fd, FunD K "free" "Yard.free" (defArgs s_Yard_free) (defBody s_Yard_free) (defScope s_Yard_free) [] [] (He.ma K (He.ga K "Yard") "free") fd
  F_Yard_out : ∃ fd, FunD K "out" "Yard.out" (defArgs s_Yard_out) (defBody s_Yard_out) (defScope s_Yard_out) [] [] (He.ma K (He.ga K "Yard") "out") fd
  F__law_whole : ∃ fd, FunD K "_law_whole" "_law_whole" (defArgs s__law_whole) (defBody s__law_whole) (defScope s__law_whole) [] [] (He.ga K "_law_whole") fd
  F__law_cell_at : ∃ fd, FunD K "_law_cell_at" "_law_cell_at" (defArgs s__law_cell_at) (defBody s__law_cell_at) (defScope s__law_cell_at) [] [] (He.ga K "_law_cell_at") fd
  F__law_doubled : ∃ fd, FunD K "_law_doubled" "_law_doubled" (defArgs s__law_doubled) (defBody s__law_doubled) (defScope s__law_doubled) [] [] (He.ga K "_law_doubled") fd
  F__law_number : ∃ fd, FunD K "_law_number" "_law_number" (defArgs s__law_number) (defBody s__law_number) (defScope s__law_number) [] [] (He.ga K "_law_number") fd
  F__law_due : ∃ fd, FunD K "_law_due" "_law_due" (defArgs s__law_due) (defBody s__law_due) (defScope s__law_due) [] [] (He.ga K "_law_due") fd
  F__law_refused : ∃ fd, FunD K "_law_refused" "_law_refused" (defArgs s__law_refused) (defBody s__law_refused) (defScope s__law_refused) [] [] (He.ga K "_law_refused") fd
  F__law_refused_by_any : ∃ fd, FunD K "_law_refused_by_any" "_law_refused_by_any" (defArgs s__law_refused_by_any) (defBody s__law_refused_by_any) (defScope s__law_refused_by_any) [] [] (He.ga K "_law_refused_by_any") fd
  F_law : ∃ fd, FunD K "law" "law" (defArgs s_law) (defBody s_law) (defScope s_law) [] [] (He.ga K "law") fd
  ec_NoYard : ExcC K (He.ga K "NoYard")
  ki_NoYard_ValueError : PySem.W.kitOne K (.ref (He.ga K "NoYard")) (.type "ValueError") = some true
  ki_NoYard_NoNote_NoRoom_NotOut_NoWish : PySem.W.kitAny K (.ref (He.ga K "NoYard")) [.ref (He.ga K "NoNote"), .ref (He.ga K "NoRoom"), .ref (He.ga K "NotOut"), .ref (He.ga K "NoWish")] = some false
  ec_NoWish : ExcC K (He.ga K "NoWish")
  ki_NoWish_ValueError : PySem.W.kitOne K (.ref (He.ga K "NoWish")) (.type "ValueError") = some true
  ki_NoWish_NoNote_NoRoom_NotOut_NoWish : PySem.W.kitAny K (.ref (He.ga K "NoWish")) [.ref (He.ga K "NoNote"), .ref (He.ga K "NoRoom"), .ref (He.ga K "NotOut"), .ref (He.ga K "NoWish")] = some true
  ec_NoRoom : ExcC K (He.ga K "NoRoom")
  ki_NoRoom_ValueError : PySem.W.kitOne K (.ref (He.ga K "NoRoom")) (.type "ValueError") = some true
  ki_NoRoom_NoNote_NoRoom_NotOut_NoWish : PySem.W.kitAny K (.ref (He.ga K "NoRoom")) [.ref (He.ga K "NoNote"), .ref (He.ga K "NoRoom"), .ref (He.ga K "NotOut"), .ref (He.ga K "NoWish")] = some true
  ec_NotOut : ExcC K (He.ga K "NotOut")
  ki_NotOut_ValueError : PySem.W.kitOne K (.ref (He.ga K "NotOut")) (.type "ValueError") = some true
  ki_NotOut_NoNote_NoRoom_NotOut_NoWish : PySem.W.kitAny K (.ref (He.ga K "NotOut")) [.ref (He.ga K "NoNote"), .ref (He.ga K "NoRoom"), .ref (He.ga K "NotOut"), .ref (He.ga K "NoWish")] = some true
  ec_NoNote : ExcC K (He.ga K "NoNote")
  ki_NoNote_ValueError : PySem.W.kitOne K (.ref (He.ga K "NoNote")) (.type "ValueError") = some true
  ki_NoNote_NoNote_NoRoom_NotOut_NoWish : PySem.W.kitAny K (.ref (He.ga K "NoNote")) [.ref (He.ga K "NoNote"), .ref (He.ga K "NoRoom"), .ref (He.ga K "NotOut"), .ref (He.ga K "NoWish")] = some true
section
variable {P : Program} {w : World} {K : PySem.W.Frag} {mg : Str → Option Value} {base : Heap}
def spLaw (K : PySem.W.Frag) : Sp := fun vs H Q _ => ∃ (a : Addr) (ns : List Int), vs = [.ref a] ∧ SqL K H a (ns.map V.int) ∧ ns.length ≤ 63 ∧ ∀ H', Q (.bl true) H'
abbrev lawLevel : Nat := 8
/-! #### is_size -/
/-- is_size(number) -/
def spIsSize : Sp := fun vs H Q _ => ∃ n : Int, vs = [.int n] ∧ Q (.bl (isSz n)) H
theorem ok_is_size (T : Txt K mg) : DefOk P w K mg base 1 "is_size" ["number"] spIsSize := by
  refine mkDef T.F_is_size T.g_is_size bd_is_size sc_is_size (fun vs H Q E h => ?_) (fun cdv A outer s H vs Q E hr h => ?_)
  · obtain ⟨n, rfl, _⟩ := h
    rfl
  · obtain ⟨n, rfl, k⟩ := h
    obtain ⟨t, hM⟩ := T.c_MOST
    refine ⟨_, pss_cons (ps_if (PW.pt (pw_or (pt_cmpR op_lt (pv 0) pe_int (nomark _)) (pw_or1 (pt_cmpR op_gt (pv 0) (pe_glob (v := .int 1152921504606846976) rfl hM ⟨_, rfl⟩) (nomark _))))) (pss_one (ps_ret pe_bl)) pss_nil)
      (pss_cons (ps_set (i := 1) sc_is_size.nd rfl (Or.inl rfl) pe_int)
      (pss_cons (ps_while (passes_of rfl) (pt_cmpR op_lt (pv 1) (pv 0) (nomark _)) (pss_one (ps_set (i := 1) sc_is_size.nd rfl (Or.inl rfl) (pe_op op_mul (pv 1) pe_int))))
      (pss_one (ps_ret (pe_cmpR op_eq (pv 1) (pv 0) (nomark _)))))), ?_⟩
    refine ⟨_, rfl, _, _, rfl, rfl, _, rfl, ?_⟩
    refine ite2 (fun c => ?_) (fun c => ?_)
    · have c' : n < 1 := by simpa using c
      rw [isSz_low c'] at k
      exact iteT k
    · have c1 : ¬ n < 1 := by simpa using c
      refine ⟨_, rfl, _, _, rfl, rfl, _, rfl, ?_⟩
      refine ite2 (fun c => ?_) (fun c => ?_)
      · have c' : 1152921504606846976 < n := by simpa using c
        rw [isSz_high c'] at k
        exact k
      · have c2 : ¬ 1152921504606846976 < n := by simpa using c
        refine while_n (Bud.fe n) (fun i σ H' => H' = H ∧ σ = [some (.int n), some (.int (Bud.pw i))]) ⟨rfl, rfl⟩ ?_
        rintro i σ H' hi ⟨rfl, rfl⟩
        refine ⟨_, rfl, _, rfl, _, _, rfl, rfl, _, rfl, ?_⟩
        refine ite2 (fun c => ?_) (fun c => ?_)
        · have c' : Bud.pw i < n := by simpa using c
          have hlt : i < Bud.fe n := by
            rcases Nat.lt_or_ge i (Bud.fe n) with q | q
            · exact q
            · have := Bud.pw_le q
              have := Bud.fit_ge n
              unfold Bud.fit at this
              omega
          refine ⟨_, wh_step hlt, ?_⟩
          refine ⟨_, rfl, _, _, rfl, rfl, .inr ⟨by decide, by decide⟩, rfl, ?_⟩
          rw [Bud.pw_succ, Int.mul_comm 2]
          rfl
        · have c' : ¬ Bud.pw i < n := by simpa using c
          have e : i = Bud.fe n := by
            have := Bud.fe_le (w := n) (n := i) (by omega)
            omega
          subst e
          refine ⟨_, rfl, _, rfl, rfl, ?_⟩
          have ed : decide (V.int (Bud.pw (Bud.fe n)) = V.int n) = isSz n := by
            rw [← isSz_fit (by omega) (by omega)]
            exact decide_eq_decide.mpr ⟨fun q => V.int.inj q, fun q => congrArg V.int q⟩
          show Q (V.bl (decide (V.int (Bud.pw (Bud.fe n)) = V.int n))) _
          rw [ed]
          exact k
/-! #### Yard.__init__ -/
/-- Yard(cells) -/
def spInit (K : PySem.W.Frag) : Sp := fun vs H Q E => ∃ (p dx : Addr) (n : Int), vs = [.ref p, .int n] ∧ H p = some (.ins (He.ga K "Yard") dx []) ∧
  (isSz n = true → ∀ (H' : Hp) (d : Addr), (∀ b o, H b = some o → b ≠ p → H' b = some o) → H d = none → YardAt K H' p d n [(0, n)] [] → Q .non H') ∧
  (isSz n = false → E (.ref (He.ga K "NoYard")) none H)
theorem ok_init (T : Txt K mg) : MakeOk P w K mg base 2 "Yard" ["self", "cells"] (spInit K) := by
  refine mkMake T.F_Yard_init T.mkr T.g_Yard bd_Yard_init sc_Yard_init (fun vs H Q E h => ?_) (fun cdv A outer s H vs Q E hr h => ?_)
  · obtain ⟨p, dx, n, rfl, _⟩ := h
    rfl
  · obtain ⟨p, dx, n, rfl, hp, k1, k2⟩ := h
    have hr1 : Room 1 _ := hr
    refine ⟨_, pss_cons (ps_if (pt_not (pt_val (pe_cd (ok_is_size T) hr1 (pa_cons (pv 1) pa_nil)))) (pss_one (ps_raise rfl (takes_of rfl rfl rfl rfl) (pmk_own PySem.F.excBase_ValueError T.x_NoYard.1 T.g_NoYard T.x_NoYard.2.1 (raises_own T.x_NoYard.2.2.1 T.x_NoYard.2.2.2) rfl))) pss_nil)
      (pss_cons (ps_fld (pv 0) (pv 1) rfl)
      (pss_cons (ps_fld (pv 0) (pe_lst (pa_cons (pe_tup (pa_cons pe_int (pa_cons (pv 1) pa_nil))) pa_nil)) rfl)
      (pss_one (ps_fld (pv 0) pe_dnewK rfl)))), ?_⟩
    refine ⟨_, rfl, n, rfl, _, rfl, ?_⟩
    cases e : isSz n with
    | false => exact iteT (k2 e)
    | true =>
      refine iteF ?_
      refine ⟨_, rfl, _, rfl, p, _, dx, _, rfl, hp, T.cl, T.a_cells, (by show 0 < 1000; decide), ?_⟩
      refine ⟨_, rfl, (by show 2 ≤ sizeLine; decide), fun t ht => ⟨(by show 1 ≤ sizeLine; decide), fun l hl => ?_⟩⟩
      have npt : p ≠ t := ne_of_none upd_same ht
      have hp1 : ∀ o, (upd (upd H p (.ins (He.ga K "Yard") dx (putF "cells" (.int n) []))) t o) p = some (.ins (He.ga K "Yard") dx (putF "cells" (.int n) [])) := fun o => by rw [upd_ne npt, upd_same]
      have npl : p ≠ l := ne_of_none (hp1 _) hl
      have ntl : t ≠ l := ne_of_none upd_same hl
      have ht0 : H t = none := by rw [upd_ne npt.symm] at ht; exact ht
      have hl0 : H l = none := by rw [upd_ne ntl.symm, upd_ne npl.symm] at hl; exact hl
      refine ⟨_, rfl, p, _, dx, _, rfl, (by rw [upd_ne npl]; exact hp1 _), T.cl, T.a_spare, (by show 1 < 1000; decide), fun d hd => ?_⟩
      have npd : p ≠ d := ne_of_none upd_same hd
      rw [upd_ne npd.symm] at hd
      have nld : l ≠ d := ne_of_none upd_same hd
      rw [upd_ne nld.symm] at hd
      have ntd : t ≠ d := ne_of_none upd_same hd
      rw [upd_ne ntd.symm, upd_ne npd.symm] at hd
      refine ⟨_, rfl, p, _, dx, _, rfl, Eq.trans (upd_ne npd) upd_same, T.cl, T.a_given, (by show 2 < 1000; decide), ?_⟩
      refine k1 e _ d (fun b o hb nb => ?_) hd ⟨dx, l, [.ref t], upd_same, ?_, .cons ⟨t, rfl, ?_⟩ .nil, ?_⟩
      · rw [upd_ne nb, upd_ne (ne_of_none hb hd), upd_ne nb, upd_ne (ne_of_none hb hl0), upd_ne (ne_of_none hb ht0), upd_ne nb]
        exact hb
      · rw [upd_ne npl.symm, upd_ne nld, upd_ne npl.symm, upd_same]
      · rw [upd_ne npt.symm, upd_ne ntd, upd_ne npt.symm, upd_ne ntl, upd_same]
      · rw [upd_ne npd.symm, upd_same]
        rfl
/-! #### Yard.free -/
/-- the free pieces: a new list -/
def spFree (K : PySem.W.Frag) : Sp := fun vs H Q _ => ∃ (p d : Addr) (c : Int) (L G : List Bud.Pc), vs = [.ref p] ∧ YardAt K H p d c L G ∧
  ∀ (H' : Hp) (q : Addr) (xs : List V), Same H H' → H q = none → H' q = some (.lst xs) → Prs H' xs L → Q (.ref q) H'
theorem ok_free (T : Txt K mg) : MethOk P w K mg base 1 "Yard" "free" ["self"] (spFree K) := by
  refine mkMeth T.F_Yard_free T.cl T.m_Yard_free bd_Yard_free sc_Yard_free (fun vs H Q E h => ?_) (fun cdv A outer s H vs Q E hr h => ?_)
  · obtain ⟨p, d, c, L, G, rfl, _⟩ := h
    rfl
  · obtain ⟨p, d, c, L, G, rfl, ⟨dx, l, xs, h1, h2, h3, h4⟩, k⟩ := h
    refine ⟨_, pss_one (ps_ret (pe_callTy call_list_of (by rfl) T.n_list (by decide +kernel) (pa_cons (pe_fld (pv 0) rfl) pa_nil))), ?_⟩
    refine ⟨_, rfl, p, _, dx, _, _, rfl, h1, T.cl, T.a_spare, yf_spare _ _ _, l, _, rfl, .inl (SqL.of h2), fun q hq => ?_⟩
    exact k _ q xs (same_new hq) hq upd_same (h3.kept (tups_upd hq))
/-! #### Yard.out -/
/-- the pieces that are out, rising: a new list -/
def spOut (K : PySem.W.Frag) : Sp := fun vs H Q _ => ∃ (p d : Addr) (c : Int) (L G : List Bud.Pc), vs = [.ref p] ∧ YardAt K H p d c L G ∧ (G.map (·.1)).Nodup ∧ G.length ≤ 1000000 ∧
  ∀ (H' : Hp) (q : Addr) (xs : List V) (O : List Bud.Pc), Same H H' → H q = none → H' q = some (.lst xs) → Prs H' xs O → O.Perm G → Bud.Srt O → Q (.ref q) H'
/-- the pieces at the places ks -/
def atKeys (G : List Bud.Pc) (ks : List Int) : List Bud.Pc := ks.map fun a => (a, ((G.find? fun p => decide (p.1 = a)).map (·.2)).getD 0)
theorem find_key {G : List Bud.Pc} (nd : (G.map (·.1)).Nodup) {p : Bud.Pc} (hp : p ∈ G) : ((G.find? fun q => decide (q.1 = p.1)).map (·.2)).getD 0 = p.2 := by
  induction G with
  | nil => cases hp
  | cons q G ih =>
    have ⟨n1, n2⟩ := List.nodup_cons.mp nd
    rcases List.mem_cons.mp hp with rfl | hp
    · rw [List.find?_cons_of_pos (by simp)]
      rfl
    · have hne : ¬ q.1 = p.1 := fun e => n1 (by
        show q.1 ∈ G.map (·.1)
        rw [e]
        exact List.mem_map.mpr ⟨_, hp, rfl⟩)
      rw [List.find?_cons_of_neg (by simpa using hne)]
      exact ih n2 hp
theorem atKeys_self {G : List Bud.Pc} (nd : (G.map (·.1)).Nodup) : atKeys G (G.map (·.1)) = G := by
  unfold atKeys
  rw [List.map_map]
  refine (List.map_congr_left fun p hp => ?_).trans (List.map_id _)
  show (p.1, _) = p
  rw [find_key nd hp]
theorem atKeys_srt (G : List Bud.Pc) {ks : List Int} (h : ks.Pairwise (· ≤ ·)) (nd : ks.Nodup) : Bud.Srt (atKeys G ks) := by
  refine List.pairwise_map.mpr ?_
  have h2 := List.Pairwise.and h nd
  refine h2.imp fun {a b} q => ?_
  unfold Bud.lexle
  have := q.1
  have := q.2
  show a < b ∨ _
  left
  omega
theorem ok_out (T : Txt K mg) : MethOk P w K mg base 1 "Yard" "out" ["self"] (spOut K) := by
  refine mkMeth T.F_Yard_out T.cl T.m_Yard_out bd_Yard_out sc_Yard_out (fun vs H Q E h => ?_) (fun cdv A outer s H vs Q E hr h => ?_)
  · obtain ⟨p, d, c, L, G, rfl, _⟩ := h
    rfl
  · obtain ⟨p, d, c, L, G, rfl, ⟨dx, l, xs, h1, h2, h3, h4⟩, nd, hlen, k⟩ := h
    have nN := sc_Yard_out.nd
    refine ⟨_, pss_one (ps_ret (pe_lc (own := [("at", 1)]) (g := gName 1) (tt := tYes) (by rfl) nN (pi_list (pe_callB (cr_sortD rfl) (by rfl) T.n_sorted (by decide +kernel) (pa_cons (pe_fld (pv 0) rfl) pa_nil))) (blkOk_by (own := [("at", 1)]) (N := ["self", "at"]) (sc := defScope s_Yard_out) (by decide +kernel)) (fun _ _ _ _ _ => pg_name (i := 1) nN rfl (Or.inl rfl))
      (fun _ _ _ _ _ => pts_nil) (fun _ _ _ _ _ => pe_tup (pa_cons (pv 1) (pa_cons (pe_dget (by exact hu_of hr) (show PE _ _ (tFld K (tVar 0) "given") from pe_fld (pv 0) rfl) (pv 1) (fun _ _ => rfl)) pa_nil))))), ?_⟩
    refine ⟨_, rfl, p, _, dx, _, _, rfl, h1, T.cl, T.a_given, yf_given _ _ _, d, _, G.map (·.1), rfl, .inl h4, gk_keys G, fun ks r hperm hle hr0 => ?_⟩
    have ndk : ks.Nodup := hperm.nodup_iff.mpr nd
    have s0 : Same H (upd H r (.lst (ks.map V.int))) := same_new hr0
    refine ⟨r, rfl, ⟨_, SqL.of upd_same⟩, fun D hD => ?_⟩
    have nrD : r ≠ D := ne_of_none upd_same hD
    have hD0 : H D = none := by rw [upd_ne nrD.symm] at hD; exact hD
    refine lc_list (K := K) (a := r) (xs := ks.map V.int) (fun i H' => Same H H' ∧ H' r = some (.lst (ks.map V.int)) ∧ ∃ ys, H' D = some (.lst ys) ∧ Prs H' ys (atKeys G (ks.take i)))
      ⟨fun b o e => by rw [upd_ne (ne_of_none e hD0)]; exact s0 b o e, by rw [upd_ne nrD, upd_same], [], upd_same, .nil⟩ (fun i H' _ h => SqL.of h.2.1) ?_ ?_
    · rintro i y H' hi ⟨s1, hr1, ys, hDl, hys⟩
      rw [List.getElem?_map] at hi
      obtain ⟨a, ha, rfl⟩ : ∃ a, ks[i]? = some a ∧ y = V.int a := by
        cases e : ks[i]? with
        | none => rw [e] at hi; cases hi
        | some a => rw [e] at hi; exact ⟨a, rfl, (Option.some.inj hi).symm⟩
      have hmem : a ∈ G.map (·.1) := hperm.mem_iff.mp (List.mem_of_getElem? ha)
      obtain ⟨g, hg, eg⟩ := List.mem_map.mp hmem
      subst eg
      have hv : valV (gk G) (Sum.inl g.1 : Key) = some (.int g.2) := gk_val nd hg
      refine ⟨rfl, ?_⟩
      refine ⟨_, rfl, _, rfl, p, _, dx, _, _, rfl, s1 _ _ h1, T.cl, T.a_given, yf_given _ _ _, _, rfl, d, .int g.2, rfl, ?_, (by show 2 ≤ sizeLine; decide), fun t ht => ?_⟩
      · rw [← hv]
        exact DGet.k (k := Sum.inl g.1) (s1 _ _ h4)
      have nDt : D ≠ t := ne_of_none hDl ht
      have hlt : ys.length < sizeLine := by
        have e1 := hys.length
        have e2 : (atKeys G (ks.take i)).length ≤ G.length := by
          unfold atKeys
          rw [List.length_map, List.length_take]
          have := hperm.length_eq
          rw [List.length_map] at this
          omega
        rw [sizeLine_eq]
        omega
      refine ⟨ys, by rw [upd_ne nDt]; exact hDl, hlt, fun b o e => ?_, ?_, _, upd_same, ?_⟩
      · rw [upd_ne (ne_of_none e hD0), upd_ne (ne_of_none (s1 _ _ e) ht)]
        exact s1 _ _ e
      · rw [upd_ne nrD, upd_ne (ne_of_none hr1 ht)]
        exact hr1
      · have e3 : atKeys G (ks.take (i + 1)) = atKeys G (ks.take i) ++ [(g.1, g.2)] := by
          unfold atKeys
          rw [List.take_add_one, ha, List.map_append]
          show _ ++ [(g.1, _)] = _
          rw [find_key nd hg]
        rw [e3]
        refine Prs.append ((hys.kept (tups_upd ht)).kept (tups_put (by rw [upd_ne nDt]; exact hDl) (fun xs z => by cases z))) (.cons ⟨t, rfl, ?_⟩ .nil)
        rw [upd_ne nDt.symm, upd_same]
    · rintro H' ⟨s1, hr1, ys, hDl, hys⟩
      rw [List.length_map, List.take_length] at hys
      refine k H' D ys _ s1 hD0 hDl hys ?_ (atKeys_srt G hle ndk)
      have e4 : (atKeys G ks).Perm (atKeys G (G.map (·.1))) := hperm.map _
      rw [atKeys_self nd] at e4
      exact e4
/-! #### _law_whole -/
/-- whether it is a whole number -/
def spWhole : Sp := fun vs H Q _ => ∃ i : Int, vs = [.int i] ∧ Q (.bl true) H
theorem ok_whole (T : Txt K mg) : DefOk P w K mg base 1 "_law_whole" ["_law_found"] spWhole := by
  refine mkDef T.F__law_whole T.g__law_whole bd__law_whole sc__law_whole (fun vs H Q E h => ?_) (fun cdv A outer s H vs Q E hr h => ?_)
  · obtain ⟨i, rfl, _⟩ := h
    rfl
  · obtain ⟨i, rfl, k⟩ := h
    refine ⟨_, pss_one (ps_ret (pe_and (pe_callB call_isi (by rfl) T.n_isinstance (by decide +kernel) (pa_cons (pv 0) (pa_cons (pe_bltn (v := .ty "int") (u := .type "int") (by rfl) T.n_int (by decide +kernel) rfl) pa_nil)))
      (pe_one (pe_not (pe_callB call_isi (by rfl) T.n_isinstance (by decide +kernel) (pa_cons (pv 0) (pa_cons (pe_bltn (v := .ty "bool") (u := .type "bool") (by rfl) T.n_bool (by decide +kernel) rfl) pa_nil))))))), ?_⟩
    refine ⟨_, rfl, _, _, _, _, true, rfl, .ty "int", .base (.int i), kit_ty (by decide +kernel), _, rfl, iteT ?_⟩
    exact ⟨_, rfl, _, _, _, _, false, rfl, .ty "bool", .base (.int i), kit_ty (by decide +kernel), _, rfl, k⟩
/-! #### _law_cell_at -/
def cell (ns : List Int) (k : Nat) : Int := ns.getD k 0
/-- a cell of the script, nought behind its end -/
def spCell (K : PySem.W.Frag) : Sp := fun vs H Q _ => ∃ (a : Addr) (ns : List Int) (j : Nat), vs = [.ref a, .int j] ∧ SqL K H a (ns.map V.int) ∧ Q (.int (cell ns j)) H
theorem ok_cell (T : Txt K mg) : DefOk P w K mg base 1 "_law_cell_at" ["_law_script", "_law_k"] (spCell K) := by
  refine mkDef T.F__law_cell_at T.g__law_cell_at bd__law_cell_at sc__law_cell_at (fun vs H Q E h => ?_) (fun cdv A outer s H vs Q E hr h => ?_)
  · obtain ⟨a, ns, j, rfl, _⟩ := h
    rfl
  · obtain ⟨a, ns, j, rfl, hS, k⟩ := h
    refine ⟨_, pss_cons (ps_if (pt_cmpR op_lt (pv 1) (pe_callB call_len_seq (by rfl) T.n_len PySem.boot_len (pa_cons (pv 0) pa_nil)) (nomark _)) (pss_one (ps_ret (pe_ix ix_list (pv 0) (pv 1) (fun _ _ => rfl)))) pss_nil)
      (pss_one (ps_ret pe_int)), ?_⟩
    refine ⟨_, rfl, _, rfl, a, _, rfl, .inl hS, _, _, rfl, rfl, _, rfl, ?_⟩
    rw [List.length_map]
    refine ite2 (fun c => ?_) (fun c => ?_)
    · have c' : j < ns.length := by simpa using c
      refine ⟨_, rfl, _, rfl, a, _, _, _, rfl, rfl, hS, atI_nat (by rw [List.getElem?_map, List.getElem?_eq_getElem c']; rfl), ?_⟩
      have e : cell ns j = ns[j] := by unfold cell; rw [List.getD_eq_getElem?_getD, List.getElem?_eq_getElem c']; rfl
      rw [← e]
      exact k
    · have c' : ns.length ≤ j := by
        have : ¬ j < ns.length := by simpa using c
        omega
      have e : cell ns j = 0 := by unfold cell; rw [List.getD_eq_getElem?_getD, List.getElem?_eq_none c']; rfl
      rw [e] at k
      exact k
/-! #### _law_doubled -/
/-- 2 ** times -/
def spDoubled : Sp := fun vs H Q _ => ∃ n : Nat, vs = [.int n] ∧ n < 1000 ∧ Q (.int (Bud.pw n)) H
theorem ok_doubled (T : Txt K mg) : DefOk P w K mg base 1 "_law_doubled" ["_law_times"] spDoubled := by
  refine mkDef T.F__law_doubled T.g__law_doubled bd__law_doubled sc__law_doubled (fun vs H Q E h => ?_) (fun cdv A outer s H vs Q E hr h => ?_)
  · obtain ⟨n, rfl, _⟩ := h
    rfl
  · obtain ⟨n, rfl, hn, k⟩ := h
    refine ⟨_, pss_cons (ps_set (i := 1) sc__law_doubled.nd rfl (Or.inl rfl) pe_int)
      (pss_cons (ps_for (passes_of rfl) rfl (pi_range1 rfl T.n_range (pa_cons (pv 0) pa_nil)) (pg_name (i := 2) sc__law_doubled.nd rfl (Or.inl rfl)) (pss_one (ps_set (i := 1) sc__law_doubled.nd rfl (Or.inl rfl) (pe_op op_mul (pv 1) pe_int))))
      (pss_one (ps_ret (pv 1)))), ?_⟩
    refine ⟨_, rfl, _, rfl, by omega, by omega, ?_⟩
    rw [show ((n : Int)).toNat = n from rfl]
    refine for_range (n := n) (fun i σ H' => H' = H ∧ ∃ v, σ = [some (.int n), some (.int (Bud.pw i)), v]) ⟨rfl, none, rfl⟩ ?_ ?_
    · rintro i σ H' hi ⟨rfl, v, rfl⟩
      refine ⟨_, rfl, _, _, rfl, rfl, .inr ⟨by decide, by decide⟩, ?_⟩
      refine ⟨rfl, some (.int (0 + (i : Int))), ?_⟩
      rw [Bud.pw_succ, Int.mul_comm 2]
      rfl
    · rintro σ H' ⟨rfl, v, rfl⟩
      exact ⟨_, rfl, k⟩
/-! #### _law_number -/
theorem at_int {L : List Int} {i : Int} (h0 : 0 ≤ i) (h1 : i < L.length) : ∃ z, atI (L.map V.int) i = some (.int z) := by
  obtain ⟨j, rfl⟩ : ∃ j : Nat, i = j := ⟨i.toNat, by omega⟩
  have hj : j < L.length := by omega
  exact ⟨L[j], atI_nat (by rw [List.getElem?_map, List.getElem?_eq_getElem hj]; rfl)⟩
/-- some number -/
def spNumber (K : PySem.W.Frag) : Sp := fun vs H Q _ => ∃ (a : Addr) (ns : List Int), vs = [.ref a] ∧ SqL K H a (ns.map V.int) ∧ ∀ (n : Int) H', Same H H' → Q (.int n) H'
theorem ok_number (T : Txt K mg) : DefOk P w K mg base 2 "_law_number" ["_law_script"] (spNumber K) := by
  refine mkDef T.F__law_number T.g__law_number bd__law_number sc__law_number (fun vs H Q E h => ?_) (fun cdv A outer s H vs Q E hr h => ?_)
  · obtain ⟨a, ns, rfl, _⟩ := h
    rfl
  · obtain ⟨a, ns, rfl, hS, k⟩ := h
    have nd := sc__law_number.nd
    have hr1 : Room 1 _ := hr
    refine ⟨_, (pss_cons (ps_set (i := 1) nd rfl (Or.inl rfl) (pe_op op_mod (pe_cd (ok_cell T) hr1 (pa_cons (pv 0) (pa_cons pe_int pa_nil))) pe_int))
      (pss_cons (ps_set (i := 2) nd rfl (Or.inl rfl) (pe_cd (ok_cell T) hr1 (pa_cons (pv 0) (pa_cons pe_int pa_nil))))
      (pss_cons (ps_if (pt_cmpR op_eq (pv 1) pe_int (nomark _)) (pss_one (ps_ret (pe_op op_mod (pv 2) (pe_op op_pow pe_int pe_int)))) pss_nil)
      (pss_cons (ps_if (pt_cmpR op_eq (pv 1) pe_int (nomark _)) (pss_one (ps_ret (pe_op op_sub (pe_un un_neg pe_int) (pe_op op_mod (pv 2) (pe_op op_pow pe_int pe_int))))) pss_nil)
      (pss_cons (ps_if (pt_cmpR op_eq (pv 1) pe_int (nomark _)) (pss_one (ps_ret (pe_ix ix_list (pe_lst (pa_cons pe_int (pa_cons pe_int (pa_cons pe_int (pa_cons pe_int (pa_cons (pe_op op_mod (pe_op op_fdiv (pv 2) pe_int) pe_int) pa_nil)))))) (pe_op op_mod (pv 2) pe_int) (fun _ _ => rfl)))) pss_nil)
      (pss_cons (ps_set (i := 3) nd rfl (Or.inl rfl) (pe_ix ix_list (pe_lst (pa_cons pe_int (pa_cons pe_int (pa_cons pe_int (pa_cons pe_int (pa_cons (pe_un un_neg pe_int) (pa_cons pe_int (pa_cons (pe_un un_neg pe_int) pa_nil)))))))) (pe_op op_mod (pe_cd (ok_cell T) hr1 (pa_cons (pv 0) (pa_cons pe_int pa_nil))) pe_int) (fun _ _ => rfl)))
      (pss_cons (ps_if (pt_cmpR op_eq (pv 1) pe_int (nomark _)) (pss_one (ps_ret (pe_op op_add (pe_cd (ok_doubled T) hr1 (pa_cons (pe_op op_add pe_int (pe_op op_mod (pv 2) pe_int)) pa_nil)) (pv 3)))) pss_nil)
      (pss_one (ps_ret (pe_op op_add (pe_cd (ok_doubled T) hr1 (pa_cons (pe_op op_mod (pv 2) pe_int) pa_nil)) (pv 3))))))))))), ?_⟩
    refine ⟨_, rfl, a, ns, 0, rfl, hS, _, _, rfl, rfl, (by show (0 : Int) < 5; decide), ?_⟩
    refine ⟨_, rfl, a, ns, 1, rfl, hS, ?_⟩
    refine ⟨_, rfl, rfl, _, rfl, ?_⟩
    refine ite2 (fun _ => ?_) (fun _ => ?_)
    · exact ⟨_, rfl, _, _, rfl, rfl, ⟨by decide, by decide, by decide⟩, _, _, rfl, rfl, (by show (0 : Int) < 10 ^ 30; decide), k _ _ (Same.refl _)⟩
    refine ⟨_, rfl, rfl, _, rfl, ?_⟩
    refine ite2 (fun _ => ?_) (fun _ => ?_)
    · exact ⟨_, rfl, _, rfl, _, _, rfl, rfl, ⟨by decide, by decide, by decide⟩, _, _, rfl, rfl, (by show (0 : Int) < 10 ^ 30; decide), _, _, rfl, rfl, k _ _ (Same.refl _)⟩
    refine ⟨_, rfl, rfl, _, rfl, ?_⟩
    refine ite2 (fun _ => ?_) (fun _ => ?_)
    · refine ⟨_, rfl, _, _, rfl, rfl, ⟨by decide, by decide⟩, _, _, rfl, rfl, (by show (0 : Int) < 71; decide), (by show 5 ≤ sizeLine; decide), fun l hl => ?_⟩
      obtain ⟨z, hz⟩ := at_int (L := [0, 1, 2, 3, cell ns 1 / 5 % 71]) (i := cell ns 1 % 5) (by omega) (by show cell ns 1 % 5 < 5; omega)
      exact ⟨_, rfl, _, _, rfl, rfl, (by show (0 : Int) < 5; decide), l, _, _, _, rfl, rfl, SqL.of upd_same, hz, k _ _ (same_new hl)⟩
    refine ⟨_, rfl, _, rfl, (by show 7 ≤ sizeLine; decide), fun l hl => ?_⟩
    obtain ⟨z, hz⟩ := at_int (L := [0, 0, 0, 1, -1, 2, -2]) (i := cell ns 2 % 7) (by omega) (by show cell ns 2 % 7 < 7; omega)
    refine ⟨_, rfl, a, ns, 2, rfl, (same_new hl).seq hS, _, _, rfl, rfl, (by show (0 : Int) < 7; decide), l, _, _, _, rfl, rfl, SqL.of upd_same, hz, ?_⟩
    refine ⟨_, rfl, rfl, _, rfl, ?_⟩
    refine ite2 (fun _ => ?_) (fun _ => ?_)
    · obtain ⟨n, en, hn⟩ : ∃ n : Nat, 58 + cell ns 1 % 5 = (n : Int) ∧ n < 1000 := ⟨(58 + cell ns 1 % 5).toNat, by omega, by omega⟩
      exact ⟨_, rfl, _, _, rfl, rfl, (by show (0 : Int) < 5; decide), _, _, rfl, rfl, n, by rw [← en] <;> rfl, hn, _, rfl, _, _, rfl, rfl, k _ _ (same_new hl)⟩
    · obtain ⟨n, en, hn⟩ : ∃ n : Nat, cell ns 1 % 63 = (n : Int) ∧ n < 1000 := ⟨(cell ns 1 % 63).toNat, by omega, by omega⟩
      exact ⟨_, rfl, _, _, rfl, rfl, (by show (0 : Int) < 63; decide), n, by rw [← en] <;> rfl, hn, _, rfl, _, _, rfl, rfl, k _ _ (same_new hl)⟩
/-! #### _law_due -/
theorem pw_odd {m : Int} {i k : Nat} (h : m * Bud.pw i = Bud.pw k) (hm : 1 ≤ m) (ho : m % 2 ≠ 0) : m = 1 := by
  have hi : i ≤ k := by
    rcases Nat.lt_or_ge k i with q | q
    · have h1 := Bud.pw_lt q
      have h2 : 1 * Bud.pw i ≤ m * Bud.pw i := Int.mul_le_mul_of_nonneg_right hm (Int.le_of_lt (Bud.pw_pos i))
      omega
    · exact q
  obtain ⟨d, rfl⟩ := Nat.exists_eq_add_of_le hi
  rw [Bud.pw_add, Int.mul_comm (Bud.pw i)] at h
  have e : m = Bud.pw d := Int.eq_of_mul_eq_mul_right (Int.ne_of_gt (Bud.pw_pos i)) h
  cases d with
  | zero => exact e
  | succ d =>
    rw [e, Bud.pw_succ] at ho
    omega
/-- whether it is a size -/
def spDue : Sp := fun vs H Q _ => ∃ n : Int, vs = [.int n] ∧ Q (.bl (isSz n)) H
theorem ok_due (T : Txt K mg) : DefOk P w K mg base 1 "_law_due" ["_law_number_here"] spDue := by
  refine mkDef T.F__law_due T.g__law_due bd__law_due sc__law_due (fun vs H Q E h => ?_) (fun cdv A outer s H vs Q E hr h => ?_)
  · obtain ⟨n, rfl, _⟩ := h
    rfl
  · obtain ⟨n, rfl, k⟩ := h
    have e60 : (2 : Int) ^ (60 : Int).toNat = 1152921504606846976 := by decide
    refine ⟨_, pss_cons (ps_if (PW.pt (pw_or (pt_cmpR op_lt (pv 0) pe_int (nomark _)) (pw_or1 (pt_cmpR op_gt (pv 0) (pe_op op_pow pe_int pe_int) (nomark _))))) (pss_one (ps_ret pe_bl)) pss_nil)
      (pss_cons (ps_while (passes_of rfl) (pt_cmpR op_eq (pe_op op_mod (pv 0) pe_int) pe_int (nomark _)) (pss_one (ps_set (i := 0) sc__law_due.nd rfl (Or.inl rfl) (pe_op op_fdiv (pv 0) pe_int))))
      (pss_one (ps_ret (pe_cmpR op_eq (pv 0) pe_int (nomark _))))), ?_⟩
    refine ⟨_, rfl, _, _, rfl, rfl, _, rfl, ?_⟩
    refine ite2 (fun c => ?_) (fun c => ?_)
    · have c' : n < 1 := by simpa using c
      rw [isSz_low c'] at k
      exact iteT k
    have c1 : ¬ n < 1 := by simpa using c
    refine ⟨_, rfl, _, _, rfl, rfl, ⟨by decide, by decide, by decide⟩, _, _, rfl, rfl, _, rfl, ?_⟩
    refine ite2 (fun c => ?_) (fun c => ?_)
    · have c' : (2 : Int) ^ (60 : Int).toNat < n := by simpa using c
      rw [e60] at c'
      rw [isSz_high c'] at k
      exact k
    have c2 : ¬ (2 : Int) ^ (60 : Int).toNat < n := by simpa using c
    rw [e60] at c2
    refine while_n n.toNat (fun i σ H' => H' = H ∧ ∃ m : Int, σ = [some (.int m)] ∧ 1 ≤ m ∧ m * Bud.pw i = n) ⟨rfl, n, rfl, by omega, Int.mul_one n⟩ ?_
    rintro i σ H' hi ⟨rfl, m, rfl, hm, em⟩
    refine ⟨_, rfl, _, _, rfl, rfl, (by show (0 : Int) < 2; decide), rfl, _, rfl, ?_⟩
    refine ite2 (fun c => ?_) (fun c => ?_)
    · have c' : m % 2 = 0 := by simpa using c
      have hlt : i < n.toNat := by
        have h1 := Bud.pw_ge i
        have h2 : 1 * Bud.pw i ≤ m * Bud.pw i := Int.mul_le_mul_of_nonneg_right hm (Int.le_of_lt (Bud.pw_pos i))
        omega
      refine ⟨_, wh_step hlt, ?_⟩
      refine ⟨_, rfl, _, _, rfl, rfl, ⟨by decide, by decide⟩, rfl, m / 2, rfl, by omega, ?_⟩
      have e2 : m = 2 * (m / 2) := by omega
      rw [Bud.pw_succ, ← Int.mul_assoc, Int.mul_comm (m / 2) 2, ← e2]
      exact em
    · have c' : ¬ m % 2 = 0 := by simpa using c
      refine ⟨_, rfl, rfl, ?_⟩
      have ed : decide (V.int m = V.int 1) = isSz n := by
        cases e : isSz n with
        | true =>
          obtain ⟨j, hj, ej⟩ := isSz_iff.mp e
          rw [ej] at em
          rw [pw_odd em hm c']
          exact decide_eq_true rfl
        | false =>
          refine decide_eq_false fun q => ?_
          have e1 : m = 1 := V.int.inj q
          rw [e1, Int.one_mul] at em
          have : isSz n = true := isSz_iff.mpr ⟨i, by
            rw [← em] at c2
            refine Bud.pw_le_iff.mp ?_
            rw [pw60]
            omega, em.symm⟩
          rw [e] at this
          cases this
      show Q (V.bl (decide (V.int m = V.int 1))) _
      rw [ed]
      exact k
/-! #### _law_refused -/
def spRefused : Sp := fun vs H Q _ => ∃ n : Int, vs = [.int n] ∧ ∀ H', Same H H' → Q (.bl (!isSz n)) H'
theorem ok_refused (T : Txt K mg) : DefOk P w K mg base 4 "_law_refused" ["_law_number_here"] spRefused := by
  refine mkDef T.F__law_refused T.g__law_refused bd__law_refused sc__law_refused (fun vs H Q E h => ?_) (fun cdv A outer s H vs Q E hr h => ?_)
  · obtain ⟨n, rfl, _⟩ := h
    rfl
  · obtain ⟨n, rfl, k⟩ := h
    have hr3 : Room 3 _ := hr
    refine ⟨_, pss_cons (ps_try_only rfl rfl ⟨rfl, by decide, .inl T.g_NoYard⟩ (takes_of rfl rfl rfl rfl)
        (fun W pn xe tk hp => pss_one (ps_expr (by exact (pe_mk (E := WE W) (ok_init T) hr3 (fun σ => passAt tk σ) (pa_cons (pv 0) pa_nil)))))
        (fun a oe cls d pn hz hf => pss_one (ps_ret pe_bl)))
      (pss_one (ps_ret pe_bl)), ?_⟩
    refine ⟨_, rfl, fun x dx nx ndx nex => ?_⟩
    have s0 : Same H (upd (upd H dx (.own x)) x (.ins (He.ga K "Yard") dx [])) := fun b o e => by
      rw [upd_ne (ne_of_none e nx), upd_ne (ne_of_none e ndx)]
      exact e
    refine ⟨x, dx, n, rfl, upd_same, fun e H2 d hk2 nd2 y2 => ⟨rfl, ?_⟩, fun e => ?_⟩
    · rw [e] at k
      exact k _ (Same.made nx ndx hk2)
    · rw [e] at k
      exact ⟨true, T.e_NoYard_NoYard, fun _ a _ => k _ s0, fun q => Bool.noConfusion q⟩
/-! #### _law_refused_by_any -/
theorem ok_refused_any (T : Txt K mg) : DefOk P w K mg base 4 "_law_refused_by_any" ["_law_number_here"] spRefused := by
  refine mkDef T.F__law_refused_by_any T.g__law_refused_by_any bd__law_refused_by_any sc__law_refused_by_any (fun vs H Q E h => ?_) (fun cdv A outer s H vs Q E hr h => ?_)
  · obtain ⟨n, rfl, _⟩ := h
    rfl
  · obtain ⟨n, rfl, k⟩ := h
    have hr3 : Room 3 _ := hr
    refine ⟨_, pss_cons (ps_try_as (i := 1) rfl rfl sc__law_refused_by_any.nd rfl rfl ⟨rfl, by decide, .inl T.g_YardError⟩ (takes_of rfl rfl rfl rfl)
        (fun W pn xe tk hp => pss_one (ps_expr (by exact (pe_mk (E := WE W) (ok_init T) hr3 (fun σ => passAt tk σ) (pa_cons (pv 0) pa_nil)))))
        (fun a oe cls d pn hz hf => pss_one (ps_ret (by exact (pe_and (pe_callB (call_isEv hz hf) (by rfl) T.n_isinstance (by decide +kernel) (pa_cons (pv 1) (pa_cons (pe_bltn (v := .ty "ValueError") (u := .type "ValueError") (by rfl) T.n_ValueError (by decide +kernel) rfl) pa_nil)))
          (pe_one (pe_not (pe_callB (call_isETv hz hf) (by rfl) T.n_isinstance (by decide +kernel) (pa_cons (pv 1) (pa_cons (pe_tup (pa_cons (pe_glob (v := .ref (He.ga K "NoNote")) rfl T.g_NoNote rfl) (pa_cons (pe_glob (v := .ref (He.ga K "NoRoom")) rfl T.g_NoRoom rfl) (pa_cons (pe_glob (v := .ref (He.ga K "NotOut")) rfl T.g_NotOut rfl) (pa_cons (pe_glob (v := .ref (He.ga K "NoWish")) rfl T.g_NoWish rfl) pa_nil))))) pa_nil))))))))))
      (pss_one (ps_ret pe_bl)), ?_⟩
    refine ⟨_, rfl, fun x dx nx ndx nex => ?_⟩
    have s0 : Same H (upd (upd H dx (.own x)) x (.ins (He.ga K "Yard") dx [])) := fun b o e => by
      rw [upd_ne (ne_of_none e nx), upd_ne (ne_of_none e ndx)]
      exact e
    refine ⟨x, dx, n, rfl, upd_same, fun e H2 d hk2 nd2 y2 => ⟨rfl, ?_⟩, fun e => ?_⟩
    · rw [e] at k
      exact k _ (Same.made nx ndx hk2)
    · rw [e] at k
      refine ⟨true, T.e_NoYard_YardError, fun _ a _ => ?_, fun q => Bool.noConfusion q⟩
      refine ⟨_, rfl, _, _, _, true, rfl, rfl, T.ec_NoYard, rfl, .ty _, T.ki_NoYard_ValueError, _, rfl, iteT ?_⟩
      refine ⟨_, rfl, (by show 4 ≤ sizeLine; decide), fun p hp => ?_⟩
      exact ⟨_, p, _, _, false, rfl, rfl, T.ec_NoYard, rfl, upd_same, .cons (.own _) (.cons (.own _) (.cons (.own _) (.cons (.own _) .nil))), T.ki_NoYard_NoNote_NoRoom_NotOut_NoWish, _, rfl, k _ (s0.trans (same_new hp))⟩
/-! #### law -/
theorem ok_law (T : Txt K mg) {f : Addr} {fd : FuncData} (F : FunD K "law" "law" (defArgs s_law) (defBody s_law) (defScope s_law) [] [] f fd) : FnOk P w K mg base CX0 lawLevel f fd ["_law_script"] (spLaw K) := by
  refine mkFn F sc_law (fun vs H Q E h => ?_) (fun cdv A outer s H vs Q E hr h => ?_)
  · obtain ⟨a, ns, rfl, _⟩ := h
    rfl
  · obtain ⟨a, ns, rfl, hS, hl, k⟩ := h
    have nd := sc_law.nd
    have hr1 : Room 1 _ := hr.mono (by decide)
    have hr2 : Room 2 _ := hr.mono (by decide)
    have hr3 : Room 3 _ := hr.mono (by decide)
    have hr4 : Room 4 _ := hr.mono (by decide)
    have hu := hr.units
    refine ⟨_, PSs.nox (pss_cons (ps_set (i := 1) nd rfl (Or.inl rfl) (pe_cd (ok_number T) hr2 (pa_cons (pv 0) pa_nil)))
      (pss_cons (ps_set (i := 2) nd rfl (Or.inl rfl) (pe_cd (ok_due T) hr1 (pa_cons (pv 1) pa_nil)))
      (pss_cons (ps_set (i := 3) nd rfl (Or.inl rfl) (pe_cd (ok_is_size T) hr1 (pa_cons (pv 1) pa_nil)))
      (pss_cons (ps_if (PW.pt (pw_or (pt_not (pt_val (pe_callB call_isi (by rfl) T.n_isinstance (by decide +kernel) (pa_cons (pv 3) (pa_cons (pe_bltn (v := .ty "bool") (u := .type "bool") (by rfl) T.n_bool (by decide +kernel) rfl) pa_nil))))) (pw_or1 (pt_cmpR op_ne (pv 3) (pv 2) (nomark _))))) (pss_one (ps_ret pe_bl)) pss_nil)
      (pss_cons (ps_if (PW.pt (pw_or (pt_cmpR op_eq (pe_cd (ok_refused T) hr4 (pa_cons (pv 1) pa_nil)) (pv 2) (nomark _)) (pw_or1 (pt_cmpR op_eq (pe_cd (ok_refused_any T) hr4 (pa_cons (pv 1) pa_nil)) (pv 2) (nomark _))))) (pss_one (ps_ret pe_bl)) pss_nil)
      (pss_cons (ps_if (pt_not (pt_val (pv 2))) (pss_one (ps_ret pe_bl)) pss_nil)
      (pss_cons (ps_set (i := 4) nd rfl (Or.inl rfl) (pe_mk (E := fun _ => E0) (ok_init T) hr3 passAt0 (pa_cons (pv 1) pa_nil)))
      (pss_cons (ps_if (PW.pt (pw_or (pt_not (pt_val (pe_cd (ok_whole T) hr1 (pa_cons (pe_fld (pv 4) rfl) pa_nil)))) (pw_or1 (pt_cmpR op_ne (pe_fld (pv 4) rfl) (pv 1) (nomark _))))) (pss_one (ps_ret pe_bl)) pss_nil)
      (pss_one (ps_ret (pe_and (pe_cmpR (op_eqPs hu) (pe_m0 (pv 4) (ok_out T) hr1) (pe_lst pa_nil) (nomark _))
        (pe_one (pe_cmpR (op_eqPs hu) (pe_m0 (pv 4) (ok_free T) hr1) (pe_lst (pa_cons (pe_tup (pa_cons pe_int (pa_cons (pv 1) pa_nil))) pa_nil)) (nomark _)))))))))))))), ?_⟩
    refine ⟨_, rfl, a, ns, rfl, hS, fun n H1 s1 => ?_⟩
    refine ⟨_, rfl, n, rfl, ?_⟩
    refine ⟨_, rfl, n, rfl, ?_⟩
    refine ⟨_, rfl, _, _, _, _, true, rfl, .ty "bool", .base (.bl (isSz n)), kit_ty (by decide +kernel), _, rfl, iteF ?_⟩
    refine ⟨_, rfl, _, rfl, rfl, _, rfl, iteNS rfl ?_⟩
    refine ⟨_, rfl, n, rfl, fun H2 s2 => ?_⟩
    refine ⟨_, rfl, rfl, false, ?_, iteF ?_⟩
    · exact blF (by cases isSz n <;> decide)
    refine ⟨_, rfl, n, rfl, fun H3 s3 => ?_⟩
    refine ⟨_, rfl, rfl, false, ?_, iteF ?_⟩
    · exact blF (by cases isSz n <;> decide)
    refine ⟨_, rfl, _, rfl, ?_⟩
    cases e : isSz n with
    | false => exact iteT (k _)
    | true =>
      refine iteF ?_
      obtain ⟨k0, hk, rfl⟩ := isSz_iff.mp e
      refine ⟨_, rfl, fun x dx nx ndx nex => ⟨x, dx, _, rfl, upd_same, fun _ H2 d hk2 nd2 y2 => ⟨rfl, ?_⟩, fun e2 => absurd e2 (by rw [e]; decide)⟩⟩
      obtain ⟨dy, fs, ef, nm, ec⟩ := y2.at_
      refine ⟨_, rfl, x, _, dy, fs, _, rfl, ef, T.cl, T.a_cells, ec, _, rfl, true, rfl, iteF ?_⟩
      refine ⟨_, rfl, x, _, dy, fs, _, rfl, ef, T.cl, T.a_cells, ec, _, rfl, rfl, _, rfl, iteNS rfl ?_⟩
      refine ⟨_, rfl, x, dy, fs, rfl, ef, nm.out, x, d, _, _, _, rfl, y2, List.nodup_nil, Nat.zero_le _, fun H7 q7 xs7 O7 s7 nq7 eq7 pq7 perm7 srt7 => ?_⟩
      have hO : O7 = [] := perm7.eq_nil
      subst hO
      refine ⟨Nat.zero_le _, fun l8 hl8 => ?_⟩
      refine ⟨q7, l8, xs7, [], [], [], rfl, rfl, SqL.of ((same_new hl8) _ _ eq7), SqL.of upd_same, pq7.kept (tups_upd hl8), .nil, true, eqT rfl, iteT ?_⟩
      have y3 := (y2.same s7).same (same_new hl8 (o := .lst []))
      obtain ⟨d3, g3, ef3, nm3, _⟩ := y3.at_
      refine ⟨_, rfl, x, d3, g3, rfl, ef3, nm3.free, x, d, _, _, _, rfl, y3, fun H9 q9 xs9 s9 nq9 eq9 pq9 => ?_⟩
      refine ⟨_, rfl, (by show 2 ≤ sizeLine; decide), fun t ht => ⟨(by show 1 ≤ sizeLine; decide), fun l2 hl2 => ?_⟩⟩
      have s10 : Same H9 (upd (upd H9 t (.tup [V.int 0, V.int (Bud.pw k0)])) l2 (.lst [V.ref t])) := (same_new ht).trans (same_new hl2)
      refine ⟨q9, l2, xs9, _, _, [(0, Bud.pw k0)], rfl, rfl, SqL.of (s10 _ _ eq9), SqL.of upd_same, pq9.kept (Same.tups s10), .cons ⟨t, rfl, (same_new hl2) _ _ upd_same⟩ .nil, ?_⟩
      show Q (V.bl (decide _)) _
      rw [decide_eq_true rfl]
      exact k _
end
/-! ### the head -/
def fas : List He.Fa := [.free "ValueError",
  .free "bool",
  .free "int",
  .free "isinstance",
  .free "len",
  .free "list",
  .free "range",
  .free "sorted",
  .glo "is_size",
  .meth "Yard" "free",
  .meth "Yard" "out",
  .glo "_law_whole",
  .glo "_law_cell_at",
  .glo "_law_doubled",
  .glo "_law_number",
  .glo "_law_due",
  .glo "_law_refused",
  .glo "_law_refused_by_any",
  .glo "law",
  .glo "YardError",
  .glo "NoYard",
  .glo "NoWish",
  .glo "NoRoom",
  .glo "NotOut",
  .glo "NoNote",
  .glo "Yard",
  .cls "Yard",
  .noat "Yard" "cells",
  .noat "Yard" "spare",
  .noat "Yard" "given",
  .mkr "Yard",
  .exc "YardError",
  .exc "NoYard",
  .exc "NoWish",
  .exc "NoRoom",
  .exc "NotOut",
  .exc "NoNote",
  .exm "NoYard" "NoYard" true,
  .exm "NoWish" "NoYard" false,
  .exm "NoRoom" "NoYard" false,
  .exm "NotOut" "NoYard" false,
  .exm "NoNote" "NoYard" false,
  .exm "NoYard" "YardError" true,
  .exm "NoWish" "YardError" true,
  .exm "NoRoom" "YardError" true,
  .exm "NotOut" "YardError" true,
  .exm "NoNote" "YardError" true,
  .int "MOST" 1152921504606846976]
def d_is_size : He.DefD := ⟨("is_size", none), "is_size", "is_size", defArgs s_is_size, defBody s_is_size, defScope s_is_size, [], []⟩
def d_Yard_init : He.DefD := ⟨("Yard", some "__init__"), "__init__", "Yard.__init__", defArgs s_Yard_init, defBody s_Yard_init, defScope s_Yard_init, [], []⟩
def d_Yard_free : He.DefD := ⟨("Yard", some "free"), "free", "Yard.free", defArgs s_Yard_free, defBody s_Yard_free, defScope s_Yard_free, [], []⟩
def d_Yard_out : He.DefD := ⟨("Yard", some "out"), "out", "Yard.out", defArgs s_Yard_out, defBody s_Yard_out, defScope s_Yard_out, [], []⟩
def d__law_whole : He.DefD := ⟨("_law_whole", none), "_law_whole", "_law_whole", defArgs s__law_whole, defBody s__law_whole, defScope s__law_whole, [], []⟩
def d__law_cell_at : He.DefD := ⟨("_law_cell_at", none), "_law_cell_at", "_law_cell_at", defArgs s__law_cell_at, defBody s__law_cell_at, defScope s__law_cell_at, [], []⟩
def d__law_doubled : He.DefD := ⟨("_law_doubled", none), "_law_doubled", "_law_doubled", defArgs s__law_doubled, defBody s__law_doubled, defScope s__law_doubled, [], []⟩
def d__law_number : He.DefD := ⟨("_law_number", none), "_law_number", "_law_number", defArgs s__law_number, defBody s__law_number, defScope s__law_number, [], []⟩
def d__law_due : He.DefD := ⟨("_law_due", none), "_law_due", "_law_due", defArgs s__law_due, defBody s__law_due, defScope s__law_due, [], []⟩
def d__law_refused : He.DefD := ⟨("_law_refused", none), "_law_refused", "_law_refused", defArgs s__law_refused, defBody s__law_refused, defScope s__law_refused, [], []⟩
def d__law_refused_by_any : He.DefD := ⟨("_law_refused_by_any", none), "_law_refused_by_any", "_law_refused_by_any", defArgs s__law_refused_by_any, defBody s__law_refused_by_any, defScope s__law_refused_by_any, [], []⟩
def d_law : He.DefD := ⟨("law", none), "law", "law", defArgs s_law, defBody s_law, defScope s_law, [], []⟩
def fns : List He.DefD := [d_is_size, d_Yard_init, d_Yard_free, d_Yard_out, d__law_whole, d__law_cell_at, d__law_doubled, d__law_number, d__law_due, d__law_refused, d__law_refused_by_any, d_law]
def exs (K : PySem.W.Frag) : Bool := (exB K (He.ga K "NoYard")) && (decide (PySem.W.kitOne K (.ref (He.ga K "NoYard")) (.type "ValueError") = some true)) && (decide (PySem.W.kitAny K (.ref (He.ga K "NoYard")) [.ref (He.ga K "NoNote"), .ref (He.ga K "NoRoom"), .ref (He.ga K "NotOut"), .ref (He.ga K "NoWish")] = some false)) && (exB K (He.ga K "NoWish")) && (decide (PySem.W.kitOne K (.ref (He.ga K "NoWish")) (.type "ValueError") = some true)) && (decide (PySem.W.kitAny K (.ref (He.ga K "NoWish")) [.ref (He.ga K "NoNote"), .ref (He.ga K "NoRoom"), .ref (He.ga K "NotOut"), .ref (He.ga K "NoWish")] = some true)) && (exB K (He.ga K "NoRoom")) && (decide (PySem.W.kitOne K (.ref (He.ga K "NoRoom")) (.type "ValueError") = some true)) && (decide (PySem.W.kitAny K (.ref (He.ga K "NoRoom")) [.ref (He.ga K "NoNote"), .ref (He.ga K "NoRoom"), .ref (He.ga K "NotOut"), .ref (He.ga K "NoWish")] = some true)) && (exB K (He.ga K "NotOut")) && (decide (PySem.W.kitOne K (.ref (He.ga K "NotOut")) (.type "ValueError") = some true)) && (decide (PySem.W.kitAny K (.ref (He.ga K "NotOut")) [.ref (He.ga K "NoNote"), .ref (He.ga K "NoRoom"), .ref (He.ga K "NotOut"), .ref (He.ga K "NoWish")] = some true)) && (exB K (He.ga K "NoNote")) && (decide (PySem.W.kitOne K (.ref (He.ga K "NoNote")) (.type "ValueError") = some true)) && (decide (PySem.W.kitAny K (.ref (He.ga K "NoNote")) [.ref (He.ga K "NoNote"), .ref (He.ga K "NoRoom"), .ref (He.ga K "NotOut"), .ref (He.ga K "NoWish")] = some true))
abbrev RR : PySem.W.OpenRow := PySem.W.OpenLaw.row PySem.Challenge.rw_buddyyard_k02_sizes
abbrev hk : PySem.W.Hook := He.hookX 4 fas fns [] [] exs
def ob (s : PySem.W.SharedT) : He.AlX := He.obsX 4 fas fns [] [] exs (HandSHeadRun.getT s)
theorem ob_eq (s : PySem.W.SharedT) : ob s = hk.obs s.abs := He.obsX_eq (HandSHeadRun.getT_eq s)
def loose : List PySem.Str := (["_wall", "YardError", "NoYard", "NoWish", "NoRoom", "NotOut", "NoNote", "is_size", "Yard", "_law_whole", "_law_cell_at", "_law_doubled", "_law_number", "_law_due", "_law_refused", "_law_refused_by_any", "MOST"] : List PySem.Str)
set_option maxHeartbeats 0 in
theorem run (w : World) : HandSHeadRun.RunEq RR (PySem.W.view RR.prog [21]) hk ob 60000 loose w := by
  intro os
  kernel_rfl
theorem txt_of {w : World} {K : PySem.W.Frag} {h : Heap} {mg : Str → Option Value} (X : K.In h) (G : h.Ns mainGlobals mg) (cc : He.SaysX fas fns [] [] exs w h K) : Txt K mg := by
  have c : He.SaysD fas fns K := cc.t.d
  have m : exs K = true := cc.more
  unfold exs at m
  simp only [Bool.and_eq_true] at m
  exact
    { n_ValueError := He.free_ok X G (c.fact 0 rfl)
      n_bool := He.free_ok X G (c.fact 1 rfl)
      n_int := He.free_ok X G (c.fact 2 rfl)
      n_isinstance := He.free_ok X G (c.fact 3 rfl)
      n_len := He.free_ok X G (c.fact 4 rfl)
      n_list := He.free_ok X G (c.fact 5 rfl)
      n_range := He.free_ok X G (c.fact 6 rfl)
      n_sorted := He.free_ok X G (c.fact 7 rfl)
      g_is_size := He.glo_ok X G (c.fact 8 rfl)
      m_Yard_free := He.meth_ok (c.fact 9 rfl)
      m_Yard_out := He.meth_ok (c.fact 10 rfl)
      g__law_whole := He.glo_ok X G (c.fact 11 rfl)
      g__law_cell_at := He.glo_ok X G (c.fact 12 rfl)
      g__law_doubled := He.glo_ok X G (c.fact 13 rfl)
      g__law_number := He.glo_ok X G (c.fact 14 rfl)
      g__law_due := He.glo_ok X G (c.fact 15 rfl)
      g__law_refused := He.glo_ok X G (c.fact 16 rfl)
      g__law_refused_by_any := He.glo_ok X G (c.fact 17 rfl)
      g_law := He.glo_ok X G (c.fact 18 rfl)
      g_YardError := He.glo_ok X G (c.fact 19 rfl)
      g_NoYard := He.glo_ok X G (c.fact 20 rfl)
      g_NoWish := He.glo_ok X G (c.fact 21 rfl)
      g_NoRoom := He.glo_ok X G (c.fact 22 rfl)
      g_NotOut := He.glo_ok X G (c.fact 23 rfl)
      g_NoNote := He.glo_ok X G (c.fact 24 rfl)
      g_Yard := He.glo_ok X G (c.fact 25 rfl)
      cl := He.cls_ok (c.fact 26 rfl)
      a_cells := He.noat_ok (c.fact 27 rfl)
      a_spare := He.noat_ok (c.fact 28 rfl)
      a_given := He.noat_ok (c.fact 29 rfl)
      mkr := He.mkr_ok (c.fact 30 rfl)
      x_YardError := He.exc_ok (c.fact 31 rfl)
      x_NoYard := He.exc_ok (c.fact 32 rfl)
      x_NoWish := He.exc_ok (c.fact 33 rfl)
      x_NoRoom := He.exc_ok (c.fact 34 rfl)
      x_NotOut := He.exc_ok (c.fact 35 rfl)
      x_NoNote := He.exc_ok (c.fact 36 rfl)
      e_NoYard_NoYard := He.exm_ok (c.fact 37 rfl)
      e_NoWish_NoYard := He.exm_ok (c.fact 38 rfl)
      e_NoRoom_NoYard := He.exm_ok (c.fact 39 rfl)
      e_NotOut_NoYard := He.exm_ok (c.fact 40 rfl)
      e_NoNote_NoYard := He.exm_ok (c.fact 41 rfl)
      e_NoYard_YardError := He.exm_ok (c.fact 42 rfl)
      e_NoWish_YardError := He.exm_ok (c.fact 43 rfl)
      e_NoRoom_YardError := He.exm_ok (c.fact 44 rfl)
      e_NotOut_YardError := He.exm_ok (c.fact 45 rfl)
      e_NoNote_YardError := He.exm_ok (c.fact 46 rfl)
      c_MOST := He.int_ok X G (c.fact 47 rfl)
      F_is_size := c.def_ 0 (d := d_is_size) rfl
      F_Yard_init := c.def_ 1 (d := d_Yard_init) rfl
      F_Yard_free := c.def_ 2 (d := d_Yard_free) rfl
      F_Yard_out := c.def_ 3 (d := d_Yard_out) rfl
      F__law_whole := c.def_ 4 (d := d__law_whole) rfl
      F__law_cell_at := c.def_ 5 (d := d__law_cell_at) rfl
      F__law_doubled := c.def_ 6 (d := d__law_doubled) rfl
      F__law_number := c.def_ 7 (d := d__law_number) rfl
      F__law_due := c.def_ 8 (d := d__law_due) rfl
      F__law_refused := c.def_ 9 (d := d__law_refused) rfl
      F__law_refused_by_any := c.def_ 10 (d := d__law_refused_by_any) rfl
      F_law := c.def_ 11 (d := d_law) rfl
      ec_NoYard := exB_ok m.1.1.1.1.1.1.1.1.1.1.1.1.1.1
      ki_NoYard_ValueError := of_decide_eq_true m.1.1.1.1.1.1.1.1.1.1.1.1.1.2
      ki_NoYard_NoNote_NoRoom_NotOut_NoWish := of_decide_eq_true m.1.1.1.1.1.1.1.1.1.1.1.1.2
      ec_NoWish := exB_ok m.1.1.1.1.1.1.1.1.1.1.1.2
      ki_NoWish_ValueError := of_decide_eq_true m.1.1.1.1.1.1.1.1.1.1.2
      ki_NoWish_NoNote_NoRoom_NotOut_NoWish := of_decide_eq_true m.1.1.1.1.1.1.1.1.1.2
      ec_NoRoom := exB_ok m.1.1.1.1.1.1.1.1.2
      ki_NoRoom_ValueError := of_decide_eq_true m.1.1.1.1.1.1.1.2
      ki_NoRoom_NoNote_NoRoom_NotOut_NoWish := of_decide_eq_true m.1.1.1.1.1.1.2
      ec_NotOut := exB_ok m.1.1.1.1.1.2
      ki_NotOut_ValueError := of_decide_eq_true m.1.1.1.1.2
      ki_NotOut_NoNote_NoRoom_NotOut_NoWish := of_decide_eq_true m.1.1.1.2
      ec_NoNote := exB_ok m.1.1.2
      ki_NoNote_ValueError := of_decide_eq_true m.1.2
      ki_NoNote_NoNote_NoRoom_NotOut_NoWish := of_decide_eq_true m.2 }
end Yd
open PySem PySem.W PySem.Calls PyProof.Rows
set_option maxHeartbeats 0 in
theorem PySem.Challenge.cw_buddyyard_k02_sizes_holds : PySem.Challenge.rw_buddyyard_k02_sizes.Holds := by
  w_on; o_law
  refine HandSHeadRun.head_any (r := OpenLaw.row PySem.Challenge.rw_buddyyard_k02_sizes) (q := view (OpenLaw.row PySem.Challenge.rw_buddyyard_k02_sizes).prog [21]) (H := Yd.hk) (ob := Yd.ob) (M := 60000) (loose := Yd.loose) (d := HandSHeadRun.topDef (OpenLaw.row PySem.Challenge.rw_buddyyard_k02_sizes).prog 21) (kwd := []) Yd.ob_eq
    (by kernel_rfl) (fun s => by kernel_rfl) Yd.run (by kernel_rfl) (by kernel_rfl) (by kernel_rfl) (by rfl) (by first | assumption | decide +kernel) (by decide +kernel) ⟨rfl, rfl, rfl, rfl, rfl, by decide +kernel⟩ ?hw ?hc
  case hw => w_witness2
  case hc =>
    refine L2.walk_ofE (l := PySem.Challenge.rw_buddyyard_k02_sizes) (n := 63) (k := Yd.lawLevel) (x := "_law_script") (CX := L2.CX0) rfl (by decide) (by kernel_rfl) ⟨rfl, by decide, by decide⟩ ?F (fun _ _ _ _ z => z)
    case F =>
      intro w mg fa h Y G hmg0
      obtain ⟨K, KX, c⟩ := Y
      have hmg : mg ("law" : PySem.Str) = some (.ref fa) := by
        have e : (HandSHeadRun.topDef (OpenLaw.row PySem.Challenge.rw_buddyyard_k02_sizes).prog 21).name = ("law" : PySem.Str) := by kernel_rfl
        rw [← e]
        exact hmg0
      have T := Yd.txt_of KX G c
      have e := hmg.symm.trans T.g_law
      cases e
      obtain ⟨fd, F⟩ := T.F_law
      exact ⟨K, fd, Yd.spLaw K, KX, fun s v => L2.FunD.bindsA (ps := ["_law_script"]) F Yd.bd_law s [v] rfl, fun H a ns hl _ hS => ⟨a, ns, rfl, hS, hl, fun _ => rfl⟩, fun base h1 h2 => Yd.ok_law T F⟩
#print axioms PySem.Challenge.cw_buddyyard_k02_sizes_holds
