import PyProof.Rows.All
import Wide.All
import OpenK.AllK
import Wide.FinOn
import PyProof.EqAt
import PyProof.EqKinds
import PyProof.TupleCall
import HandS.ForMost
import HandS.ForExc
import HandS.Wide
import HandS.Deep
import HandS.Sort
import HandS.SortRule
import HandS.IsInst
import HandS.ExcIs
import HandS.TryMany
import HandS.Defaults
import HandS.Codes
import HandS.Style
import HandS.Head0
import HandS.Head1
import HandS.Head2
import HandS.HeadEnd
import HandS.HeadHook1
import HandS.HeadHook2
import HandS.HeadHook3
import HandS.HeadHook4
import KE.DataFind
import HandS.SortInts
import HandS.Walk
import PyProof.Rows.SetFrom
import PyProof.SetRoads
import HandS.Rev
import HandS.Comp
import HandS.SortKw
import KE.GoesRaise
import KE.GoesComp
import HandS.SuiteRaise
import KE.DataMinMax
import PySem.Challenge.RW_buddyyard_k11_whole_many_at_once
set_option Elab.async false
set_option linter.all false
set_option maxRecDepth 100000
set_option maxHeartbeats 4000000
set_option linter.all false
/-! The mathematics of halves of halves: trees, their free pieces and those that are out. No program here. -/
namespace Bud

/-- a piece: where it begins, its size -/
abbrev Pc := Int × Int

def pw (k : Nat) : Int := 2 ^ k
theorem pw_zero : pw 0 = 1 := rfl
theorem pw_succ (k : Nat) : pw (k + 1) = 2 * pw k := by
  show (2 : Int) ^ (k + 1) = 2 * 2 ^ k
  rw [Int.pow_succ, Int.mul_comm]
theorem pw_pos (k : Nat) : 0 < pw k := by
  induction k with
  | zero => exact Int.zero_lt_one
  | succ k ih => rw [pw_succ]; omega
theorem pw_add (j k : Nat) : pw (j + k) = pw j * pw k := Int.pow_add 2 j k
theorem pw_dvd {j k : Nat} (h : j ≤ k) : pw j ∣ pw k := by
  obtain ⟨d, rfl⟩ := Nat.exists_eq_add_of_le h
  rw [pw_add]
  exact Int.dvd_mul_right _ _
theorem pw_le {j k : Nat} (h : j ≤ k) : pw j ≤ pw k := Int.le_of_dvd (pw_pos k) (pw_dvd h)
theorem pw_lt {j k : Nat} (h : j < k) : pw j < pw k := by
  have h1 := pw_le (Nat.succ_le_of_lt h)
  have h2 := pw_pos j
  rw [Nat.succ_eq_add_one, pw_succ] at h1
  omega
theorem pw_inj {j k : Nat} (h : pw j = pw k) : j = k := by
  rcases Nat.lt_trichotomy j k with q | q | q
  · have := pw_lt q; omega
  · exact q
  · have := pw_lt q; omega
theorem pw_lt_iff {j k : Nat} : pw j < pw k ↔ j < k := by
  constructor
  · intro h
    rcases Nat.lt_or_ge j k with q | q
    · exact q
    · have := pw_le q; omega
  · exact pw_lt
theorem pw_le_iff {j k : Nat} : pw j ≤ pw k ↔ j ≤ k := by
  constructor
  · intro h
    rcases Nat.lt_or_ge k j with q | q
    · have := pw_lt q; omega
    · exact q
  · exact pw_le

/-! ### two multiples of one number -/
theorem mul_gap {s a b : Int} (hs : 0 < s) (ha : s ∣ a) (hb : s ∣ b) (h : a < b) : a + s ≤ b := by
  obtain ⟨x, rfl⟩ := ha
  obtain ⟨y, rfl⟩ := hb
  have h1 : x < y := Int.lt_of_mul_lt_mul_left h (Int.le_of_lt hs)
  have h2 : s * (x + 1) ≤ s * y := Int.mul_le_mul_of_nonneg_left (by omega) (Int.le_of_lt hs)
  rw [Int.mul_add, Int.mul_one] at h2
  exact h2

/-! ### the order of pieces -/
def lexle (p q : Pc) : Prop := p.1 < q.1 ∨ (p.1 = q.1 ∧ p.2 ≤ q.2)
theorem lexle_antisymm {p q : Pc} (h : lexle p q) (h' : lexle q p) : p = q := by
  obtain ⟨a, b⟩ := p
  obtain ⟨c, d⟩ := q
  unfold lexle at h h'
  simp only at h h'
  have e1 : a = c := by omega
  have e2 : b = d := by omega
  rw [e1, e2]
theorem lexle_trans {p q r : Pc} (h : lexle p q) (h' : lexle q r) : lexle p r := by
  unfold lexle at *
  omega
def Srt (l : List Pc) : Prop := l.Pairwise lexle
theorem srt_uniq : ∀ {l m : List Pc}, Srt l → Srt m → l.Perm m → l = m
  | [], m, _, _, h => (List.Perm.eq_nil h.symm).symm
  | x :: l, [], _, _, h => absurd h.length_eq (by simp)
  | x :: l, y :: m, hl, hm, h => by
    have e : x = y := by
      rcases List.mem_cons.mp (h.mem_iff.mp (List.mem_cons_self (a := x) (l := l))) with e | hx
      · exact e
      · rcases List.mem_cons.mp (h.mem_iff.mpr (List.mem_cons_self (a := y) (l := m))) with e | hy
        · exact e.symm
        · exact lexle_antisymm ((List.pairwise_cons.mp hl).1 y hy) ((List.pairwise_cons.mp hm).1 x hx)
    subst e
    rw [srt_uniq (List.pairwise_cons.mp hl).2 (List.pairwise_cons.mp hm).2 h.cons_inv]

/-! ### trees -/
inductive T : Nat → Type where
  | free {k : Nat} : T k
  | out {k : Nat} : T k
  | node {k : Nat} (l r : T k) : T (k + 1)

def isFree : {k : Nat} → T k → Bool
  | _, .free => true
  | _, .out => false
  | _, .node _ _ => false
def frees : {k : Nat} → T k → Int → List Pc
  | k, .free, b => [(b, pw k)]
  | _, .out, _ => []
  | k + 1, .node l r, b => frees l b ++ frees r (b + pw k)
def outs : {k : Nat} → T k → Int → List Pc
  | _, .free, _ => []
  | k, .out, b => [(b, pw k)]
  | k + 1, .node l r, b => outs l b ++ outs r (b + pw k)
def Can : {k : Nat} → T k → Prop
  | _, .free => True
  | _, .out => True
  | _, .node l r => Can l ∧ Can r ∧ ¬ (isFree l = true ∧ isFree r = true)
/-- all pieces in a row, whether each is out -/
def pcs : {k : Nat} → T k → Int → List (Pc × Bool)
  | k, .free, b => [((b, pw k), false)]
  | k, .out, b => [((b, pw k), true)]
  | k + 1, .node l r, b => pcs l b ++ pcs r (b + pw k)
def isOut : {k : Nat} → T k → Bool
  | _, .free => false
  | _, .out => true
  | _, .node _ _ => false

theorem free_of_isFree {k : Nat} {t : T k} (h : isFree t = true) : t = .free := by
  cases t with
  | free => rfl
  | out => cases h
  | node l r => cases h

/-- what a piece of a tree of height k at b is -/
def In (k : Nat) (b : Int) (p : Pc) : Prop := b ≤ p.1 ∧ p.1 + p.2 ≤ b + pw k ∧ ∃ j, j ≤ k ∧ p.2 = pw j ∧ pw j ∣ p.1
theorem In.left {k : Nat} {b : Int} {p : Pc} (h : In k b p) : In (k + 1) b p := by
  obtain ⟨h1, h2, j, h3, h4, h5⟩ := h
  have := pw_pos k
  exact ⟨h1, by rw [pw_succ]; omega, j, Nat.le_succ_of_le h3, h4, h5⟩
theorem In.right {k : Nat} {b : Int} {p : Pc} (h : In k (b + pw k) p) : In (k + 1) b p := by
  obtain ⟨h1, h2, j, h3, h4, h5⟩ := h
  have := pw_pos k
  exact ⟨by omega, by rw [pw_succ]; omega, j, Nat.le_succ_of_le h3, h4, h5⟩
theorem dvd_left {k : Nat} {b : Int} (h : pw (k + 1) ∣ b) : pw k ∣ b := Int.dvd_trans (pw_dvd (Nat.le_succ k)) h
theorem dvd_right {k : Nat} {b : Int} (h : pw (k + 1) ∣ b) : pw k ∣ b + pw k := Int.dvd_add (dvd_left h) (Int.dvd_refl _)
theorem in_self {k : Nat} {b : Int} (h : pw k ∣ b) : In k b (b, pw k) := ⟨Int.le_refl _, Int.le_refl _, k, Nat.le_refl k, rfl, h⟩
theorem in_frees : ∀ {k : Nat} (t : T k) {b : Int} {p : Pc}, pw k ∣ b → p ∈ frees t b → In k b p
  | _, .free, b, p, h, hp => by
    rw [List.mem_singleton.mp hp]
    exact in_self h
  | _, .out, b, p, h, hp => by cases hp
  | _, .node l r, b, p, h, hp => by
    rcases List.mem_append.mp hp with q | q
    · exact (in_frees l (dvd_left h) q).left
    · exact (in_frees r (dvd_right h) q).right
theorem in_outs : ∀ {k : Nat} (t : T k) {b : Int} {p : Pc}, pw k ∣ b → p ∈ outs t b → In k b p
  | _, .free, b, p, h, hp => by cases hp
  | _, .out, b, p, h, hp => by
    rw [List.mem_singleton.mp hp]
    exact in_self h
  | _, .node l r, b, p, h, hp => by
    rcases List.mem_append.mp hp with q | q
    · exact (in_outs l (dvd_left h) q).left
    · exact (in_outs r (dvd_right h) q).right
theorem In.pos {k : Nat} {b : Int} {p : Pc} (h : In k b p) : 0 < p.2 := by
  obtain ⟨_, _, j, _, e, _⟩ := h
  rw [e]
  exact pw_pos j

/-! ### in a row -/
/-- one behind the other, from b to e -/
def Row : List Pc → Int → Int → Prop
  | [], b, e => b = e
  | p :: l, b, e => p.1 = b ∧ Row l (b + p.2) e
theorem Row.append : ∀ {l m : List Pc} {b c e : Int}, Row l b c → Row m c e → Row (l ++ m) b e
  | [], m, b, c, e, h, h' => by
    cases h
    exact h'
  | p :: l, m, b, c, e, h, h' => ⟨h.1, Row.append h.2 h'⟩
theorem pcs_row : ∀ {k : Nat} (t : T k) (b : Int), Row ((pcs t b).map (·.1)) b (b + pw k)
  | _, .free, b => ⟨rfl, rfl⟩
  | _, .out, b => ⟨rfl, rfl⟩
  | k + 1, .node l r, b => by
    show Row ((pcs l b ++ pcs r (b + pw k)).map (·.1)) b (b + pw (k + 1))
    rw [List.map_append]
    have e : b + pw (k + 1) = b + pw k + pw k := by rw [pw_succ]; omega
    rw [e]
    exact (pcs_row l b).append (pcs_row r (b + pw k))
theorem pcs_frees : ∀ {k : Nat} (t : T k) (b : Int), ((pcs t b).filter (fun p => !p.2)).map (·.1) = frees t b
  | _, .free, b => rfl
  | _, .out, b => rfl
  | k + 1, .node l r, b => by
    show ((pcs l b ++ pcs r (b + pw k)).filter (fun p => !p.2)).map (·.1) = frees l b ++ frees r (b + pw k)
    rw [List.filter_append, List.map_append, pcs_frees, pcs_frees]
theorem pcs_outs : ∀ {k : Nat} (t : T k) (b : Int), ((pcs t b).filter (fun p => p.2)).map (·.1) = outs t b
  | _, .free, b => rfl
  | _, .out, b => rfl
  | k + 1, .node l r, b => by
    show ((pcs l b ++ pcs r (b + pw k)).filter (fun p => p.2)).map (·.1) = outs l b ++ outs r (b + pw k)
    rw [List.filter_append, List.map_append, pcs_outs, pcs_outs]
theorem pcs_perm : ∀ {k : Nat} (t : T k) (b : Int), ((pcs t b).map (·.1)).Perm (outs t b ++ frees t b)
  | _, .free, b => List.Perm.refl _
  | _, .out, b => List.Perm.refl _
  | k + 1, .node l r, b => by
    show ((pcs l b ++ pcs r (b + pw k)).map (·.1)).Perm ((outs l b ++ outs r (b + pw k)) ++ (frees l b ++ frees r (b + pw k)))
    rw [List.map_append]
    refine ((pcs_perm l b).append (pcs_perm r (b + pw k))).trans ?_
    rw [List.append_assoc, List.append_assoc]
    refine List.Perm.append_left _ ?_
    rw [← List.append_assoc, ← List.append_assoc]
    exact List.Perm.append_right _ List.perm_append_comm

/-- apart, the left one ahead -/
def Ahead (p q : Pc) : Prop := p.1 + p.2 ≤ q.1
theorem ahead_frees : ∀ {k : Nat} (t : T k) {b : Int}, pw k ∣ b → (frees t b).Pairwise Ahead
  | _, .free, b, _ => List.pairwise_singleton _ _
  | _, .out, b, _ => List.Pairwise.nil
  | k + 1, .node l r, b, h => by
    refine List.pairwise_append.mpr ⟨ahead_frees l (dvd_left h), ahead_frees r (dvd_right h), fun x hx y hy => ?_⟩
    have h1 := (in_frees l (dvd_left h) hx).2.1
    have h2 := (in_frees r (dvd_right h) hy).1
    unfold Ahead
    omega
theorem ahead_outs : ∀ {k : Nat} (t : T k) {b : Int}, pw k ∣ b → (outs t b).Pairwise Ahead
  | _, .free, b, _ => List.Pairwise.nil
  | _, .out, b, _ => List.pairwise_singleton _ _
  | k + 1, .node l r, b, h => by
    refine List.pairwise_append.mpr ⟨ahead_outs l (dvd_left h), ahead_outs r (dvd_right h), fun x hx y hy => ?_⟩
    have h1 := (in_outs l (dvd_left h) hx).2.1
    have h2 := (in_outs r (dvd_right h) hy).1
    unfold Ahead
    omega
theorem apart : ∀ {k : Nat} (t : T k) {b : Int}, pw k ∣ b → ∀ p ∈ outs t b, ∀ q ∈ frees t b, Ahead p q ∨ Ahead q p
  | _, .free, b, _, p, hp, q, hq => by cases hp
  | _, .out, b, _, p, hp, q, hq => by cases hq
  | k + 1, .node l r, b, h, p, hp, q, hq => by
    rcases List.mem_append.mp hp with hp | hp
    · rcases List.mem_append.mp hq with hq | hq
      · exact apart l (dvd_left h) p hp q hq
      · have h1 := (in_outs l (dvd_left h) hp).2.1
        have h2 := (in_frees r (dvd_right h) hq).1
        unfold Ahead
        omega
    · rcases List.mem_append.mp hq with hq | hq
      · have h1 := (in_frees l (dvd_left h) hq).2.1
        have h2 := (in_outs r (dvd_right h) hp).1
        unfold Ahead
        omega
      · exact apart r (dvd_right h) p hp q hq
theorem srt_of_ahead {l : List Pc} (h : l.Pairwise Ahead) (hp : ∀ p ∈ l, 0 < p.2) : Srt l := by
  refine List.Pairwise.imp_of_mem (R := Ahead) (fun {p q} hx hy a => ?_) h
  have := hp p hx
  unfold Ahead at a
  exact .inl (by omega)
theorem srt_frees {k : Nat} (t : T k) {b : Int} (h : pw k ∣ b) : Srt (frees t b) := srt_of_ahead (ahead_frees t h) fun p hp => (in_frees t h hp).pos
theorem srt_outs {k : Nat} (t : T k) {b : Int} (h : pw k ∣ b) : Srt (outs t b) := srt_of_ahead (ahead_outs t h) fun p hp => (in_outs t h hp).pos
theorem fst_inj_of_ahead {l : List Pc} (h : l.Pairwise Ahead) (hp : ∀ p ∈ l, 0 < p.2) : ∀ p ∈ l, ∀ q ∈ l, p.1 = q.1 → p = q := by
  induction l with
  | nil => intro p hp; cases hp
  | cons x l ih =>
    have ⟨h1, h2⟩ := List.pairwise_cons.mp h
    intro p hp' q hq' e
    rcases List.mem_cons.mp hp' with rfl | hp1
    · rcases List.mem_cons.mp hq' with rfl | hq1
      · rfl
      · have a := h1 q hq1
        have := hp p List.mem_cons_self
        unfold Ahead at a
        omega
    · rcases List.mem_cons.mp hq' with rfl | hq1
      · have a := h1 p hp1
        have := hp q List.mem_cons_self
        unfold Ahead at a
        omega
      · exact ih h2 (fun z hz => hp z (List.mem_cons_of_mem _ hz)) p hp1 q hq1 e
theorem nodup_fst_of_ahead {l : List Pc} (h : l.Pairwise Ahead) (hp : ∀ p ∈ l, 0 < p.2) : (l.map (·.1)).Nodup := by
  refine List.pairwise_map.mpr ?_
  refine List.Pairwise.imp_of_mem (R := Ahead) (fun {p q} hx hy a => ?_) h
  have := hp p hx
  unfold Ahead at a
  omega

/-! ### a tree of which nothing is out is free -/
theorem free_of_noOuts : ∀ {k : Nat} (t : T k) (b : Int), Can t → outs t b = [] → isFree t = true
  | _, .free, b, _, _ => rfl
  | _, .out, b, _, h => by cases h
  | k + 1, .node l r, b, h, e => by
    have ⟨e1, e2⟩ := List.append_eq_nil_iff.mp e
    exact absurd ⟨free_of_noOuts l b h.1 e1, free_of_noOuts r (b + pw k) h.2.1 e2⟩ h.2.2

/-! ### no two twins are free -/
theorem no_twins : ∀ {k : Nat} (t : T k) {b : Int}, Can t → pw k ∣ b → ∀ (j : Nat) (a : Int), j < k → pw (j + 1) ∣ a → (a, pw j) ∈ frees t b → (a + pw j, pw j) ∈ frees t b → False
  | k, .free, b, _, _, j, a, hj, _, h1, _ => by
    have e := List.mem_singleton.mp h1
    have e2 : pw j = pw k := congrArg Prod.snd e
    have := pw_inj e2
    omega
  | _, .out, b, _, _, j, a, _, _, h1, _ => by cases h1
  | k + 1, .node l r, b, hc, hb, j, a, hj, ha, h1, h2 => by
    have il := fun {p} (hp : p ∈ frees l b) => in_frees l (dvd_left hb) hp
    have ir := fun {p} (hp : p ∈ frees r (b + pw k)) => in_frees r (dvd_right hb) hp
    have pj := pw_pos j
    rcases Nat.lt_or_ge j k with q | q
    · rcases List.mem_append.mp h1 with g1 | g1
      · rcases List.mem_append.mp h2 with g2 | g2
        · exact no_twins l hc.1 (dvd_left hb) j a q ha g1 g2
        · have i1 := (il g1).2.1
          have i2 := (ir g2).1
          simp only at i1 i2
          have e : a + pw j = b + pw k := by omega
          have d1 : pw (j + 1) ∣ b + pw k := Int.dvd_trans (pw_dvd q) (dvd_right hb)
          have d2 : pw (j + 1) ∣ pw j := by
            have : pw j = (b + pw k) - a := by omega
            rw [this]
            exact Int.dvd_sub d1 ha
          have := Int.le_of_dvd pj d2
          rw [pw_succ] at this
          omega
      · rcases List.mem_append.mp h2 with g2 | g2
        · have i1 := (ir g1).1
          have i2 := (il g2).2.1
          simp only at i1 i2
          omega
        · exact no_twins r hc.2.1 (dvd_right hb) j a q ha g1 g2
    · have ej : j = k := by omega
      subst ej
      rcases List.mem_append.mp h1 with g1 | g1
      · rcases List.mem_append.mp h2 with g2 | g2
        · have i1 := (il g1).1
          have i2 := (il g2).2.1
          simp only at i1 i2
          omega
        · -- both children are free
          have f1 : isFree l = true := by
            cases l with
            | free => rfl
            | out => cases g1
            | node x y =>
              rename_i k'
              exfalso
              rcases List.mem_append.mp g1 with g | g
              · have i := (in_frees x (dvd_left (dvd_left hb)) g).2.2
                obtain ⟨i, hi, e, _⟩ := i
                have := pw_inj e
                omega
              · have i := (in_frees y (dvd_right (dvd_left hb)) g).2.2
                obtain ⟨i, hi, e, _⟩ := i
                have := pw_inj e
                omega
          have f2 : isFree r = true := by
            cases r with
            | free => rfl
            | out => cases g2
            | node x y =>
              rename_i k'
              exfalso
              rcases List.mem_append.mp g2 with g | g
              · have i := (in_frees x (dvd_left (dvd_right hb)) g).2.2
                obtain ⟨i, hi, e, _⟩ := i
                have := pw_inj e
                omega
              · have i := (in_frees y (dvd_right (dvd_right hb)) g).2.2
                obtain ⟨i, hi, e, _⟩ := i
                have := pw_inj e
                omega
          exact hc.2.2 ⟨f1, f2⟩
      · rcases List.mem_append.mp h2 with g2 | g2
        · have i1 := (ir g1).1
          have i2 := (il g2).2.1
          simp only at i1 i2
          omega
        · have i1 := (ir g1).1
          have i2 := (ir g2).2.1
          simp only at i1 i2
          omega

/-! ### a part of a tree, and another in its place -/
inductive At : {k : Nat} → T k → Int → {m : Nat} → T m → Int → Prop where
  | here {k : Nat} (t : T k) (b : Int) : At t b t b
  | left {k m : Nat} {l r : T k} {b : Int} {v : T m} {a : Int} (h : At l b v a) : At (.node l r) b v a
  | right {k m : Nat} {l r : T k} {b : Int} {v : T m} {a : Int} (h : At r (b + pw k) v a) : At (.node l r) b v a
theorem At.le {k m : Nat} {t : T k} {b : Int} {v : T m} {a : Int} (h : At t b v a) : m ≤ k := by
  induction h with
  | here => exact Nat.le_refl _
  | left _ ih => omega
  | right _ ih => omega
theorem at_free : ∀ {k : Nat} (t : T k) {b : Int} {a : Int} {m : Nat}, (a, pw m) ∈ frees t b → At t b (.free : T m) a
  | k, .free, b, a, m, h => by
    have e := List.mem_singleton.mp h
    have e1 : a = b := congrArg Prod.fst e
    have e2 := pw_inj (congrArg Prod.snd e : pw m = pw k)
    subst e1
    subst e2
    exact .here _ _
  | _, .out, b, a, m, h => by cases h
  | k + 1, .node l r, b, a, m, h => by
    rcases List.mem_append.mp h with q | q
    · exact .left (at_free l q)
    · exact .right (at_free r q)
theorem at_out : ∀ {k : Nat} (t : T k) {b : Int} {a : Int} {m : Nat}, (a, pw m) ∈ outs t b → At t b (.out : T m) a
  | _, .free, b, a, m, h => by cases h
  | k, .out, b, a, m, h => by
    have e := List.mem_singleton.mp h
    have e1 : a = b := congrArg Prod.fst e
    have e2 := pw_inj (congrArg Prod.snd e : pw m = pw k)
    subst e1
    subst e2
    exact .here _ _
  | k + 1, .node l r, b, a, m, h => by
    rcases List.mem_append.mp h with q | q
    · exact .left (at_out l q)
    · exact .right (at_out r q)
/-- u, which is not free, in v's place -/
theorem At.put {k m : Nat} {t : T k} {b : Int} {v : T m} {a : Int} (h : At t b v a) (hc : Can t) (u : T m) (hu : Can u) (hf : isFree u = false) :
    ∃ t' : T k, Can t' ∧ isFree t' = false ∧ ∃ L R L' R', frees t b = L ++ frees v a ++ R ∧ frees t' b = L ++ frees u a ++ R ∧ outs t b = L' ++ outs v a ++ R' ∧ outs t' b = L' ++ outs u a ++ R' := by
  induction h with
  | here t b => exact ⟨u, hu, hf, [], [], [], [], by simp, by simp, by simp, by simp⟩
  | @left k m l r b v a h ih =>
    obtain ⟨t', c', f', L, R, L', R', e1, e2, e3, e4⟩ := ih hc.1 u hu hf
    refine ⟨.node t' r, ⟨c', hc.2.1, fun q => by rw [f'] at q; cases q.1⟩, rfl, L, R ++ frees r (b + pw k), L', R' ++ outs r (b + pw k), ?_, ?_, ?_, ?_⟩
    · show frees l b ++ frees r (b + pw k) = _
      rw [e1]; simp
    · show frees t' b ++ frees r (b + pw k) = _
      rw [e2]; simp
    · show outs l b ++ outs r (b + pw k) = _
      rw [e3]; simp
    · show outs t' b ++ outs r (b + pw k) = _
      rw [e4]; simp
  | @right k m l r b v a h ih =>
    obtain ⟨t', c', f', L, R, L', R', e1, e2, e3, e4⟩ := ih hc.2.1 u hu hf
    refine ⟨.node l t', ⟨hc.1, c', fun q => by rw [f'] at q; cases q.2⟩, rfl, frees l b ++ L, R, outs l b ++ L', R', ?_, ?_, ?_, ?_⟩
    · show frees l b ++ frees r (b + pw k) = _
      rw [e1]; simp
    · show frees l b ++ frees t' (b + pw k) = _
      rw [e2]; simp
    · show outs l b ++ outs r (b + pw k) = _
      rw [e3]; simp
    · show outs l b ++ outs t' (b + pw k) = _
      rw [e4]; simp

/-! ### halved down to the lower end -/
/-- j: the height of what is out; d more levels above -/
def spine (j : Nat) : (d : Nat) → T (j + d)
  | 0 => .out
  | d + 1 => .node (spine j d) .free
theorem spine_can (j : Nat) : ∀ d, Can (spine j d) ∧ isFree (spine j d) = false
  | 0 => ⟨trivial, rfl⟩
  | d + 1 => ⟨⟨(spine_can j d).1, trivial, fun q => by rw [(spine_can j d).2] at q; cases q.1⟩, rfl⟩
theorem spine_outs (j : Nat) (b : Int) : ∀ d, outs (spine j d) b = [(b, pw j)]
  | 0 => rfl
  | d + 1 => by
    show outs (spine j d) b ++ [] = _
    rw [spine_outs j b d]
    rfl
/-- the upper halves, the least first -/
def ups (b : Int) (j : Nat) : Nat → List Pc
  | 0 => []
  | d + 1 => ups b j d ++ [(b + pw (j + d), pw (j + d))]
theorem spine_frees (j : Nat) (b : Int) : ∀ d, frees (spine j d) b = ups b j d
  | 0 => rfl
  | d + 1 => by
    show frees (spine j d) b ++ [(b + pw (j + d), pw (j + d))] = ups b j (d + 1)
    rw [spine_frees j b d]
    rfl
theorem mem_ups {b : Int} {j : Nat} {p : Pc} : ∀ {d : Nat}, p ∈ ups b j d ↔ ∃ i, i < d ∧ p = (b + pw (j + i), pw (j + i))
  | 0 => ⟨fun h => (by cases h), fun ⟨i, h, _⟩ => absurd h (Nat.not_lt_zero i)⟩
  | d + 1 => by
    show p ∈ ups b j d ++ [(b + pw (j + d), pw (j + d))] ↔ _
    rw [List.mem_append, mem_ups, List.mem_singleton]
    constructor
    · rintro (⟨i, h, e⟩ | e)
      · exact ⟨i, Nat.lt_succ_of_lt h, e⟩
      · exact ⟨d, Nat.lt_succ_self d, e⟩
    · rintro ⟨i, h, e⟩
      rcases Nat.lt_or_ge i d with q | q
      · exact .inl ⟨i, q, e⟩
      · have : i = d := by omega
        subst this
        exact .inr e
/-- a tree of which just the piece at its lower end is out -/
theorem spine_of : ∀ {k : Nat} (t : T k) {b : Int} {j : Nat}, Can t → pw k ∣ b → outs t b = [(b, pw j)] → ∃ d, ∃ e : j + d = k, t = e ▸ spine j d
  | _, .free, b, j, _, _, h => by cases h
  | k, .out, b, j, _, _, h => by
    have e : pw k = pw j := congrArg Prod.snd (List.cons.inj h).1
    have := pw_inj e
    subst this
    exact ⟨0, rfl, rfl⟩
  | k + 1, .node l r, b, j, hc, hb, h => by
    have h' : outs l b ++ outs r (b + pw k) = [(b, pw j)] := h
    have pk := pw_pos k
    cases e : outs l b with
    | nil =>
      rw [e, List.nil_append] at h'
      have m : ((b, pw j) : Pc) ∈ outs r (b + pw k) := by rw [h']; exact List.mem_singleton.mpr rfl
      have := (in_outs r (dvd_right hb) m).1
      simp only at this
      omega
    | cons p l' =>
      rw [e] at h'
      have ⟨e1, e2⟩ := List.cons.inj h'
      have ⟨e3, e4⟩ := List.append_eq_nil_iff.mp e2
      subst e1
      subst e3
      have fr := free_of_isFree (free_of_noOuts r (b + pw k) hc.2.1 e4)
      subst fr
      obtain ⟨d, ed, et⟩ := spine_of l hc.1 (dvd_left hb) e
      subst ed
      refine ⟨d + 1, rfl, ?_⟩
      rw [et]
      rfl
end Bud

set_option linter.all false
namespace Bud

theorem top_free {k : Nat} {t : T k} {b c : Int} (hb : pw k ∣ b) (h : (c, pw k) ∈ frees t b) : isFree t = true := by
  cases t with
  | free => rfl
  | out => cases h
  | node x y =>
    rename_i k'
    exfalso
    rcases List.mem_append.mp h with g | g
    · have i := (in_frees x (dvd_left hb) g).2.2
      obtain ⟨i, hi, e, _⟩ := i
      have := pw_inj e
      omega
    · have i := (in_frees y (dvd_right hb) g).2.2
      obtain ⟨i, hi, e, _⟩ := i
      have := pw_inj e
      omega
theorem free_mem {k : Nat} {t : T k} {b : Int} (h : isFree t = true) : (b, pw k) ∈ frees t b := by
  rw [free_of_isFree h]
  exact List.mem_singleton.mpr rfl

/-! ### the fitting size -/
def feG : Nat → Nat → Int → Nat
  | 0, n, _ => n
  | f + 1, n, w => if w ≤ pw n then n else feG f (n + 1) w
def fe (w : Int) : Nat := feG w.toNat 0 w
def fit (w : Int) : Int := pw (fe w)
theorem pw_ge (n : Nat) : (n : Int) < pw n := by
  induction n with
  | zero => exact Int.zero_lt_one
  | succ n ih => rw [pw_succ]; omega
theorem feG_spec : ∀ (f n : Nat) (w : Int), w ≤ pw (n + f) → (∀ i, i < n → pw i < w) → w ≤ pw (feG f n w) ∧ ∀ i, i < feG f n w → pw i < w
  | 0, n, w, h, h' => ⟨h, h'⟩
  | f + 1, n, w, h, h' => by
    unfold feG
    by_cases c : w ≤ pw n
    · rw [if_pos c]
      exact ⟨c, h'⟩
    · rw [if_neg c]
      refine feG_spec f (n + 1) w ?_ ?_
      · have : n + 1 + f = n + (f + 1) := by omega
        rw [this]
        exact h
      · intro i hi
        rcases Nat.lt_or_ge i n with q | q
        · exact h' i q
        · have : i = n := by omega
          rw [this]
          omega
theorem fe_spec (w : Int) : w ≤ pw (fe w) ∧ ∀ i, i < fe w → pw i < w := by
  refine feG_spec w.toNat 0 w ?_ (fun i hi => absurd hi (Nat.not_lt_zero i))
  have := pw_ge w.toNat
  rw [Nat.zero_add]
  omega
theorem fe_le {w : Int} {n : Nat} (h : w ≤ pw n) : fe w ≤ n := by
  rcases Nat.lt_or_ge n (fe w) with q | q
  · have := (fe_spec w).2 n q
    omega
  · exact q
theorem fit_ge (w : Int) : w ≤ fit w := (fe_spec w).1
theorem fe_eq {w : Int} {n : Nat} (h : w ≤ pw n) (h' : ∀ i, i < n → pw i < w) : fe w = n := by
  have h1 := fe_le h
  rcases Nat.lt_or_ge (fe w) n with q | q
  · have := h' _ q
    have := fit_ge w
    unfold fit at this
    omega
  · omega
theorem fe_eq' {w : Int} {n : Nat} (h : w ≤ pw n) (h' : n = 0 ∨ ∃ m, n = m + 1 ∧ pw m < w) : fe w = n := by
  refine fe_eq h fun i hi => ?_
  rcases h' with e | ⟨m, e, q⟩
  · omega
  · have := pw_le (show i ≤ m by omega)
    omega
theorem fit_le_iff {w : Int} {n : Nat} : fit w ≤ pw n ↔ w ≤ pw n := by
  constructor
  · intro h
    have := fit_ge w
    omega
  · intro h
    exact pw_le (fe_le h)

/-! ### twins -/
def twin (a s : Int) : Int := if a / s % 2 = 0 then a + s else a - s
theorem twin_even {a s : Int} (hs : 0 < s) (h : 2 * s ∣ a) : twin a s = a + s := by
  obtain ⟨x, rfl⟩ := h
  unfold twin
  have e : 2 * s * x / s = 2 * x := by
    rw [show 2 * s * x = s * (2 * x) by rw [Int.mul_comm 2 s, Int.mul_assoc]]
    exact Int.mul_ediv_cancel_left _ (by omega)
  rw [e, if_pos (by omega)]
theorem twin_odd {a s : Int} (hs : 0 < s) (h : 2 * s ∣ a - s) : twin a s = a - s := by
  obtain ⟨x, hx⟩ := h
  unfold twin
  have e : a / s = 2 * x + 1 := by
    have : a = s * (2 * x + 1) := by
      rw [Int.mul_add, Int.mul_one, ← Int.mul_assoc, Int.mul_comm s 2]
      omega
    rw [this]
    exact Int.mul_ediv_cancel_left _ (by omega)
  rw [e, if_neg (by omega)]
theorem dvd_two {a s : Int} (hs : 0 < s) (h : s ∣ a) : 2 * s ∣ a ∨ 2 * s ∣ a - s := by
  obtain ⟨x, rfl⟩ := h
  rcases (show x % 2 = 0 ∨ x % 2 = 1 by omega) with q | q
  · left
    refine ⟨x / 2, ?_⟩
    have e : x = 2 * (x / 2) := by omega
    calc s * x = s * (2 * (x / 2)) := by rw [← e]
      _ = 2 * s * (x / 2) := by rw [← Int.mul_assoc, Int.mul_comm s 2]
  · right
    refine ⟨x / 2, ?_⟩
    have e : x = 2 * (x / 2) + 1 := by omega
    calc s * x - s = s * (2 * (x / 2) + 1) - s := by rw [← e]
      _ = 2 * s * (x / 2) := by rw [Int.mul_add, Int.mul_one, ← Int.mul_assoc, Int.mul_comm s 2]; omega
theorem twin_left {k : Nat} {b : Int} (h : pw (k + 1) ∣ b) : twin b (pw k) = b + pw k := twin_even (pw_pos k) (by rw [← pw_succ]; exact h)
theorem twin_right {k : Nat} {b : Int} (h : pw (k + 1) ∣ b) : twin (b + pw k) (pw k) = b := by
  rw [twin_odd (pw_pos k)]
  · omega
  · rw [← pw_succ]
    have : b + pw k - pw k = b := by omega
    rw [this]
    exact h
/-- the twin lies a size on, where the piece begins at a multiple of twice the size, and only there -/
theorem twin_eq_iff {j : Nat} {a : Int} (h : pw j ∣ a) : twin a (pw j) = a + pw j ↔ pw (j + 1) ∣ a := by
  have hp := pw_pos j
  constructor
  · intro e
    rcases dvd_two hp h with q | q
    · rw [pw_succ]; exact q
    · rw [twin_odd hp q] at e
      omega
  · intro e
    exact twin_left e

/-! ### the smallest that is large enough -/
def better (w : Int) (f : Option Pc) (p : Pc) : Option Pc :=
  if w ≤ p.2 then (match f with | none => some p | some q => if p.2 < q.2 then some p else some q) else f
def bestOf (L : List Pc) (w : Int) : Option Pc := L.foldl (better w) none
theorem best_fold (w : Int) : ∀ (L : List Pc) (f : Option Pc), (∀ q, f = some q → w ≤ q.2) →
    (L.foldl (better w) f = none ↔ f = none ∧ ∀ p ∈ L, p.2 < w) ∧
    ∀ x, L.foldl (better w) f = some x → w ≤ x.2 ∧ (f = some x ∨ ∃ A B, L = A ++ x :: B ∧ (∀ p ∈ A, w ≤ p.2 → x.2 < p.2) ∧ ∀ q, f = some q → x.2 < q.2) ∧ (∀ p ∈ L, w ≤ p.2 → x.2 ≤ p.2) ∧ ∀ q, f = some q → x.2 ≤ q.2
  | [], f, hf => by
    refine ⟨⟨fun h => ⟨h, fun p hp => by cases hp⟩, fun h => h.1⟩, fun x hx => ?_⟩
    have hx' : f = some x := hx
    refine ⟨hf x hx', .inl hx', fun p hp => (by cases hp), fun q hq => ?_⟩
    rw [hx'] at hq
    cases hq
    exact Int.le_refl _
  | p :: L, f, hf => by
    show (L.foldl (better w) (better w f p) = none ↔ _) ∧ ∀ x, L.foldl (better w) (better w f p) = some x → _
    have hf' : ∀ q, better w f p = some q → w ≤ q.2 := by
      intro q hq
      unfold better at hq
      by_cases c : w ≤ p.2
      · rw [if_pos c] at hq
        cases f with
        | none => cases hq; exact c
        | some z =>
          simp only at hq
          by_cases d : p.2 < z.2
          · rw [if_pos d] at hq; cases hq; exact c
          · rw [if_neg d] at hq; cases hq; exact hf _ rfl
      · rw [if_neg c] at hq
        exact hf q hq
    obtain ⟨h1, h2⟩ := best_fold w L (better w f p) hf'
    constructor
    · rw [h1]
      constructor
      · rintro ⟨e, h⟩
        unfold better at e
        by_cases c : w ≤ p.2
        · rw [if_pos c] at e
          cases f with
          | none => cases e
          | some z =>
            simp only at e
            by_cases d : p.2 < z.2
            · rw [if_pos d] at e; cases e
            · rw [if_neg d] at e; cases e
        · rw [if_neg c] at e
          refine ⟨e, fun q hq => ?_⟩
          rcases List.mem_cons.mp hq with rfl | hq
          · omega
          · exact h q hq
      · rintro ⟨e, h⟩
        have c : ¬ w ≤ p.2 := by have := h p List.mem_cons_self; omega
        refine ⟨?_, fun q hq => h q (List.mem_cons_of_mem _ hq)⟩
        unfold better
        rw [if_neg c]
        exact e
    · intro x hx
      obtain ⟨g1, g2, g3, g4⟩ := h2 x hx
      by_cases c : w ≤ p.2
      · cases f with
        | none =>
          have eb : better w none p = some p := by unfold better; rw [if_pos c]
          rw [eb] at g2 g4
          have g4p := g4 p rfl
          refine ⟨g1, .inr ?_, fun q hq hw => ?_, fun q hq => by cases hq⟩
          · rcases g2 with e | ⟨A, B, e, g, g'⟩
            · cases e
              exact ⟨[], L, rfl, fun q hq => (by cases hq), fun q hq => by cases hq⟩
            · refine ⟨p :: A, B, by rw [e]; rfl, fun q hq hw => ?_, fun q hq => by cases hq⟩
              rcases List.mem_cons.mp hq with rfl | hq
              · exact g' _ rfl
              · exact g q hq hw
          · rcases List.mem_cons.mp hq with rfl | hq
            · exact g4p
            · exact g3 q hq hw
        | some z =>
          by_cases d : p.2 < z.2
          · have eb : better w (some z) p = some p := by unfold better; rw [if_pos c]; exact if_pos d
            rw [eb] at g2 g4
            have g4p := g4 p rfl
            refine ⟨g1, .inr ?_, fun q hq hw => ?_, fun q hq => ?_⟩
            · rcases g2 with e | ⟨A, B, e, g, g'⟩
              · cases e
                exact ⟨[], L, rfl, fun q hq => (by cases hq), fun q hq => by cases hq; exact d⟩
              · refine ⟨p :: A, B, by rw [e]; rfl, fun q hq hw => ?_, fun q hq => ?_⟩
                · rcases List.mem_cons.mp hq with rfl | hq
                  · exact g' _ rfl
                  · exact g q hq hw
                · cases hq
                  have := g' p rfl
                  omega
            · rcases List.mem_cons.mp hq with rfl | hq
              · exact g4p
              · exact g3 q hq hw
            · cases hq
              omega
          · have eb : better w (some z) p = some z := by unfold better; rw [if_pos c]; exact if_neg d
            rw [eb] at g2 g4
            have g4z := g4 z rfl
            refine ⟨g1, ?_, fun q hq hw => ?_, fun q hq => ?_⟩
            · rcases g2 with e | ⟨A, B, e, g, g'⟩
              · exact .inl e
              · refine .inr ⟨p :: A, B, by rw [e]; rfl, fun q hq hw => ?_, g'⟩
                rcases List.mem_cons.mp hq with rfl | hq
                · have := g' z rfl
                  omega
                · exact g q hq hw
            · rcases List.mem_cons.mp hq with rfl | hq
              · omega
              · exact g3 q hq hw
            · cases hq
              exact g4z
      · have eb : better w f p = f := by unfold better; rw [if_neg c]
        rw [eb] at g2 g4
        refine ⟨g1, ?_, fun q hq hw => ?_, g4⟩
        · rcases g2 with e | ⟨A, B, e, g, g'⟩
          · exact .inl e
          · refine .inr ⟨p :: A, B, by rw [e]; rfl, fun q hq hw => ?_, g'⟩
            rcases List.mem_cons.mp hq with rfl | hq
            · exact absurd hw c
            · exact g q hq hw
        · rcases List.mem_cons.mp hq with rfl | hq
          · exact absurd hw c
          · exact g3 q hq hw
theorem best_none {L : List Pc} {w : Int} : bestOf L w = none ↔ ∀ p ∈ L, p.2 < w := by
  have h := (best_fold w L none (fun q hq => by cases hq)).1
  exact ⟨fun e => (h.mp e).2, fun e => h.mpr ⟨rfl, e⟩⟩
theorem best_some {L : List Pc} {w : Int} {x : Pc} (h : bestOf L w = some x) : w ≤ x.2 ∧ (∃ A B, L = A ++ x :: B ∧ ∀ p ∈ A, w ≤ p.2 → x.2 < p.2) ∧ ∀ p ∈ L, w ≤ p.2 → x.2 ≤ p.2 := by
  obtain ⟨g1, g2, g3, _⟩ := (best_fold w L none (fun q hq => by cases hq)).2 x h
  rcases g2 with e | ⟨A, B, e, g, _⟩
  · cases e
  · exact ⟨g1, ⟨A, B, e, g⟩, g3⟩
theorem best_mem {L : List Pc} {w : Int} {x : Pc} (h : bestOf L w = some x) : x ∈ L := by
  obtain ⟨_, ⟨A, B, e, _⟩, _⟩ := best_some h
  rw [e]
  exact List.mem_append_right _ List.mem_cons_self
/-- among equally small ones the least place -/
theorem best_first {L : List Pc} {w : Int} {x : Pc} (hs : Srt L) (h : bestOf L w = some x) : ∀ p ∈ L, p.2 = x.2 → x.1 ≤ p.1 := by
  obtain ⟨g, ⟨A, B, e, hA⟩, _⟩ := best_some h
  intro p hp ep
  rw [e] at hp hs
  rcases List.mem_append.mp hp with q | q
  · have := hA p q (by omega)
    omega
  · rcases List.mem_cons.mp q with rfl | q
    · exact Int.le_refl _
    · have := (List.pairwise_cons.mp (List.pairwise_append.mp hs).2.1).1 p q
      unfold lexle at this
      omega
theorem best_uniq {L : List Pc} {w : Int} {x : Pc} (hs : Srt L) (hm : x ∈ L) (hw : w ≤ x.2) (hl : ∀ p ∈ L, w ≤ p.2 → x.2 ≤ p.2) (hf : ∀ p ∈ L, p.2 = x.2 → x.1 ≤ p.1) : bestOf L w = some x := by
  cases e : bestOf L w with
  | none => have := best_none.mp e x hm; omega
  | some y =>
    obtain ⟨g1, _, g3⟩ := best_some e
    have h1 := hl y (best_mem e) g1
    have h2 := g3 x hm hw
    have e2 : x.2 = y.2 := by omega
    have h3 := hf y (best_mem e) e2.symm
    have h4 := best_first hs e x hm e2
    have e1 : x.1 = y.1 := by omega
    rw [Prod.ext e1 e2]

/-! ### one that comes back -/
def pbk : Nat → List Pc → Int → Int → List Pc × Pc
  | 0, L, a, s => (L, (a, s))
  | n + 1, L, a, s => if (twin a s, s) ∈ L then pbk n (L.erase (twin a s, s)) (min a (twin a s)) (s * 2) else (L, (a, s))
def pb (L : List Pc) (a s : Int) : List Pc × Pc := pbk L.length L a s
theorem pb_in {L : List Pc} {a s : Int} (h : (twin a s, s) ∈ L) : pb L a s = pb (L.erase (twin a s, s)) (min a (twin a s)) (s * 2) := by
  have e := List.length_erase_of_mem h
  have hl := List.length_pos_of_mem h
  obtain ⟨n, hn⟩ : ∃ n, L.length = n + 1 := ⟨L.length - 1, by omega⟩
  unfold pb
  rw [e, hn]
  show (if (twin a s, s) ∈ L then _ else _) = _
  rw [if_pos h]
  rfl
theorem pb_out {L : List Pc} {a s : Int} (h : (twin a s, s) ∉ L) : pb L a s = (L, (a, s)) := by
  unfold pb
  cases L.length with
  | zero => rfl
  | succ n =>
    show (if (twin a s, s) ∈ L then _ else _) = _
    rw [if_neg h]

def mk {k : Nat} (l r : T k) : T (k + 1) := if isFree l = true ∧ isFree r = true then .free else .node l r
theorem mk_can {k : Nat} {l r : T k} (hl : Can l) (hr : Can r) : Can (mk l r) := by
  unfold mk
  by_cases c : isFree l = true ∧ isFree r = true
  · rw [if_pos c]; trivial
  · rw [if_neg c]; exact ⟨hl, hr, c⟩
theorem mk_outs {k : Nat} (l r : T k) (b : Int) : outs (mk l r) b = outs l b ++ outs r (b + pw k) := by
  unfold mk
  by_cases c : isFree l = true ∧ isFree r = true
  · rw [if_pos c, free_of_isFree c.1, free_of_isFree c.2]
    rfl
  · rw [if_neg c]; rfl
/-- the piece at a is free again -/
def back : {k : Nat} → T k → Int → Int → T k
  | _, .free, _, _ => .free
  | _, .out, _, _ => .free
  | k + 1, .node l r, b, a => if a < b + pw k then mk (back l b a) r else mk l (back r (b + pw k) a)
theorem back_can : ∀ {k : Nat} (t : T k) (b a : Int), Can t → Can (back t b a)
  | _, .free, _, _, _ => trivial
  | _, .out, _, _, _ => trivial
  | k + 1, .node l r, b, a, h => by
    show Can (if a < b + pw k then mk (back l b a) r else mk l (back r (b + pw k) a))
    by_cases c : a < b + pw k
    · rw [if_pos c]; exact mk_can (back_can l b a h.1) h.2.1
    · rw [if_neg c]; exact mk_can h.1 (back_can r _ a h.2.1)
theorem back_outs : ∀ {k : Nat} (t : T k) {b a s : Int}, pw k ∣ b → (a, s) ∈ outs t b → (outs t b).Perm ((a, s) :: outs (back t b a) b)
  | _, .free, b, a, s, _, h => by cases h
  | _, .out, b, a, s, _, h => by
    rw [List.mem_singleton.mp h]
    exact List.Perm.refl _
  | k + 1, .node l r, b, a, s, hb, h => by
    show (outs l b ++ outs r (b + pw k)).Perm ((a, s) :: outs (if a < b + pw k then mk (back l b a) r else mk l (back r (b + pw k) a)) b)
    rcases List.mem_append.mp h with q | q
    · have i := in_outs l (dvd_left hb) q
      have p := i.pos
      have i2 := i.2.1
      simp only at i2 p
      rw [if_pos (by omega), mk_outs]
      exact (back_outs l (dvd_left hb) q).append_right _
    · have i := (in_outs r (dvd_right hb) q).1
      simp only at i
      rw [if_neg (by omega), mk_outs]
      refine (List.Perm.append_left _ (back_outs r (dvd_right hb) q)).trans ?_
      exact List.perm_middle
/-- what the joining comes to: the sub-tree as a whole became free, and goes on, or it stops within it -/
theorem pb_back : ∀ {k : Nat} (t : T k) {b a : Int} {j : Nat} {F O : List Pc}, Can t → pw k ∣ b → (a, pw j) ∈ outs t b → (∀ p ∈ O, p.1 < b ∨ b + pw k ≤ p.1) → F.Perm (frees t b ++ O) →
    (isFree (back t b a) = true ∧ ∃ F', F'.Perm O ∧ pb F a (pw j) = pb F' b (pw k)) ∨
    (isFree (back t b a) = false ∧ ((pb F a (pw j)).2 :: (pb F a (pw j)).1).Perm (frees (back t b a) b ++ O))
  | _, .free, b, a, j, F, O, _, _, h, _, _ => by cases h
  | k, .out, b, a, j, F, O, _, _, h, _, hF => by
    have e := List.mem_singleton.mp h
    have e1 : a = b := congrArg Prod.fst e
    have e2 : pw j = pw k := congrArg Prod.snd e
    rw [e1, e2]
    exact .inl ⟨rfl, F, hF, rfl⟩
  | k + 1, .node l r, b, a, j, F, O, hc, hb, h, hO, hF => by
    have hF' : F.Perm (frees l b ++ frees r (b + pw k) ++ O) := hF
    have pk := pw_pos k
    have pk1 : pw (k + 1) = 2 * pw k := pw_succ k
    have eback : back (.node l r) b a = if a < b + pw k then mk (back l b a) r else mk l (back r (b + pw k) a) := rfl
    rcases List.mem_append.mp h with q | q
    · have i := in_outs l (dvd_left hb) q
      have p := i.pos
      have i2 := i.2.1
      simp only at i2 p
      rw [eback, if_pos (by omega)]
      have hO' : ∀ p ∈ frees r (b + pw k) ++ O, p.1 < b ∨ b + pw k ≤ p.1 := by
        intro p hp
        rcases List.mem_append.mp hp with hp | hp
        · exact .inr (in_frees r (dvd_right hb) hp).1
        · have := hO p hp
          omega
      rcases pb_back l (F := F) (O := frees r (b + pw k) ++ O) hc.1 (dvd_left hb) q hO' (by rw [← List.append_assoc]; exact hF') with ⟨g, F', hP, e⟩ | ⟨g, hP⟩
      · -- the lower half is free as a whole
        rw [e]
        by_cases c : isFree r = true
        · left
          have em : mk (back l b a) r = .free := by unfold mk; rw [if_pos ⟨g, c⟩]
          rw [em]
          refine ⟨rfl, F'.erase (b + pw k, pw k), ?_, ?_⟩
          · have er := free_of_isFree c
            rw [er] at hP
            have h1 := hP.erase (b + pw k, pw k)
            have e3 : (frees (.free : T k) (b + pw k) ++ O).erase (b + pw k, pw k) = O := by
              show ((b + pw k, pw k) :: O).erase (b + pw k, pw k) = O
              exact List.erase_cons_head _ _
            rw [e3] at h1
            exact h1
          · have et := twin_left hb
            have hm : (twin b (pw k), pw k) ∈ F' := by
              rw [et]
              exact hP.mem_iff.mpr (List.mem_append_left _ (free_mem c))
            rw [pb_in hm, et, pk1, Int.mul_comm 2 (pw k)]
            rw [show min b (b + pw k) = b by omega]
        · right
          have em : mk (back l b a) r = .node (back l b a) r := by unfold mk; rw [if_neg (fun z => c z.2)]
          rw [em]
          refine ⟨rfl, ?_⟩
          have et := twin_left hb
          have hm : (twin b (pw k), pw k) ∉ F' := by
            rw [et]
            intro z
            rcases List.mem_append.mp (hP.mem_iff.mp z) with z | z
            · exact c (top_free (dvd_right hb) z)
            · have := hO _ z
              simp only at this
              omega
          rw [pb_out hm]
          show ((b, pw k) :: F').Perm ((frees (back l b a) b ++ frees r (b + pw k)) ++ O)
          rw [free_of_isFree g]
          show ((b, pw k) :: F').Perm ((b, pw k) :: frees r (b + pw k) ++ O)
          exact hP.cons _
      · right
        have em : mk (back l b a) r = .node (back l b a) r := by unfold mk; rw [if_neg (fun z => by rw [g] at z; cases z.1)]
        rw [em]
        refine ⟨rfl, ?_⟩
        show (_ : List Pc).Perm ((frees (back l b a) b ++ frees r (b + pw k)) ++ O)
        rw [List.append_assoc]
        exact hP
    · have i := (in_outs r (dvd_right hb) q).1
      simp only at i
      rw [eback, if_neg (by omega)]
      have hO' : ∀ p ∈ frees l b ++ O, p.1 < b + pw k ∨ b + pw k + pw k ≤ p.1 := by
        intro p hp
        rcases List.mem_append.mp hp with hp | hp
        · have i := in_frees l (dvd_left hb) hp
          have := i.pos
          have := i.2.1
          omega
        · have := hO p hp
          omega
      have hF2 : F.Perm (frees r (b + pw k) ++ (frees l b ++ O)) := by
        refine hF'.trans ?_
        rw [← List.append_assoc]
        exact List.Perm.append_right _ List.perm_append_comm
      rcases pb_back r (F := F) (O := frees l b ++ O) hc.2.1 (dvd_right hb) q hO' hF2 with ⟨g, F', hP, e⟩ | ⟨g, hP⟩
      · rw [e]
        by_cases c : isFree l = true
        · left
          have em : mk l (back r (b + pw k) a) = .free := by unfold mk; rw [if_pos ⟨c, g⟩]
          rw [em]
          refine ⟨rfl, F'.erase (b, pw k), ?_, ?_⟩
          · have er := free_of_isFree c
            rw [er] at hP
            have h1 := hP.erase (b, pw k)
            have e3 : (frees (.free : T k) b ++ O).erase (b, pw k) = O := by
              show ((b, pw k) :: O).erase (b, pw k) = O
              exact List.erase_cons_head _ _
            rw [e3] at h1
            exact h1
          · have et := twin_right hb
            have hm : (twin (b + pw k) (pw k), pw k) ∈ F' := by
              rw [et]
              exact hP.mem_iff.mpr (List.mem_append_left _ (free_mem c))
            rw [pb_in hm, et, pk1, Int.mul_comm 2 (pw k)]
            rw [show min (b + pw k) b = b by omega]
        · right
          have em : mk l (back r (b + pw k) a) = .node l (back r (b + pw k) a) := by unfold mk; rw [if_neg (fun z => c z.1)]
          rw [em]
          refine ⟨rfl, ?_⟩
          have et := twin_right hb
          have hm : (twin (b + pw k) (pw k), pw k) ∉ F' := by
            rw [et]
            intro z
            rcases List.mem_append.mp (hP.mem_iff.mp z) with z | z
            · exact c (top_free (dvd_left hb) z)
            · have := hO _ z
              simp only at this
              omega
          rw [pb_out hm]
          show ((b + pw k, pw k) :: F').Perm ((frees l b ++ frees (back r (b + pw k) a) (b + pw k)) ++ O)
          rw [free_of_isFree g]
          show ((b + pw k, pw k) :: F').Perm ((frees l b ++ [(b + pw k, pw k)]) ++ O)
          refine (hP.cons _).trans ?_
          rw [List.append_assoc]
          exact List.perm_middle.symm
      · right
        have em : mk l (back r (b + pw k) a) = .node l (back r (b + pw k) a) := by unfold mk; rw [if_neg (fun z => by rw [g] at z; cases z.2)]
        rw [em]
        refine ⟨rfl, ?_⟩
        show (_ : List Pc).Perm ((frees l b ++ frees (back r (b + pw k) a) (b + pw k)) ++ O)
        refine hP.trans ?_
        rw [← List.append_assoc]
        exact List.Perm.append_right _ List.perm_append_comm
end Bud

set_option linter.all false
namespace Bud

theorem perm_srt {l m : List Pc} (h : l.Perm m) (hl : Srt l) (hm : Srt m) : l = m := srt_uniq hl hm h
theorem zdvd (k : Nat) : pw k ∣ 0 := Int.dvd_zero _
/-- the whole yard, all free, has one piece -/
theorem frees_free (k : Nat) (b : Int) : frees (.free : T k) b = [(b, pw k)] := rfl

/-! ### give -/
/-- the free pieces but one -/
def without (L : List Pc) (p : Pc) : List Pc := L.filter fun q => decide (q ≠ p)
theorem without_mid {A B : List Pc} {p : Pc} (h : (A ++ p :: B).Nodup) : without (A ++ p :: B) p = A ++ B := by
  have ⟨h1, h2, h3⟩ := List.nodup_append.mp h
  have ⟨h4, h5⟩ := List.nodup_cons.mp h2
  unfold without
  rw [List.filter_append, List.filter_cons_of_neg (by simp)]
  congr 1
  · refine List.filter_eq_self.mpr fun q hq => ?_
    exact decide_eq_true (h3 q hq p List.mem_cons_self)
  · refine List.filter_eq_self.mpr fun q hq => ?_
    refine decide_eq_true fun e => ?_
    rw [e] at hq
    exact h4 hq
theorem nodup_of_fst {l : List Pc} (h : (l.map (·.1)).Nodup) : l.Nodup := by
  have h' : (l.map (·.1)).Pairwise (· ≠ ·) := h
  rw [List.pairwise_map] at h'
  exact h'.imp fun {a b} hab e => hab (by rw [e])
theorem nodup_frees {k : Nat} (t : T k) {b : Int} (h : pw k ∣ b) : (frees t b).Nodup := nodup_of_fst (nodup_fst_of_ahead (ahead_frees t h) fun p hp => (in_frees t h hp).pos)
theorem nodup_outs {k : Nat} (t : T k) {b : Int} (h : pw k ∣ b) : (outs t b).Nodup := nodup_of_fst (nodup_fst_of_ahead (ahead_outs t h) fun p hp => (in_outs t h hp).pos)

theorem give_tree {k : Nat} {t : T k} {b a : Int} {m j : Nat} (hc : Can t) (hb : pw k ∣ b) (h : (a, pw m) ∈ frees t b) (hj : j ≤ m) :
    ∃ t' : T k, Can t' ∧ isFree t' = false ∧ (frees t' b).Perm (without (frees t b) (a, pw m) ++ ups a j (m - j)) ∧ (outs t' b).Perm ((a, pw j) :: outs t b) := by
  obtain ⟨d, rfl⟩ := Nat.exists_eq_add_of_le hj
  have hat := at_free t h
  obtain ⟨t', c', f', L, R, L', R', e1, e2, e3, e4⟩ := hat.put hc (spine j d) (spine_can j d).1 (spine_can j d).2
  rw [frees_free] at e1
  rw [spine_frees] at e2
  rw [spine_outs] at e4
  have e3' : outs t b = L' ++ R' := by rw [e3]; show L' ++ [] ++ R' = _; simp
  have nd := nodup_frees t hb
  have e1' : frees t b = L ++ (a, pw (j + d)) :: R := by rw [e1]; simp
  rw [e1'] at nd
  have ew : without (frees t b) (a, pw (j + d)) = L ++ R := by rw [e1', without_mid nd]
  refine ⟨t', c', f', ?_, ?_⟩
  · rw [ew, e2, Nat.add_sub_cancel_left, List.append_assoc, List.append_assoc]
    exact List.Perm.append_left _ List.perm_append_comm
  · rw [e4, e3', List.append_assoc]
    exact List.perm_middle

/-! ### back -/
theorem back_tree {k : Nat} {t : T k} {a : Int} {j : Nat} (hc : Can t) (h : (a, pw j) ∈ outs t 0) :
    (frees (back t 0 a) 0).Perm ((pb (frees t 0) a (pw j)).2 :: (pb (frees t 0) a (pw j)).1) := by
  rcases pb_back t (F := frees t 0) (O := []) hc (zdvd k) h (fun p hp => by cases hp) (by rw [List.append_nil]) with ⟨g, F', hP, e⟩ | ⟨g, hP⟩
  · have : F' = [] := hP.eq_nil
    subst this
    rw [e, free_of_isFree g]
    exact List.Perm.refl _
  · rw [List.append_nil] at hP
    exact hP.symm
/-- of the joined ones all are within the yard's sizes -/
theorem pb_mem {k : Nat} {t : T k} {a : Int} {j : Nat} (hc : Can t) (h : (a, pw j) ∈ outs t 0) : ∀ p ∈ (pb (frees t 0) a (pw j)).2 :: (pb (frees t 0) a (pw j)).1, In k 0 p := fun p hp =>
  in_frees (back t 0 a) (zdvd k) ((back_tree hc h).mem_iff.mpr hp)

/-! ### smaller -/
theorem shrink_tree {k : Nat} {t : T k} {b a : Int} {m j : Nat} (hc : Can t) (hb : pw k ∣ b) (h : (a, pw m) ∈ outs t b) (hj : j ≤ m) :
    ∃ t' : T k, Can t' ∧ (frees t' b).Perm (frees t b ++ ups a j (m - j)) ∧ (outs t' b).Perm ((a, pw j) :: (outs t b).erase (a, pw m)) := by
  obtain ⟨d, rfl⟩ := Nat.exists_eq_add_of_le hj
  have hat := at_out t h
  obtain ⟨t', c', f', L, R, L', R', e1, e2, e3, e4⟩ := hat.put hc (spine j d) (spine_can j d).1 (spine_can j d).2
  rw [spine_frees] at e2
  rw [spine_outs] at e4
  have e1' : frees t b = L ++ R := by rw [e1]; show L ++ [] ++ R = _; simp
  have e3' : outs t b = L' ++ (a, pw (j + d)) :: R' := by rw [e3]; show L' ++ [(a, pw (j + d))] ++ R' = _; simp
  have nd := nodup_outs t hb
  have hm : (outs t b).Perm ((a, pw (j + d)) :: (L' ++ R')) := by rw [e3']; exact List.perm_middle
  have he := hm.erase (a, pw (j + d))
  rw [List.erase_cons_head] at he
  refine ⟨t', c', ?_, ?_⟩
  · rw [e1', e2, Nat.add_sub_cancel_left, List.append_assoc, List.append_assoc]
    exact List.Perm.append_left _ List.perm_append_comm
  · rw [e4, List.append_assoc]
    exact List.perm_middle.trans (List.Perm.cons _ he.symm)

/-! ### larger -/
def grw : Nat → List Pc → Int → Nat → Option (List Pc)
  | 0, L, _, _ => some L
  | d + 1, L, a, j => if twin a (pw j) = a + pw j ∧ (a + pw j, pw j) ∈ L then grw d (L.erase (a + pw j, pw j)) a (j + 1) else none
theorem ups_cons (a : Int) (j : Nat) : ∀ d, ups a j (d + 1) = (a + pw j, pw j) :: ups a (j + 1) d
  | 0 => rfl
  | d + 1 => by
    show ups a j (d + 1) ++ [(a + pw (j + (d + 1)), pw (j + (d + 1)))] = _
    rw [ups_cons a j d]
    show (a + pw j, pw j) :: (ups a (j + 1) d ++ [(a + pw (j + (d + 1)), pw (j + (d + 1)))]) = (a + pw j, pw j) :: (ups a (j + 1) d ++ [(a + pw (j + 1 + d), pw (j + 1 + d))])
    rw [show j + (d + 1) = j + 1 + d by omega]
theorem grw_some : ∀ (d : Nat) {L : List Pc} {a : Int} {j : Nat}, (∀ i, i < d → twin a (pw (j + i)) = a + pw (j + i) ∧ (a + pw (j + i), pw (j + i)) ∈ L) →
    ∃ L', grw d L a j = some L' ∧ L.Perm (ups a j d ++ L') ∧ L'.Sublist L
  | 0, L, a, j, _ => ⟨L, rfl, List.Perm.refl _, List.Sublist.refl _⟩
  | d + 1, L, a, j, h => by
    have h0 := h 0 (Nat.succ_pos _)
    rw [Nat.add_zero] at h0
    have h' : ∀ i, i < d → twin a (pw (j + 1 + i)) = a + pw (j + 1 + i) ∧ (a + pw (j + 1 + i), pw (j + 1 + i)) ∈ L.erase (a + pw j, pw j) := by
      intro i hi
      have g := h (i + 1) (Nat.succ_lt_succ hi)
      have e : j + (i + 1) = j + 1 + i := by omega
      rw [e] at g
      refine ⟨g.1, ?_⟩
      refine (List.mem_erase_of_ne ?_).mpr g.2
      intro z
      have := pw_inj (congrArg Prod.snd z : pw (j + 1 + i) = pw j)
      omega
    obtain ⟨L', e1, e2, e3⟩ := grw_some d h'
    refine ⟨L', ?_, ?_, e3.trans List.erase_sublist⟩
    · show (if _ then _ else _) = _
      rw [if_pos h0]
      exact e1
    · rw [ups_cons]
      exact (List.perm_cons_erase h0.2).trans (List.Perm.cons _ e2)
theorem grw_none : ∀ (d : Nat) {L : List Pc} {a : Int} {j : Nat}, grw d L a j = none → ∃ i, i < d ∧ ¬ (twin a (pw (j + i)) = a + pw (j + i) ∧ (a + pw (j + i), pw (j + i)) ∈ L)
  | 0, L, a, j, h => by cases h
  | d + 1, L, a, j, h => by
    have h' : (if twin a (pw j) = a + pw j ∧ (a + pw j, pw j) ∈ L then grw d (L.erase (a + pw j, pw j)) a (j + 1) else none) = none := h
    by_cases c : twin a (pw j) = a + pw j ∧ (a + pw j, pw j) ∈ L
    · rw [if_pos c] at h'
      obtain ⟨i, hi, g⟩ := grw_none d h'
      refine ⟨i + 1, Nat.succ_lt_succ hi, fun z => g ?_⟩
      have e : j + (i + 1) = j + 1 + i := by omega
      rw [e] at z
      refine ⟨z.1, (List.mem_erase_of_ne ?_).mpr z.2⟩
      intro q
      have := pw_inj (congrArg Prod.snd q : pw (j + 1 + i) = pw j)
      omega
    · exact ⟨0, Nat.succ_pos _, by rw [Nat.add_zero]; exact c⟩
/-- room for a larger piece where it stands -/
def Fits {k : Nat} (t : T k) (b a : Int) (j m : Nat) : Prop := pw m ∣ a ∧ a + pw m ≤ b + pw k ∧ ∀ p ∈ outs t b, p ≠ (a, pw j) → ¬ (p.1 < a + pw m ∧ a < p.1 + p.2)
theorem all_eq_one {l : List Pc} {p : Pc} (hn : l.Nodup) (hp : p ∈ l) (h : ∀ q ∈ l, q = p) : l = [p] := by
  cases l with
  | nil => cases hp
  | cons x l =>
    have ex := h x List.mem_cons_self
    subst ex
    cases l with
    | nil => rfl
    | cons y l =>
      have ey := h y (List.mem_cons_of_mem _ List.mem_cons_self)
      rw [ey] at hn
      exact absurd List.mem_cons_self (List.nodup_cons.mp hn).1
theorem fits_at : ∀ {k : Nat} (t : T k) {b a : Int} {j d : Nat}, Can t → pw k ∣ b → 0 < d → (a, pw j) ∈ outs t b → j + d ≤ k → Fits t b a j (j + d) → At t b (spine j d) a
  | _, .free, b, a, j, d, _, _, _, h, _, _ => by cases h
  | k, .out, b, a, j, d, _, _, hd, h, hk, _ => by
    have e := List.mem_singleton.mp h
    have := pw_inj (congrArg Prod.snd e : pw j = pw k)
    omega
  | k + 1, .node l r, b, a, j, d, hc, hb, hd, h, hk, ⟨f1, f2, f3⟩ => by
    have pk := pw_pos k
    have pk1 := pw_succ k
    rcases Nat.lt_or_ge k (j + d) with q | q
    · -- the whole
      have ed : j + d = k + 1 := by omega
      have i := in_outs (.node l r) hb h
      have i1 := i.1
      simp only at i1
      rw [ed] at f2
      have ea : a = b := by omega
      subst ea
      have hone : outs (.node l r) a = [(a, pw j)] := by
        refine all_eq_one (nodup_outs _ hb) h fun p hp => ?_
        refine Classical.byContradiction fun np => f3 p hp np ?_
        have i := in_outs (.node l r) hb hp
        have p0 := i.pos
        have i1 := i.1
        have i2 := i.2.1
        rw [ed]
        omega
      obtain ⟨d', e, et⟩ := spine_of (.node l r) hc hb hone
      have e2 : d' = d := by omega
      subst e2
      have key : ∀ (n : Nat) (t : T n) (e : j + d' = n), t = e ▸ spine j d' → At t a (spine j d') a := by
        intro n t e et
        subst e
        rw [et]
        exact .here _ _
      exact key _ _ e et
    · have hdv : pw (j + d) ∣ pw k := pw_dvd q
      rcases List.mem_append.mp h with g | g
      · refine .left (fits_at l hc.1 (dvd_left hb) hd g q ⟨f1, ?_, fun p hp => f3 p (List.mem_append_left _ hp)⟩)
        have i := in_outs l (dvd_left hb) g
        have p0 := i.pos
        have i2 := i.2.1
        simp only at i2 p0
        exact mul_gap (pw_pos _) f1 (Int.dvd_trans hdv (dvd_right hb)) (by omega)
      · refine .right (fits_at r hc.2.1 (dvd_right hb) hd g q ⟨f1, ?_, fun p hp => f3 p (List.mem_append_right _ hp)⟩)
        omega
theorem fits_ups {k : Nat} {t : T k} {b a : Int} {j d : Nat} (hc : Can t) (hb : pw k ∣ b) (hd : 0 < d) (h : (a, pw j) ∈ outs t b) (hk : j + d ≤ k) (hf : Fits t b a j (j + d)) :
    ∀ i, i < d → twin a (pw (j + i)) = a + pw (j + i) ∧ (a + pw (j + i), pw (j + i)) ∈ frees t b := by
  intro i hi
  have hat := fits_at t hc hb hd h hk hf
  obtain ⟨t', c', f', L, R, L', R', e1, e2, e3, e4⟩ := hat.put hc (.out) trivial rfl
  refine ⟨twin_left (Int.dvd_trans (pw_dvd (by omega)) hf.1), ?_⟩
  rw [e1, spine_frees]
  exact List.mem_append_left _ (List.mem_append_right _ (mem_ups.mpr ⟨i, hi, rfl⟩))
theorem ups_fits {k : Nat} {t : T k} {b a : Int} {j d : Nat} (hb : pw k ∣ b) (hd : 0 < d) (h : (a, pw j) ∈ outs t b)
    (hu : ∀ i, i < d → twin a (pw (j + i)) = a + pw (j + i) ∧ (a + pw (j + i), pw (j + i)) ∈ frees t b) : Fits t b a j (j + d) := by
  have ia := in_outs t hb h
  have hdiv : ∀ i, i ≤ d → pw (j + i) ∣ a := by
    intro i
    induction i with
    | zero =>
      intro _
      obtain ⟨_, _, j', _, e, g⟩ := ia
      have := pw_inj (show pw j = pw j' from e)
      subst this
      exact g
    | succ i ih =>
      intro hi
      exact (twin_eq_iff (ih (by omega))).mp (hu i (by omega)).1
  refine ⟨hdiv d (Nat.le_refl _), ?_, fun p hp np hx => ?_⟩
  · obtain ⟨e, rfl⟩ : ∃ e, d = e + 1 := ⟨d - 1, by omega⟩
    have g := (in_frees t hb (hu e (by omega)).2).2.1
    simp only at g
    have := pw_succ (j + e)
    rw [show j + (e + 1) = j + e + 1 by omega]
    omega
  · have ip := in_outs t hb hp
    have p0 := ip.pos
    have hne : p.1 + p.2 ≤ a ∨ a + pw j ≤ p.1 := by
      have hap := ahead_outs t hb
      have key : ∀ {l : List Pc}, l.Pairwise Ahead → ∀ x ∈ l, ∀ y ∈ l, x ≠ y → Ahead x y ∨ Ahead y x := by
        intro l hl
        induction l with
        | nil => intro x hx; cases hx
        | cons z l ih =>
          have ⟨h1, h2⟩ := List.pairwise_cons.mp hl
          intro x hx y hy ne
          rcases List.mem_cons.mp hx with rfl | hx1
          · rcases List.mem_cons.mp hy with rfl | hy1
            · exact absurd rfl ne
            · exact .inl (h1 y hy1)
          · rcases List.mem_cons.mp hy with rfl | hy1
            · exact .inr (h1 x hx1)
            · exact ih h2 x hx1 y hy1 ne
      have := key hap p hp (a, pw j) h np
      unfold Ahead at this
      simp only at this
      exact this
    have step : ∀ i, i ≤ d → a + pw (j + i) ≤ p.1 := by
      intro i
      induction i with
      | zero => intro _; rw [Nat.add_zero]; omega
      | succ i ih =>
        intro hi
        have g := ih (by omega)
        have := apart t hb p hp _ (hu i (by omega)).2
        unfold Ahead at this
        simp only at this
        have := pw_succ (j + i)
        rw [show j + (i + 1) = j + i + 1 by omega]
        omega
    have := step d (Nat.le_refl _)
    omega
theorem grow_tree {k : Nat} {t : T k} {b a : Int} {j d : Nat} (hc : Can t) (hb : pw k ∣ b) (hd : 0 < d) (h : (a, pw j) ∈ outs t b) (hk : j + d ≤ k) :
    (Fits t b a j (j + d) ∧ ∃ t' : T k, Can t' ∧ grw d (frees t b) a j = some (frees t' b) ∧ (outs t' b).Perm ((a, pw (j + d)) :: (outs t b).erase (a, pw j))) ∨
    (¬ Fits t b a j (j + d) ∧ grw d (frees t b) a j = none) := by
  by_cases c : Fits t b a j (j + d)
  · left
    refine ⟨c, ?_⟩
    have hat := fits_at t hc hb hd h hk c
    obtain ⟨t', c', f', L, R, L', R', e1, e2, e3, e4⟩ := hat.put hc (.out) trivial rfl
    obtain ⟨G, g1, g2, g3⟩ := grw_some d (fits_ups hc hb hd h hk c)
    have eG : G = frees t' b := by
      refine srt_uniq ((srt_frees t hb).sublist g3) (srt_frees t' hb) ?_
      have e2' : frees t' b = L ++ R := by rw [e2]; show L ++ [] ++ R = _; simp
      rw [e2']
      rw [e1, spine_frees] at g2
      have g4 : (ups a j d ++ G).Perm (ups a j d ++ (L ++ R)) := by
        refine g2.symm.trans ?_
        rw [← List.append_assoc]
        exact List.Perm.append_right _ List.perm_append_comm
      exact (List.perm_append_left_iff _).mp g4
    refine ⟨t', c', by rw [g1, eG], ?_⟩
    have e4' : outs t' b = L' ++ (a, pw (j + d)) :: R' := by rw [e4]; show L' ++ [(a, pw (j + d))] ++ R' = _; simp
    have e3' : outs t b = L' ++ (a, pw j) :: R' := by rw [e3, spine_outs]; simp
    have hm : (outs t b).Perm ((a, pw j) :: (L' ++ R')) := by rw [e3']; exact List.perm_middle
    have he := hm.erase (a, pw j)
    rw [List.erase_cons_head] at he
    rw [e4']
    exact List.perm_middle.trans (List.Perm.cons _ he.symm)
  · right
    refine ⟨c, ?_⟩
    cases e : grw d (frees t b) a j with
    | none => rfl
    | some G =>
      exfalso
      refine c (ups_fits hb hd h fun i hi => ?_)
      have hall : ∀ (d : Nat) (L : List Pc) (j : Nat) (G : List Pc), grw d L a j = some G → ∀ i, i < d → twin a (pw (j + i)) = a + pw (j + i) ∧ (a + pw (j + i), pw (j + i)) ∈ L := by
        intro d
        induction d with
        | zero => intro L j G _ i hi; exact absurd hi (Nat.not_lt_zero i)
        | succ d ih =>
          intro L j G e i hi
          have e' : (if twin a (pw j) = a + pw j ∧ (a + pw j, pw j) ∈ L then grw d (L.erase (a + pw j, pw j)) a (j + 1) else none) = some G := e
          by_cases c : twin a (pw j) = a + pw j ∧ (a + pw j, pw j) ∈ L
          · rw [if_pos c] at e'
            cases i with
            | zero => rw [Nat.add_zero]; exact c
            | succ i =>
              have g := ih _ _ _ e' i (by omega)
              rw [show j + (i + 1) = j + 1 + i by omega]
              exact ⟨g.1, List.mem_of_mem_erase g.2⟩
          · rw [if_neg c] at e'
            cases e'
      exact hall d _ j G e i hi

/-! ### a tree is told by what is out -/
theorem outs_uniq : ∀ {k : Nat} (t u : T k) {b : Int}, Can t → Can u → pw k ∣ b → outs t b = outs u b → t = u
  | k, .free, u, b, _, hu, _, h => (free_of_isFree (free_of_noOuts u b hu h.symm)).symm
  | k, t, .free, b, ht, _, _, h => free_of_isFree (free_of_noOuts t b ht h)
  | k, .out, .out, b, _, _, _, _ => rfl
  | k + 1, .out, .node l r, b, _, _, hb, h => by
    exfalso
    have h' : [((b, pw (k + 1)) : Pc)] = outs l b ++ outs r (b + pw k) := h
    have m : ((b, pw (k + 1)) : Pc) ∈ outs l b ++ outs r (b + pw k) := by rw [← h']; exact List.mem_singleton.mpr rfl
    rcases List.mem_append.mp m with g | g
    · obtain ⟨i, hi, e, _⟩ := (in_outs l (dvd_left hb) g).2.2
      have := pw_inj e
      omega
    · obtain ⟨i, hi, e, _⟩ := (in_outs r (dvd_right hb) g).2.2
      have := pw_inj e
      omega
  | k + 1, .node l r, .out, b, _, _, hb, h => by
    exfalso
    have h' : outs l b ++ outs r (b + pw k) = [((b, pw (k + 1)) : Pc)] := h
    have m : ((b, pw (k + 1)) : Pc) ∈ outs l b ++ outs r (b + pw k) := by rw [h']; exact List.mem_singleton.mpr rfl
    rcases List.mem_append.mp m with g | g
    · obtain ⟨i, hi, e, _⟩ := (in_outs l (dvd_left hb) g).2.2
      have := pw_inj e
      omega
    · obtain ⟨i, hi, e, _⟩ := (in_outs r (dvd_right hb) g).2.2
      have := pw_inj e
      omega
  | k + 1, .node l r, .node l' r', b, ht, hu, hb, h => by
    have h' : outs l b ++ outs r (b + pw k) = outs l' b ++ outs r' (b + pw k) := h
    have fl : ∀ (x y : T k), (outs x b ++ outs y (b + pw k)).filter (fun p => decide (p.1 < b + pw k)) = outs x b := by
      intro x y
      rw [List.filter_append]
      have h1 : (outs x b).filter (fun p => decide (p.1 < b + pw k)) = outs x b := List.filter_eq_self.mpr fun p hp => by
        have i := in_outs x (dvd_left hb) hp
        have := i.pos
        have := i.2.1
        exact decide_eq_true (by omega)
      have h2 : (outs y (b + pw k)).filter (fun p => decide (p.1 < b + pw k)) = [] := List.filter_eq_nil_iff.mpr fun p hp => by
        have i := (in_outs y (dvd_right hb) hp).1
        simp only [decide_eq_true_eq]
        omega
      rw [h1, h2, List.append_nil]
    have e1 : outs l b = outs l' b := by rw [← fl l r, ← fl l' r', h']
    have e2 : outs r (b + pw k) = outs r' (b + pw k) := by
      rw [e1] at h'
      exact List.append_cancel_left h'
    rw [outs_uniq l l' ht.1 hu.1 (dvd_left hb) e1, outs_uniq r r' ht.2.1 hu.2.1 (dvd_right hb) e2]
theorem tree_uniq {k : Nat} {t u : T k} (ht : Can t) (hu : Can u) (h : (outs t 0).Perm (outs u 0)) : t = u :=
  outs_uniq t u ht hu (zdvd k) (srt_uniq (srt_outs t (zdvd k)) (srt_outs u (zdvd k)) h)
end Bud
namespace Bud
/-- there are not many more free pieces than pieces that are out -/
theorem frees_few : ∀ {k : Nat} (t : T k) (b : Int), Can t → (frees t b).length ≤ k * (outs t b).length + 1 ∧ (isFree t = false → (frees t b).length ≤ k * (outs t b).length)
  | k, .free, b, _ => ⟨by show 1 ≤ _; omega, fun h => by cases h⟩
  | k, .out, b, _ => ⟨Nat.zero_le _, fun _ => Nat.zero_le _⟩
  | k + 1, .node l r, b, h => by
    obtain ⟨l1, l2⟩ := frees_few l b h.1
    obtain ⟨r1, r2⟩ := frees_few r (b + pw k) h.2.1
    have key : (frees l b ++ frees r (b + pw k)).length ≤ (k + 1) * (outs l b ++ outs r (b + pw k)).length := by
      rw [List.length_append, List.length_append]
      generalize hfl : (frees l b).length = fl at *
      generalize hfr : (frees r (b + pw k)).length = fr at *
      generalize hol : (outs l b).length = ol at *
      generalize hor : (outs r (b + pw k)).length = or at *
      have e : (k + 1) * (ol + or) = k * ol + k * or + ol + or := by rw [Nat.add_mul, Nat.one_mul, Nat.mul_add]; omega
      rw [e]
      cases hl : isFree l with
      | false =>
        have := l2 hl
        cases hr : isFree r with
        | false =>
          have := r2 hr
          omega
        | true =>
          have : 0 < ol := by
            rw [← hol]
            refine List.length_pos_iff.mpr fun q => ?_
            have := free_of_noOuts l b h.1 q
            rw [hl] at this
            cases this
          omega
      | true =>
        cases hr : isFree r with
        | true => exact absurd ⟨hl, hr⟩ h.2.2
        | false =>
          have := r2 hr
          have : 0 < or := by
            rw [← hor]
            refine List.length_pos_iff.mpr fun q => ?_
            have := free_of_noOuts r (b + pw k) h.2.1 q
            rw [hr] at this
            cases this
          omega
    exact ⟨Nat.le_succ_of_le key, fun _ => key⟩
/-- the free pieces where just one, at the lower end, is out -/
theorem spine_frees_of {k : Nat} {t : T k} {b : Int} {j : Nat} (hc : Can t) (hb : pw k ∣ b) (h : outs t b = [(b, pw j)]) : frees t b = ups b j (k - j) := by
  obtain ⟨d, e, et⟩ := spine_of t hc hb h
  subst e
  rw [et, Nat.add_sub_cancel_left]
  exact spine_frees j b d
theorem perm_one {p : Pc} {l : List Pc} (h : l.Perm [p]) : l = [p] := List.perm_singleton.mp h
theorem perm_one_nil {p : Pc} {l : List Pc} {q : Pc} (h : ([p] : List Pc).Perm (q :: l)) : q = p ∧ l = [] := by
  have e := List.perm_singleton.mp h.symm
  exact ⟨(List.cons.inj e).1, (List.cons.inj e).2⟩
theorem free_of_nil {k : Nat} {t : T k} (hc : Can t) (h : outs t 0 = []) : t = .free := free_of_isFree (free_of_noOuts t 0 hc h)
end Bud

set_option linter.all false
namespace Bud
/-! ### the cells of all pieces -/
def sizes (l : List Pc) : Int := (l.map (·.2)).sum
theorem sizes_nil : sizes [] = 0 := rfl
theorem sizes_cons (p : Pc) (l : List Pc) : sizes (p :: l) = p.2 + sizes l := by
  unfold sizes
  rw [List.map_cons, List.sum_cons]
theorem sizes_append (l m : List Pc) : sizes (l ++ m) = sizes l + sizes m := by
  induction l with
  | nil => rw [List.nil_append, sizes_nil, Int.zero_add]
  | cons p l ih => rw [List.cons_append, sizes_cons, sizes_cons, ih]; omega
theorem sizes_perm {l m : List Pc} (h : l.Perm m) : sizes l = sizes m := by
  induction h with
  | nil => rfl
  | cons x _ ih => rw [sizes_cons, sizes_cons, ih]
  | swap x y l => rw [sizes_cons, sizes_cons, sizes_cons, sizes_cons]; omega
  | trans _ _ h1 h2 => rw [h1, h2]
theorem sizes_all : ∀ {k : Nat} (t : T k) (b : Int), sizes (outs t b) + sizes (frees t b) = pw k
  | k, .free, b => by
    show sizes [] + sizes [(b, pw k)] = pw k
    rw [sizes_cons, sizes_nil]
    show 0 + (pw k + 0) = pw k
    omega
  | k, .out, b => by
    show sizes [(b, pw k)] + sizes [] = pw k
    rw [sizes_cons, sizes_nil]
    show pw k + 0 + 0 = pw k
    omega
  | k + 1, .node l r, b => by
    show sizes (outs l b ++ outs r (b + pw k)) + sizes (frees l b ++ frees r (b + pw k)) = pw (k + 1)
    rw [sizes_append, sizes_append, pw_succ]
    have h1 := sizes_all l b
    have h2 := sizes_all r (b + pw k)
    omega
theorem sizes_ones {l : List Pc} (h : ∀ p ∈ l, p.2 = 1) : sizes l = l.length := by
  induction l with
  | nil => rfl
  | cons p l ih =>
    rw [sizes_cons, ih fun q hq => h q (List.mem_cons_of_mem _ hq), h p List.mem_cons_self, List.length_cons]
    omega
/-- one cell more is free where fewer cells are out than there are -/
theorem best_one {k : Nat} {t : T k} (h : sizes (outs t 0) < pw k) : ∃ a S, bestOf (frees t 0) 1 = some (a, S) := by
  cases e : bestOf (frees t 0) 1 with
  | some p => exact ⟨p.1, p.2, rfl⟩
  | none =>
    exfalso
    have hn := best_none.mp e
    have hf : frees t 0 = [] := by
      cases ef : frees t 0 with
      | nil => rfl
      | cons p l =>
        have hm : p ∈ frees t 0 := by rw [ef]; exact List.mem_cons_self
        have h1 := hn p hm
        have h2 := (in_frees t (zdvd k) hm).pos
        omega
    have := sizes_all t 0
    rw [hf, sizes_nil] at this
    omega
/-! ### every second -/
def evens : List Pc → List Pc
  | [] => []
  | [p] => [p]
  | p :: _ :: l => p :: evens l
def odds : List Pc → List Pc
  | [] => []
  | [_] => []
  | _ :: q :: l => q :: odds l
theorem evens_odds : ∀ l : List Pc, l.Perm (evens l ++ odds l)
  | [] => List.Perm.refl _
  | [p] => List.Perm.refl _
  | p :: q :: l => by
    show (p :: q :: l).Perm (p :: (evens l ++ q :: odds l))
    refine List.Perm.cons _ ?_
    exact ((evens_odds l).cons q).trans List.perm_middle.symm
theorem odds_len : ∀ l : List Pc, (odds l).length = l.length / 2
  | [] => rfl
  | [p] => by show 0 = 1 / 2; decide
  | p :: q :: l => by
    show (odds l).length + 1 = (l.length + 2) / 2
    rw [odds_len l]
    omega
theorem odds_at : ∀ (l : List Pc) (i : Nat), (odds l)[i]? = l[2 * i + 1]?
  | [], i => by simp [odds]
  | [p], i => by simp [odds]
  | p :: q :: l, 0 => rfl
  | p :: q :: l, i + 1 => by
    show (odds l)[i]? = (p :: q :: l)[2 * (i + 1) + 1]?
    rw [odds_at l i, show 2 * (i + 1) + 1 = (2 * i + 1) + 1 + 1 by omega, List.getElem?_cons_succ, List.getElem?_cons_succ]
/-- those at even places among the first i -/
def evTo (l : List Pc) (i : Nat) : List Pc := evens (l.take i)
theorem evens_snoc : ∀ (l : List Pc) (p : Pc), evens (l ++ [p]) = evens l ++ (if l.length % 2 = 0 then [p] else [])
  | [], p => rfl
  | [q], p => rfl
  | q :: r :: l, p => by
    show q :: evens (l ++ [p]) = q :: (evens l ++ _)
    rw [evens_snoc l p]
    have e : (q :: r :: l).length % 2 = l.length % 2 := by
      show (l.length + 2) % 2 = l.length % 2
      omega
    rw [e]
theorem evTo_succ {l : List Pc} {i : Nat} {p : Pc} (h : l[i]? = some p) : evTo l (i + 1) = evTo l i ++ (if i % 2 = 0 then [p] else []) := by
  unfold evTo
  rw [List.take_add_one, h]
  show evens (l.take i ++ [p]) = _
  rw [evens_snoc]
  have hl : i < l.length := (List.getElem?_eq_some_iff.mp h).1
  have e : (l.take i).length = i := by rw [List.length_take]; omega
  rw [e]
theorem evTo_all (l : List Pc) : evTo l l.length = evens l := by
  unfold evTo
  rw [List.take_length]
/-! ### another size -/
/-- the piece (a, s) may have the size z -/
def Fits2 {k : Nat} (t : T k) (a s z : Int) : Prop := z ∣ a ∧ a + z ≤ pw k ∧ ∀ p ∈ outs t 0, p ≠ (a, s) → ¬ (p.1 < a + z ∧ a < p.1 + p.2)
theorem fits_iff {k : Nat} {t : T k} {a : Int} {j m : Nat} : Fits t 0 a j m ↔ Fits2 t a (pw j) (pw m) := by
  unfold Fits Fits2
  rw [Int.zero_add]
theorem key_uniq {k : Nat} {t : T k} {a s r : Int} (h : (a, s) ∈ outs t 0) (h' : (a, r) ∈ outs t 0) : s = r := by
  have := fst_inj_of_ahead (ahead_outs t (zdvd k)) (fun p hp => (in_outs t (zdvd k) hp).pos) _ h _ h' rfl
  exact congrArg Prod.snd this
/-- two pieces that are out share no cell -/
theorem outs_apart {k : Nat} {t : T k} {p q : Pc} (hp : p ∈ outs t 0) (hq : q ∈ outs t 0) (hne : p ≠ q) : p.1 + p.2 ≤ q.1 ∨ q.1 + q.2 ≤ p.1 := by
  have key : ∀ {l : List Pc}, l.Pairwise Ahead → ∀ x ∈ l, ∀ y ∈ l, x ≠ y → Ahead x y ∨ Ahead y x := by
    intro l hl
    induction l with
    | nil => intro x hx; cases hx
    | cons z l ih =>
      have ⟨h1, h2⟩ := List.pairwise_cons.mp hl
      intro x hx y hy ne
      rcases List.mem_cons.mp hx with rfl | hx1
      · rcases List.mem_cons.mp hy with rfl | hy1
        · exact absurd rfl ne
        · exact .inl (h1 y hy1)
      · rcases List.mem_cons.mp hy with rfl | hy1
        · exact .inr (h1 x hx1)
        · exact ih h2 x hx1 y hy1 ne
  exact key (ahead_outs t (zdvd k)) p hp q hq hne
/-- a smaller size always fits -/
theorem fits_small {k : Nat} {t : T k} {a : Int} {j m : Nat} (h : (a, pw j) ∈ outs t 0) (hm : m ≤ j) : Fits2 t a (pw j) (pw m) := by
  obtain ⟨h0, h1, j', _, e, hd⟩ := in_outs t (zdvd k) h
  have ej := pw_inj (show pw j = pw j' from e)
  subst ej
  have hle := pw_le hm
  simp only at h1
  refine ⟨Int.dvd_trans (pw_dvd hm) hd, by omega, fun p hp hne hx => ?_⟩
  have := outs_apart hp h hne
  simp only at this
  omega
/-- the free pieces without the upper twins that are wanted, or not -/
def regrow (L : List Pc) (a : Int) (j m : Nat) : Option (List Pc) := grw (m - j) L a j
end Bud
namespace Bud
theorem row_ge : ∀ {l : List Pc} {b c : Int}, Row l b c → (∀ p ∈ l, 0 < p.2) → ∀ p ∈ l, b ≤ p.1
  | [], _, _, _, _, p, hp => by cases hp
  | q :: l, b, c, h, hp, p, hm => by
    have h0 := hp q List.mem_cons_self
    have e := h.1
    rcases List.mem_cons.mp hm with rfl | hm
    · omega
    · have := row_ge h.2 (fun p hp' => hp p (List.mem_cons_of_mem _ hp')) p hm
      omega
theorem row_srt : ∀ {l : List Pc} {b c : Int}, Row l b c → (∀ p ∈ l, 0 < p.2) → Srt l
  | [], _, _, _, _ => List.Pairwise.nil
  | q :: l, b, c, h, hp => by
    have h0 := hp q List.mem_cons_self
    have hp' := fun p hp' => hp p (List.mem_cons_of_mem _ hp')
    refine List.Pairwise.cons (fun p hm => ?_) (row_srt h.2 hp')
    have := row_ge h.2 hp' p hm
    have e := h.1
    unfold lexle
    omega
/-- all the pieces, sorted, stand side by side -/
theorem side_row {k : Nat} {t : T k} {M : List Pc} (hs : Srt M) (hp : M.Perm (outs t 0 ++ frees t 0)) : Row M 0 (pw k) := by
  have hr := pcs_row t 0
  have hpm := pcs_perm t 0
  have hpos : ∀ p ∈ (pcs t 0).map (·.1), 0 < p.2 := fun p hm => by
    rcases List.mem_append.mp (hpm.mem_iff.mp hm) with h | h
    · exact (in_outs t (Int.dvd_zero _) h).pos
    · exact (in_frees t (Int.dvd_zero _) h).pos
  have e : M = (pcs t 0).map (·.1) := srt_uniq hs (row_srt hr hpos) (hp.trans hpm.symm)
  rw [e]
  have : (0 : Int) + pw k = pw k := by omega
  rw [this] at hr
  exact hr
end Bud

set_option Elab.async false
set_option linter.all false
/-! Counting blocks. -/
namespace Bud
/-- how many blocks of the size s the pieces of at least s cover -/
def cov (L : List Pc) (s : Int) : Int := ((L.filter fun p => decide (s ≤ p.2)).map fun p => p.2 / s).sum
theorem cov_nil (s : Int) : cov [] s = 0 := rfl
theorem cov_cons (p : Pc) (L : List Pc) (s : Int) : cov (p :: L) s = (if s ≤ p.2 then p.2 / s else 0) + cov L s := by
  unfold cov
  by_cases h : s ≤ p.2
  · rw [List.filter_cons_of_pos (by simpa using h), if_pos h, List.map_cons, List.sum_cons]
  · rw [List.filter_cons_of_neg (by simpa using h), if_neg h, Int.zero_add]
theorem cov_append (L M : List Pc) (s : Int) : cov (L ++ M) s = cov L s + cov M s := by
  unfold cov
  rw [List.filter_append, List.map_append, List.sum_append]
theorem cov_perm {L M : List Pc} (h : L.Perm M) (s : Int) : cov L s = cov M s := by
  induction h with
  | nil => rfl
  | cons x _ ih => rw [cov_cons, cov_cons, ih]
  | swap x y l => rw [cov_cons, cov_cons, cov_cons, cov_cons]; omega
  | trans _ _ h1 h2 => rw [h1, h2]
theorem cov_small {L : List Pc} {s : Int} (h : ∀ p ∈ L, p.2 < s) : cov L s = 0 := by
  induction L with
  | nil => rfl
  | cons p L ih =>
    have h1 := h p List.mem_cons_self
    rw [cov_cons, if_neg (by omega), ih fun q hq => h q (List.mem_cons_of_mem _ hq), Int.zero_add]
theorem div_ge_one {a s : Int} (hs : 0 < s) (h : s ≤ a) : 1 ≤ a / s := (Int.le_ediv_iff_mul_le hs).mpr (by omega)
theorem cov_nonneg {L : List Pc} {s : Int} (hs : 0 < s) : 0 ≤ cov L s := by
  induction L with
  | nil => exact Int.le_refl _
  | cons p L ih =>
    rw [cov_cons]
    split
    · have := div_ge_one hs (a := p.2) (by assumption)
      omega
    · omega
theorem cov_zero {L : List Pc} {s : Int} (hs : 0 < s) (h : cov L s = 0) : ∀ p ∈ L, p.2 < s := by
  induction L with
  | nil => intro p hp; cases hp
  | cons q L ih =>
    rw [cov_cons] at h
    have h0 := cov_nonneg (L := L) hs
    by_cases c : s ≤ q.2
    · rw [if_pos c] at h
      have := div_ge_one hs c
      omega
    · rw [if_neg c] at h
      intro p hp
      rcases List.mem_cons.mp hp with rfl | hp
      · omega
      · exact ih (by omega) p hp
theorem pw_div {k m : Nat} (h : m ≤ k) : pw k / pw m = pw (k - m) := by
  have e : pw k = pw m * pw (k - m) := by rw [← pw_add, show m + (k - m) = k by omega]
  rw [e, Int.mul_ediv_cancel_left _ (Int.ne_of_gt (pw_pos m))]
theorem div_block {s a b : Int} (hs : 0 < s) (hb : s ∣ b) (h1 : b ≤ a) (h2 : a < b + s) : a / s = b / s := by
  obtain ⟨c, rfl⟩ := hb
  rw [Int.mul_ediv_cancel_left _ (Int.ne_of_gt hs)]
  refine Int.le_antisymm ?_ ((Int.le_ediv_iff_mul_le hs).mpr (by rw [Int.mul_comm]; exact h1))
  have : a / s < c + 1 := (Int.ediv_lt_iff_lt_mul hs).mpr (by rw [Int.add_mul, Int.mul_comm c]; omega)
  omega
theorem count : ∀ {k : Nat} (t : T k) {b : Int} {m : Nat}, Can t → pw k ∣ b → m ≤ k →
    ∃ B : List Int, B.Nodup ∧ (∀ x, x ∈ B ↔ ∃ p ∈ outs t b, p.2 < pw m ∧ p.1 / pw m = x) ∧ cov (frees t b) (pw m) + cov (outs t b) (pw m) + B.length = pw (k - m)
  | k, .free, b, m, _, hb, hm => by
    refine ⟨[], List.nodup_nil, fun x => ⟨fun h => (by cases h), fun ⟨p, hp, _⟩ => (by cases hp)⟩, ?_⟩
    show cov [(b, pw k)] (pw m) + cov [] (pw m) + 0 = _
    rw [cov_cons, if_pos (pw_le hm), cov_nil, pw_div hm]
    omega
  | k, .out, b, m, _, hb, hm => by
    refine ⟨[], List.nodup_nil, fun x => ⟨fun h => (by cases h), fun ⟨p, hp, h, _⟩ => ?_⟩, ?_⟩
    · rw [List.mem_singleton.mp hp] at h
      have := pw_le hm
      simp only at h
      omega
    · show cov [] (pw m) + cov [(b, pw k)] (pw m) + 0 = _
      rw [cov_cons, if_pos (pw_le hm), cov_nil, pw_div hm]
      omega
  | k + 1, .node l r, b, m, hc, hb, hm => by
    have hp := pw_pos m
    by_cases e : m = k + 1
    · subst e
      have small : ∀ p, p ∈ outs (.node l r) b ∨ p ∈ frees (.node l r) b → p.2 < pw (k + 1) := fun p h => by
        have hle : ∀ {j : Nat}, j ≤ k → pw j < pw (k + 1) := fun h => pw_lt (by omega)
        rcases h with h | h
        · rcases List.mem_append.mp h with h | h
          · obtain ⟨_, _, j, hj, e, _⟩ := in_outs l (dvd_left hb) h
            rw [e]; exact hle hj
          · obtain ⟨_, _, j, hj, e, _⟩ := in_outs r (dvd_right hb) h
            rw [e]; exact hle hj
        · rcases List.mem_append.mp h with h | h
          · obtain ⟨_, _, j, hj, e, _⟩ := in_frees l (dvd_left hb) h
            rw [e]; exact hle hj
          · obtain ⟨_, _, j, hj, e, _⟩ := in_frees r (dvd_right hb) h
            rw [e]; exact hle hj
      have hne : outs (.node l r) b ≠ [] := fun z => by
        have := free_of_noOuts (.node l r) b hc z
        cases this
      refine ⟨[b / pw (k + 1)], List.nodup_cons.mpr ⟨List.not_mem_nil, List.nodup_nil⟩, fun x => ⟨fun h => ?_, fun ⟨p, hp, _, e⟩ => ?_⟩, ?_⟩
      · rw [List.mem_singleton.mp h]
        obtain ⟨p, hpm⟩ := List.exists_mem_of_ne_nil _ hne
        have hi := in_outs (.node l r) hb hpm
        exact ⟨p, hpm, small p (.inl hpm), div_block hp hb hi.1 (by have := hi.2.1; have := hi.pos; omega)⟩
      · have hi := in_outs (.node l r) hb hp
        rw [← e, div_block (pw_pos _) hb hi.1 (by have := hi.2.1; have := hi.pos; omega)]
        exact List.mem_singleton.mpr rfl
      · rw [cov_small fun p h => small p (.inr h), cov_small fun p h => small p (.inl h), Nat.sub_self]
        rfl
    · have hm' : m ≤ k := by omega
      obtain ⟨B1, n1, m1, e1⟩ := count l (m := m) hc.1 (dvd_left hb) hm'
      obtain ⟨B2, n2, m2, e2⟩ := count r (m := m) hc.2.1 (dvd_right hb) hm'
      have hbm : pw m ∣ b + pw k := Int.dvd_trans (pw_dvd hm') (dvd_right hb)
      have dis : ∀ x ∈ B1, ∀ y ∈ B2, x ≠ y := fun x hx y hy => by
        obtain ⟨p, hp1, _, rfl⟩ := (m1 x).mp hx
        obtain ⟨q, hq1, _, rfl⟩ := (m2 y).mp hy
        have i1 := in_outs l (dvd_left hb) hp1
        have i2 := in_outs r (dvd_right hb) hq1
        have h1 : p.1 / pw m < (b + pw k) / pw m := (Int.ediv_lt_iff_lt_mul hp).mpr (by
          rw [Int.ediv_mul_cancel hbm]
          have := i1.2.1
          have := i1.pos
          omega)
        have h2 : (b + pw k) / pw m ≤ q.1 / pw m := Int.ediv_le_ediv hp i2.1
        omega
      refine ⟨B1 ++ B2, List.nodup_append.mpr ⟨n1, n2, dis⟩, fun x => ?_, ?_⟩
      · rw [List.mem_append, m1, m2]
        show _ ↔ ∃ p ∈ outs l b ++ outs r (b + pw k), _
        constructor
        · rintro (⟨p, hp, h⟩ | ⟨p, hp, h⟩)
          · exact ⟨p, List.mem_append_left _ hp, h⟩
          · exact ⟨p, List.mem_append_right _ hp, h⟩
        · rintro ⟨p, hp, h⟩
          rcases List.mem_append.mp hp with hp | hp
          · exact .inl ⟨p, hp, h⟩
          · exact .inr ⟨p, hp, h⟩
      · show cov (frees l b ++ frees r (b + pw k)) (pw m) + cov (outs l b ++ outs r (b + pw k)) (pw m) + _ = _
        rw [cov_append, cov_append, List.length_append, show k + 1 - m = (k - m) + 1 by omega, pw_succ]
        omega
/-- the touched blocks and the covered ones -/
theorem touched {k : Nat} {t : T k} {m : Nat} {D : List Pc} {B : List Int} (hc : Can t) (hm : m ≤ k) (hD : D.Perm (outs t 0)) (hn : B.Nodup) (hB : ∀ x, x ∈ B ↔ ∃ p ∈ D, p.2 < pw m ∧ p.1 / pw m = x) :
    cov D (pw m) + B.length = pw k / pw m - cov (frees t 0) (pw m) := by
  obtain ⟨C, n1, m1, e1⟩ := count t (b := 0) hc (Int.dvd_zero _) hm
  have hp : B.Perm C := (List.perm_ext_iff_of_nodup hn n1).mpr fun x => by
    rw [hB, m1]
    exact ⟨fun ⟨p, hp, h⟩ => ⟨p, hD.mem_iff.mp hp, h⟩, fun ⟨p, hp, h⟩ => ⟨p, hD.mem_iff.mpr hp, h⟩⟩
  rw [hp.length_eq, cov_perm hD, pw_div hm]
  omega
/-- no piece for a wish -/
theorem room_iff {k : Nat} {t : T k} {w : Int} (hw : 1 ≤ w) : bestOf (frees t 0) w = none ↔ cov (frees t 0) (fit w) = 0 := by
  have hp : 0 < fit w := pw_pos _
  rw [best_none]
  constructor
  · intro h
    exact cov_small fun p hp => by
      have := h p hp
      have := fit_ge w
      omega
  · intro h p hpm
    have h1 := cov_zero hp h p hpm
    obtain ⟨_, _, j, hj, e, _⟩ := in_frees t (Int.dvd_zero _) hpm
    rw [e] at h1 ⊢
    have : ¬ w ≤ pw j := fun z => by
      have := fit_le_iff.mpr z
      omega
    omega
end Bud

set_option Elab.async false
set_option linter.all false
/-! Free pieces by what stands beside them. -/
namespace Bud
/-- the block beside -/
def nb (x : Int) : Int := x + 1 - 2 * (x % 2)
theorem nb_range {B N x : Int} (hB : B % 2 = 0) (hN : N % 2 = 0) (h1 : B ≤ x) (h2 : x < B + N) : B ≤ nb x ∧ nb x < B + N := by
  unfold nb
  omega
theorem nb_even {x : Int} (h : x % 2 = 0) : nb x = x + 1 := by unfold nb; omega
theorem nb_odd {x : Int} (h : x % 2 = 0) : nb (x + 1) = x := by unfold nb; omega
theorem blk_even {k j : Nat} {b : Int} (hb : pw k ∣ b) (h : j < k) : b / pw j % 2 = 0 := by
  have hp := pw_pos j
  obtain ⟨c, rfl⟩ := Int.dvd_trans (pw_dvd (show j + 1 ≤ k by omega)) hb
  rw [pw_succ, show 2 * pw j * c = pw j * (2 * c) by rw [Int.mul_comm 2, Int.mul_assoc], Int.mul_ediv_cancel_left _ (Int.ne_of_gt hp)]
  omega
theorem num_even {k j : Nat} (h : j < k) : pw (k - j) % 2 = 0 := by
  rw [show k - j = (k - j - 1) + 1 by omega, pw_succ]
  omega
theorem blk_range {k j : Nat} {b a : Int} (hb : pw k ∣ b) (h : j ≤ k) (h1 : b ≤ a) (h2 : a < b + pw k) : b / pw j ≤ a / pw j ∧ a / pw j < b / pw j + pw (k - j) := by
  have hp := pw_pos j
  have hbj : pw j ∣ b := Int.dvd_trans (pw_dvd h) hb
  refine ⟨Int.ediv_le_ediv hp h1, ?_⟩
  have e : b / pw j + pw (k - j) = (b + pw k) / pw j := by
    rw [Int.add_ediv_of_dvd_left hbj, pw_div h]
  rw [e]
  refine (Int.ediv_lt_iff_lt_mul hp).mpr ?_
  rw [Int.ediv_mul_cancel (Int.dvd_add hbj (pw_dvd h))]
  exact h2
theorem top_mem {k : Nat} {t : T k} {b a : Int} (hb : pw k ∣ b) : (a, pw k) ∈ frees t b ↔ isFree t = true ∧ a = b := by
  constructor
  · intro h
    have h1 := top_free hb h
    refine ⟨h1, ?_⟩
    have := free_of_isFree h1
    subst this
    exact congrArg Prod.fst (List.mem_singleton.mp h)
  · rintro ⟨h, rfl⟩
    exact free_mem h
theorem noOuts_of_free {k : Nat} {t : T k} (h : isFree t = true) (b : Int) : outs t b = [] := by
  rw [free_of_isFree h]
  rfl
theorem beside : ∀ {k : Nat} (t : T k) {b : Int} {j : Nat}, Can t → pw k ∣ b → j < k → ∀ a : Int,
    (a, pw j) ∈ frees t b ↔ ∃ p ∈ outs t b, p.2 ≤ pw j ∧ a = nb (p.1 / pw j) * pw j ∧ ∀ q ∈ outs t b, q.2 ≤ pw j → q.1 / pw j ≠ nb (p.1 / pw j)
  | k, .free, b, j, _, hb, hj, a => by
    constructor
    · intro h
      have e := congrArg Prod.snd (List.mem_singleton.mp h)
      have := pw_inj (show pw j = pw k from e)
      omega
    · rintro ⟨p, hp, _⟩
      cases hp
  | k, .out, b, j, _, hb, hj, a => by
    constructor
    · intro h
      cases h
    · rintro ⟨p, hp, h, _⟩
      rw [List.mem_singleton.mp hp] at h
      have := pw_lt hj
      simp only at h
      omega
  | k + 1, .node l r, b, j, hc, hb, hj, a => by
    have hp := pw_pos j
    have hbl := dvd_left hb
    have hbr := dvd_right hb
    by_cases e : j = k
    · subst e
      have hB : b / pw j % 2 = 0 := blk_even hb (by omega)
      have eb : b / pw j * pw j = b := Int.ediv_mul_cancel hbl
      have er : (b + pw j) / pw j = b / pw j + 1 := by
        rw [Int.add_ediv_of_dvd_left hbl, Int.ediv_self (Int.ne_of_gt hp)]
      have bl : ∀ p ∈ outs l b, p.1 / pw j = b / pw j := fun p h => by
        have i := in_outs l hbl h
        exact div_block hp hbl i.1 (by have := i.2.1; have := i.pos; omega)
      have br : ∀ p ∈ outs r (b + pw j), p.1 / pw j = b / pw j + 1 := fun p h => by
        have i := in_outs r hbr h
        rw [← er]
        exact div_block hp hbr i.1 (by have := i.2.1; have := i.pos; omega)
      have sz : ∀ p ∈ outs (.node l r) b, p.2 ≤ pw j := fun p h => by
        rcases List.mem_append.mp h with h | h
        · obtain ⟨_, _, i, hi, e, _⟩ := in_outs l hbl h
          rw [e]; exact pw_le hi
        · obtain ⟨_, _, i, hi, e, _⟩ := in_outs r hbr h
          rw [e]; exact pw_le hi
      have fl : isFree l = true ↔ outs l b = [] := ⟨fun h => noOuts_of_free h b, free_of_noOuts l b hc.1⟩
      have fr : isFree r = true ↔ outs r (b + pw j) = [] := ⟨fun h => noOuts_of_free h _, free_of_noOuts r _ hc.2.1⟩
      have e1 : nb (b / pw j) * pw j = b + pw j := by rw [nb_even hB, Int.add_mul, eb, Int.one_mul]
      have e2 : nb (b / pw j + 1) * pw j = b := by rw [nb_odd hB, eb]
      show (a, pw j) ∈ frees l b ++ frees r (b + pw j) ↔ _
      rw [List.mem_append, top_mem hbl, top_mem hbr]
      constructor
      · rintro (⟨h, rfl⟩ | ⟨h, rfl⟩)
        · have hr : outs r (a + pw j) ≠ [] := fun z => hc.2.2 ⟨h, fr.mpr z⟩
          obtain ⟨p, hpm⟩ := List.exists_mem_of_ne_nil _ hr
          refine ⟨p, List.mem_append_right _ hpm, sz p (List.mem_append_right _ hpm), ?_, fun q hq _ => ?_⟩
          · rw [br p hpm, e2]
          · rw [br p hpm, nb_odd hB]
            rcases List.mem_append.mp hq with hq | hq
            · rw [fl.mp h] at hq
              cases hq
            · rw [br q hq]
              omega
        · have hl : outs l b ≠ [] := fun z => hc.2.2 ⟨fl.mpr z, h⟩
          obtain ⟨p, hpm⟩ := List.exists_mem_of_ne_nil _ hl
          refine ⟨p, List.mem_append_left _ hpm, sz p (List.mem_append_left _ hpm), ?_, fun q hq _ => ?_⟩
          · rw [bl p hpm, e1]
          · rw [bl p hpm, nb_even hB]
            rcases List.mem_append.mp hq with hq | hq
            · rw [bl q hq]
              omega
            · rw [fr.mp h] at hq
              cases hq
      · rintro ⟨p, hpm, _, rfl, hn⟩
        rcases List.mem_append.mp hpm with h | h
        · right
          rw [bl p h] at hn ⊢
          refine ⟨fr.mpr (Classical.byContradiction fun z => ?_), e1⟩
          obtain ⟨q, hq⟩ := List.exists_mem_of_ne_nil _ z
          have := hn q (List.mem_append_right _ hq) (sz q (List.mem_append_right _ hq))
          rw [br q hq, nb_even hB] at this
          exact this rfl
        · left
          rw [br p h] at hn ⊢
          refine ⟨fl.mpr (Classical.byContradiction fun z => ?_), e2⟩
          obtain ⟨q, hq⟩ := List.exists_mem_of_ne_nil _ z
          have := hn q (List.mem_append_left _ hq) (sz q (List.mem_append_left _ hq))
          rw [bl q hq, nb_odd hB] at this
          exact this rfl
    · have hj' : j < k := by omega
      have hBl := blk_even hbl hj'
      have hBr := blk_even hbr hj'
      have hN := num_even hj'
      have er : (b + pw k) / pw j = b / pw j + pw (k - j) := by
        rw [Int.add_ediv_of_dvd_left (Int.dvd_trans (pw_dvd (by omega)) hbl), pw_div (by omega)]
      have rl : ∀ p ∈ outs l b, b / pw j ≤ p.1 / pw j ∧ p.1 / pw j < b / pw j + pw (k - j) := fun p h => by
        have i := in_outs l hbl h
        exact blk_range hbl (by omega) i.1 (by have := i.2.1; have := i.pos; omega)
      have rr : ∀ p ∈ outs r (b + pw k), (b + pw k) / pw j ≤ p.1 / pw j ∧ p.1 / pw j < (b + pw k) / pw j + pw (k - j) := fun p h => by
        have i := in_outs r hbr h
        exact blk_range hbr (by omega) i.1 (by have := i.2.1; have := i.pos; omega)
      show (a, pw j) ∈ frees l b ++ frees r (b + pw k) ↔ _
      rw [List.mem_append, beside l hc.1 hbl hj' a, beside r hc.2.1 hbr hj' a]
      constructor
      · rintro (⟨p, hpm, h1, h2, h3⟩ | ⟨p, hpm, h1, h2, h3⟩)
        · refine ⟨p, List.mem_append_left _ hpm, h1, h2, fun q hq hs => ?_⟩
          rcases List.mem_append.mp hq with hq | hq
          · exact h3 q hq hs
          · have g1 := nb_range hBl hN (rl p hpm).1 (rl p hpm).2
            have g2 := rr q hq
            rw [er] at g2
            omega
        · refine ⟨p, List.mem_append_right _ hpm, h1, h2, fun q hq hs => ?_⟩
          rcases List.mem_append.mp hq with hq | hq
          · have g1 := nb_range hBr hN (rr p hpm).1 (rr p hpm).2
            have g2 := rl q hq
            rw [er] at g1
            omega
          · exact h3 q hq hs
      · rintro ⟨p, hpm, h1, h2, h3⟩
        rcases List.mem_append.mp hpm with h | h
        · exact .inl ⟨p, h, h1, h2, fun q hq => h3 q (List.mem_append_left _ hq)⟩
        · exact .inr ⟨p, h, h1, h2, fun q hq => h3 q (List.mem_append_right _ hq)⟩
/-- the beside block lies in the yard -/
theorem nb_in {k j : Nat} {t : T k} {p : Pc} (hj : j < k) (h : p ∈ outs t 0) : 0 ≤ nb (p.1 / pw j) * pw j ∧ nb (p.1 / pw j) * pw j < pw k := by
  have hp := pw_pos j
  have i := in_outs t (Int.dvd_zero _) h
  have hr := blk_range (b := 0) (Int.dvd_zero (pw k)) (Nat.le_of_lt hj) i.1 (by have := i.2.1; have := i.pos; omega)
  have g := nb_range (by rw [Int.zero_ediv]; rfl) (num_even hj) hr.1 hr.2
  rw [Int.zero_ediv] at g
  refine ⟨Int.mul_nonneg g.1 (by omega), ?_⟩
  have e : pw k = pw (k - j) * pw j := by rw [← pw_add, show k - j + j = k by omega]
  rw [e]
  exact Int.mul_lt_mul_of_pos_right (by omega) hp
/-- no free piece of at least w that is smaller than the yard, and the yard not all free: none at all -/
theorem best_none_of {k : Nat} {t : T k} {w : Int} (hne : outs t 0 ≠ [] ∨ pw k < w) (h : ∀ j, fe w ≤ j → j < k → ∀ a, (a, pw j) ∉ frees t 0) : bestOf (frees t 0) w = none := by
  refine best_none.mpr fun p hp => ?_
  obtain ⟨h1, h2, j, hj, e, hd⟩ := in_frees t (Int.dvd_zero _) hp
  rw [e]
  refine Classical.byContradiction fun hw => ?_
  have hw' : w ≤ pw j := by omega
  have hfe := fe_le hw'
  rcases Nat.lt_or_ge j k with q | q
  · refine h j hfe q p.1 ?_
    rw [← e]
    exact hp
  · have : j = k := by omega
    subst this
    rcases hne with z | z
    · have : (p.1, pw j) ∈ frees t 0 := by rw [← e]; exact hp
      exact z (noOuts_of_free (top_free (Int.dvd_zero _) this) 0)
    · omega
/-- the lowest free piece of the first size that has one is the best -/
theorem best_of_first {k : Nat} {t : T k} {w a : Int} {j : Nat} (hj : fe w ≤ j) (hm : (a, pw j) ∈ frees t 0) (hl : ∀ c, (c, pw j) ∈ frees t 0 → a ≤ c) (h : ∀ i, fe w ≤ i → i < j → ∀ c, (c, pw i) ∉ frees t 0) : bestOf (frees t 0) w = some (a, pw j) := by
  have hw : w ≤ pw j := Int.le_trans (fit_ge w) (pw_le hj)
  refine best_uniq (srt_frees t (Int.dvd_zero _)) hm hw (fun p hp hwp => ?_) fun p hp e => ?_
  · obtain ⟨_, _, i, _, e, _⟩ := in_frees t (Int.dvd_zero _) hp
    rw [e] at hwp ⊢
    refine Classical.byContradiction fun z => ?_
    have hij : i < j := pw_lt_iff.mp (by simp only at z; omega)
    refine h i (fe_le hwp) hij p.1 ?_
    rw [← e]
    exact hp
  · have e' : p.2 = pw j := e
    exact hl p.1 (by rw [← e']; exact hp)
end Bud

set_option Elab.async false
set_option linter.all false
/-! Gives one after the other. -/
namespace Bud
/-- the wishes' sizes, turned, each with its place -/
def ordP (ws : List Int) : List Pc := (List.range ws.length).map fun i => (0 - fit (ws.getD i 0), (i : Int))
theorem ordP_len (ws : List Int) : (ordP ws).length = ws.length := by unfold ordP; rw [List.length_map, List.length_range]
theorem ordP_at {ws : List Int} {i : Nat} (h : i < ws.length) : (ordP ws)[i]? = some (0 - fit (ws.getD i 0), (i : Int)) := by
  unfold ordP
  rw [List.getElem?_map, List.getElem?_range h]
  rfl
/-- the places in the order of a sorted list -/
def ordN (M : List Pc) : List Nat := M.map fun p => p.2.toNat
theorem ordN_perm {ws : List Int} {M : List Pc} (h : M.Perm (ordP ws)) : (ordN M).Perm (List.range ws.length) := by
  have e : ordN (ordP ws) = List.range ws.length := by
    unfold ordN ordP
    rw [List.map_map]
    exact (List.map_congr_left fun i _ => rfl).trans (List.map_id _)
  rw [← e]
  exact h.map _
theorem ordN_back {ws : List Int} {M : List Pc} (h : M.Perm (ordP ws)) {p : Pc} (hp : p ∈ M) : p.2 = ((p.2.toNat : Nat) : Int) ∧ p.2.toNat < ws.length ∧ p.1 = 0 - fit (ws.getD p.2.toNat 0) := by
  have := h.mem_iff.mp hp
  unfold ordP at this
  obtain ⟨i, hi, rfl⟩ := List.mem_map.mp this
  exact ⟨rfl, List.mem_range.mp hi, rfl⟩
inductive Gives (ws : List Int) {k : Nat} : T k → List Nat → List Int → T k → Prop
  | nil (t : T k) : Gives ws t [] [] t
  | cons {t t1 t' : T k} {i : Nat} {is : List Nat} {a S : Int} {as : List Int} (h : bestOf (frees t 0) (ws.getD i 0) = some (a, S)) (hc : Can t1) (hp : (outs t1 0).Perm ((a, fit (ws.getD i 0)) :: outs t 0)) (r : Gives ws t1 is as t') : Gives ws t (i :: is) (a :: as) t'
theorem Gives.len {ws : List Int} {k : Nat} {t t' : T k} {is : List Nat} {as : List Int} (h : Gives ws t is as t') : as.length = is.length := by
  induction h with
  | nil => rfl
  | cons _ _ _ _ ih => rw [List.length_cons, List.length_cons, ih]
theorem Gives.can {ws : List Int} {k : Nat} {t t' : T k} {is : List Nat} {as : List Int} (h : Gives ws t is as t') (hc : Can t) : Can t' := by
  induction h with
  | nil => exact hc
  | cons _ h1 _ _ ih => exact ih h1
theorem Gives.outs {ws : List Int} {k : Nat} {t t' : T k} {is : List Nat} {as : List Int} (h : Gives ws t is as t') : (outs t' 0).Perm ((is.zip as).map (fun p => (p.2, fit (ws.getD p.1 0))) ++ outs t 0) := by
  induction h with
  | nil => exact List.Perm.refl _
  | cons _ _ hp _ ih =>
    rw [List.zip_cons_cons, List.map_cons]
    refine ih.trans ((List.Perm.append_left _ hp).trans ?_)
    exact List.perm_middle
theorem Gives.snoc {ws : List Int} {k : Nat} {t t1 t2 : T k} {is : List Nat} {as : List Int} {i : Nat} {a S : Int} (h : Gives ws t is as t1) (hb : bestOf (frees t1 0) (ws.getD i 0) = some (a, S)) (hc : Can t2) (hp : (Bud.outs t2 0).Perm ((a, fit (ws.getD i 0)) :: Bud.outs t1 0)) :
    Gives ws t (is ++ [i]) (as ++ [a]) t2 := by
  induction h with
  | nil => exact .cons hb hc hp (.nil _)
  | cons h1 h2 h3 _ ih => exact .cons h1 h2 h3 (ih hb hp)
/-- the steps ahead, when some are done -/
theorem Gives.split {ws : List Int} {k : Nat} {t t' : T k} {is : List Nat} {as : List Int} (h : Gives ws t is as t') : ∀ n, ∃ t1, Gives ws t (is.take n) (as.take n) t1 ∧ Gives ws t1 (is.drop n) (as.drop n) t' := by
  induction h with
  | nil t => intro n; rw [List.take_nil, List.take_nil, List.drop_nil, List.drop_nil]; exact ⟨t, .nil t, .nil t⟩
  | cons h1 h2 h3 r ih =>
    intro n
    cases n with
    | zero => exact ⟨_, .nil _, .cons h1 h2 h3 r⟩
    | succ n =>
      obtain ⟨t1, g1, g2⟩ := ih n
      exact ⟨t1, .cons h1 h2 h3 g1, g2⟩
theorem Gives.det {ws : List Int} {k : Nat} {t t1 t2 : T k} {is : List Nat} {as bs : List Int} (h : Gives ws t is as t1) (g : Gives ws t is bs t2) (hc : Can t) : as = bs ∧ t1 = t2 := by
  induction h generalizing bs with
  | nil => cases g; exact ⟨rfl, rfl⟩
  | cons h1 h2 h3 r ih =>
    cases g with
    | cons g1 g2 g3 q =>
      rw [h1] at g1
      cases g1
      have := tree_uniq h2 g2 (h3.trans g3.symm)
      subst this
      obtain ⟨e1, e2⟩ := ih q h2
      exact ⟨by rw [e1], e2⟩
/-- the place of the wish i -/
def plOf (is : List Nat) (as : List Int) (i : Nat) : Int := ((is.zip as).lookup i).getD 0
theorem lookup_append_some {i : Nat} {a : Int} : ∀ {L M : List (Nat × Int)}, L.lookup i = some a → (L ++ M).lookup i = some a
  | [], M, h => by cases h
  | (j, b) :: L, M, h => by
    rw [List.cons_append, List.lookup_cons] at *
    split <;> rename_i c
    · rw [c] at h; exact h
    · rw [c] at h; exact lookup_append_some h
theorem lookup_append_none {i : Nat} : ∀ {L M : List (Nat × Int)}, L.lookup i = none → (L ++ M).lookup i = M.lookup i
  | [], M, h => rfl
  | (j, b) :: L, M, h => by
    rw [List.cons_append, List.lookup_cons] at *
    split <;> rename_i c
    · rw [c] at h; cases h
    · rw [c] at h; exact lookup_append_none h
theorem lookup_none_of {i : Nat} : ∀ {L : List (Nat × Int)}, (∀ p ∈ L, p.1 ≠ i) → L.lookup i = none
  | [], _ => rfl
  | (j, b) :: L, h => by
    rw [List.lookup_cons]
    have h1 := h (j, b) List.mem_cons_self
    have : (i == j) = false := by simpa using fun e : i = j => h1 e.symm
    rw [this]
    exact lookup_none_of fun p hp => h p (List.mem_cons_of_mem _ hp)
theorem zip_snoc {α β : Type} {is : List α} {as : List β} {i : α} {a : β} (h : as.length = is.length) : (is ++ [i]).zip (as ++ [a]) = is.zip as ++ [(i, a)] := by
  rw [List.zip_append h.symm]
  rfl
theorem plOf_snoc {is : List Nat} {as : List Int} {i : Nat} {a : Int} (h : as.length = is.length) (hn : i ∉ is) (j : Nat) : plOf (is ++ [i]) (as ++ [a]) j = if j = i then a else plOf is as j := by
  unfold plOf
  rw [zip_snoc h]
  by_cases e : j = i
  · subst e
    rw [if_pos rfl, lookup_append_none (lookup_none_of fun p hp e => hn (by rw [← e]; exact (List.of_mem_zip hp).1)), List.lookup_cons]
    simp
  · rw [if_neg e]
    cases q : (is.zip as).lookup j with
    | some b => rw [lookup_append_some q]
    | none =>
      rw [lookup_append_none q, List.lookup_cons]
      have : (j == i) = false := by simpa using e
      rw [this]
      rfl
theorem plOf_map : ∀ {is : List Nat} {as : List Int} {f : Int → Nat → Pc}, as.length = is.length → is.Nodup → (is.zip as).map (fun p => f p.2 p.1) = is.map fun i => f (plOf is as i) i
  | [], as, f, h, _ => by
    rw [List.zip_nil_left]
    rfl
  | i :: is, [], f, h, _ => by cases h
  | i :: is, a :: as, f, h, nd => by
    have ⟨n1, n2⟩ := List.nodup_cons.mp nd
    have hl : as.length = is.length := by simpa using h
    rw [List.zip_cons_cons, List.map_cons, List.map_cons, plOf_map hl n2]
    congr 1
    · unfold plOf
      rw [List.zip_cons_cons, List.lookup_cons]
      simp
    · refine List.map_congr_left fun j hj => ?_
      have e : ¬ j = i := fun e => n1 (by rw [← e]; exact hj)
      unfold plOf
      rw [List.zip_cons_cons, List.lookup_cons]
      have : (j == i) = false := by simpa using e
      rw [this]
/-- the pieces given, by the wishes' places -/
theorem gives_held {ws : List Int} {k : Nat} {t t' : T k} {M : List Pc} {as : List Int} (hM : M.Perm (ordP ws)) (h : Gives ws t (ordN M) as t') :
    (outs t' 0).Perm ((List.range ws.length).map (fun i => ((plOf (ordN M) as i, fit (ws.getD i 0)) : Pc)) ++ outs t 0) := by
  have hp := ordN_perm hM
  have nd : (ordN M).Nodup := hp.nodup_iff.mpr List.nodup_range
  refine h.outs.trans (List.Perm.append_right _ ?_)
  rw [plOf_map (f := fun a i => (a, fit (ws.getD i 0))) h.len nd]
  exact hp.map _
end Bud

set_option Elab.async false
set_option linter.all false
/-! Many wishes at once: just where the free blocks of each size are enough; and where nothing is out. -/
namespace Bud
/-- the sizes of some wishes, as pieces -/
def fitPs (ws : List Int) (is : List Nat) : List Pc := is.map fun i => (0, fit (ws.getD i 0))
theorem fitPs_cons (ws : List Int) (i : Nat) (is : List Nat) : fitPs ws (i :: is) = (0, fit (ws.getD i 0)) :: fitPs ws is := rfl
theorem cov_big {f s a : Int} {L : List Pc} (h : s ≤ f) : cov ((a, f) :: L) s = f / s + cov L s := by
  rw [cov_cons]
  have : (if s ≤ ((a, f) : Pc).2 then ((a, f) : Pc).2 / s else 0) = f / s := if_pos h
  rw [this]
theorem cov_give {k : Nat} {t t1 : T k} {w a : Int} {m : Nat} (hc : Can t) (hc1 : Can t1) (hm : m ≤ k) (hw : m ≤ fe w) (hp : (outs t1 0).Perm ((a, fit w) :: outs t 0)) :
    cov (frees t 0) (pw m) = fit w / pw m + cov (frees t1 0) (pw m) := by
  obtain ⟨B, n, mB, e⟩ := count t (b := 0) hc (zdvd k) hm
  obtain ⟨C, n1, mC, e1⟩ := count t1 (b := 0) hc1 (zdvd k) hm
  have hle : pw m ≤ fit w := pw_le hw
  have hBC : B.Perm C := (List.perm_ext_iff_of_nodup n n1).mpr fun x => by
    rw [mB, mC]
    constructor
    · rintro ⟨p, hp1, h⟩
      exact ⟨p, hp.mem_iff.mpr (List.mem_cons_of_mem _ hp1), h⟩
    · rintro ⟨p, hp1, h⟩
      rcases List.mem_cons.mp (hp.mem_iff.mp hp1) with rfl | h2
      · simp only at h
        omega
      · exact ⟨p, h2, h⟩
  rw [cov_perm hp, cov_big hle] at e1
  rw [hBC.length_eq] at e
  omega
theorem Gives.need {ws : List Int} {k : Nat} {t t' : T k} {is : List Nat} {as : List Int} (h : Gives ws t is as t') (hc : Can t) (hd : is.Pairwise fun i j => fit (ws.getD j 0) ≤ fit (ws.getD i 0)) : ∀ m, m ≤ k → cov (fitPs ws is) (pw m) ≤ cov (frees t 0) (pw m) := by
  induction h with
  | nil t =>
    intro m _
    exact cov_nonneg (pw_pos m)
  | @cons t t1 t' i is a S as hb hc1 hp r ih =>
    intro m hm
    obtain ⟨hd1, hd2⟩ := List.pairwise_cons.mp hd
    rw [fitPs_cons]
    by_cases c : m ≤ fe (ws.getD i 0)
    · have h1 := cov_give hc hc1 hm c hp
      have h2 := ih hc1 hd2 m hm
      rw [cov_big (f := fit (ws.getD i 0)) (pw_le c)]
      omega
    · have hlt : fit (ws.getD i 0) < pw m := pw_lt (by omega)
      rw [cov_small fun p hp => ?_]
      · exact cov_nonneg (pw_pos m)
      rcases List.mem_cons.mp hp with rfl | hp
      · exact hlt
      · obtain ⟨j, hj, rfl⟩ := List.mem_map.mp hp
        have := hd1 j hj
        simp only
        omega
theorem gives_of_need {ws : List Int} {k : Nat} : ∀ (is : List Nat) (t : T k), Can t → (is.Pairwise fun i j => fit (ws.getD j 0) ≤ fit (ws.getD i 0)) → (∀ i ∈ is, 1 ≤ ws.getD i 0 ∧ ws.getD i 0 ≤ pw k) →
    (∀ m, m ≤ k → cov (fitPs ws is) (pw m) ≤ cov (frees t 0) (pw m)) → ∃ as t', Gives ws t is as t'
  | [], t, _, _, _, _ => ⟨[], t, .nil t⟩
  | i :: is, t, hc, hd, hw, hn => by
    obtain ⟨hd1, hd2⟩ := List.pairwise_cons.mp hd
    have hwi := hw i List.mem_cons_self
    generalize ew : ws.getD i 0 = w at *
    have hfe : fe w ≤ k := fe_le hwi.2
    have h1 := hn (fe w) hfe
    rw [fitPs_cons, ew, cov_big (f := fit w) (s := pw (fe w)) (Int.le_refl _)] at h1
    have h2 := cov_nonneg (L := fitPs ws is) (pw_pos (fe w))
    have h3 : pw (fe w) / pw (fe w) = 1 := Int.ediv_self (Int.ne_of_gt (pw_pos _))
    have h4 : cov (frees t 0) (pw (fe w)) ≠ 0 := by
      have : fit w = pw (fe w) := rfl
      rw [this] at h1
      omega
    cases hb : bestOf (frees t 0) w with
    | none => exact absurd ((room_iff hwi.1).mp hb) h4
    | some x =>
      obtain ⟨a, S⟩ := x
      have hm := best_mem hb
      have hle := (best_some hb).1
      obtain ⟨_, _, j, hj, e, _⟩ := in_frees t (zdvd k) hm
      have e : S = pw j := e
      subst e
      obtain ⟨t1, c1, _, _, p1⟩ := give_tree hc (zdvd k) hm (fe_le hle)
      have hrest : ∀ m, m ≤ k → cov (fitPs ws is) (pw m) ≤ cov (frees t1 0) (pw m) := fun m hmk => by
        by_cases c : m ≤ fe w
        · have g1 := cov_give hc c1 hmk c p1
          have g2 := hn m hmk
          rw [fitPs_cons, ew, cov_big (f := fit w) (pw_le c)] at g2
          omega
        · have hlt : fit w < pw m := pw_lt (by omega)
          rw [cov_small fun p hp => ?_]
          · exact cov_nonneg (pw_pos m)
          obtain ⟨j, hj, rfl⟩ := List.mem_map.mp hp
          have := hd1 j hj
          simp only
          omega
      obtain ⟨as, t', g⟩ := gives_of_need is t1 c1 hd2 (fun i hi => hw i (List.mem_cons_of_mem _ hi)) hrest
      exact ⟨a :: as, t', .cons (by rw [ew]; exact hb) c1 (by rw [ew]; exact p1) g⟩
theorem ord_desc {ws : List Int} {M : List Pc} (hM : M.Perm (ordP ws)) (hs : Srt M) : (ordN M).Pairwise fun i j => fit (ws.getD j 0) ≤ fit (ws.getD i 0) := by
  refine List.pairwise_map.mpr (hs.imp_of_mem ?_)
  intro p q hp hq h
  obtain ⟨_, _, e1⟩ := ordN_back hM hp
  obtain ⟨_, _, e2⟩ := ordN_back hM hq
  rcases h with h | h
  · omega
  · have := h.1
    omega
theorem fitPs_perm {ws : List Int} {is js : List Nat} (h : is.Perm js) : (fitPs ws is).Perm (fitPs ws js) := h.map _
theorem fitPs_range (ws : List Int) : fitPs ws (List.range ws.length) = ws.map fun w => (0, fit w) := by
  unfold fitPs
  refine List.ext_getElem (by rw [List.length_map, List.length_map, List.length_range]) fun i h1 h2 => ?_
  rw [List.getElem_map, List.getElem_map, List.getElem_range, List.getD_eq_getElem?_getD, List.getElem?_eq_getElem (by rw [List.length_map] at h2; exact h2)]
  rfl
/-- all are granted just where each size has enough free blocks -/
theorem gives_iff {ws : List Int} {k : Nat} {t : T k} {M : List Pc} (hc : Can t) (hM : M.Perm (ordP ws)) (hs : Srt M) (hw : ∀ w ∈ ws, 1 ≤ w ∧ w ≤ pw k) :
    (∃ as t', Gives ws t (ordN M) as t') ↔ ∀ m, m ≤ k → cov (ws.map fun w => (0, fit w)) (pw m) ≤ cov (frees t 0) (pw m) := by
  have hp := ordN_perm hM
  have e : ∀ s, cov (fitPs ws (ordN M)) s = cov (ws.map fun w => (0, fit w)) s := fun s => by rw [cov_perm (fitPs_perm hp), fitPs_range]
  constructor
  · rintro ⟨as, t', g⟩ m hm
    rw [← e]
    exact g.need hc (ord_desc hM hs) m hm
  · intro h
    refine gives_of_need (ordN M) t hc (ord_desc hM hs) (fun i hi => ?_) fun m hm => by rw [e]; exact h m hm
    have hi2 : i < ws.length := List.mem_range.mp (hp.mem_iff.mp hi)
    rw [List.getD_eq_getElem?_getD, List.getElem?_eq_getElem hi2]
    exact hw _ (List.getElem_mem _)
/-! ### one behind the other -/
def turnL : Int → List Int → List Int
  | _, [] => []
  | S, f :: fs => S :: turnL (S + f) fs
def Ch : Int → Int → List Pc → Prop
  | _, _, [] => True
  | S, b, p :: L => p.1 = S ∧ b ≤ p.2 ∧ Ch (S + p.2) (2 * p.2) L
theorem Ch.weak {S b c : Int} : ∀ {L : List Pc}, Ch S b L → c ≤ b → Ch S c L
  | [], _, _ => True.intro
  | p :: L, h, hc => ⟨h.1, Int.le_trans hc h.2.1, h.2.2⟩
theorem Ch.low : ∀ {L : List Pc} {S b : Int}, Ch S b L → 0 < b → ∀ p ∈ L, S ≤ p.1 ∧ b ≤ p.2
  | [], _, _, _, _, p, hp => by cases hp
  | q :: L, S, b, h, hb, p, hp => by
    obtain ⟨h1, h2, h3⟩ := h
    rcases List.mem_cons.mp hp with rfl | hp
    · exact ⟨by omega, h2⟩
    · have := Ch.low h3 (by omega) p hp
      omega
theorem Ch.srt : ∀ {L : List Pc} {S b : Int}, Ch S b L → 0 < b → Srt L
  | [], _, _, _, _ => List.Pairwise.nil
  | q :: L, S, b, h, hb => by
    obtain ⟨h1, h2, h3⟩ := h
    refine List.Pairwise.cons (fun p hp => ?_) (Ch.srt h3 (by omega))
    have := Ch.low h3 (by omega) p hp
    left
    omega
theorem ch_ups (S : Int) {L : List Pc} : ∀ (d j : Nat), Ch (S + pw (j + d)) (2 * pw (j + d)) L → Ch (S + pw j) (pw j) (ups S j d ++ L)
  | 0, j, h => by
    have := pw_pos j
    exact Ch.weak h (by show pw j ≤ 2 * pw j; omega)
  | d + 1, j, h => by
    rw [ups_cons]
    refine ⟨rfl, Int.le_refl _, ?_⟩
    have e : S + pw j + pw j = S + pw (j + 1) := by rw [pw_succ]; omega
    have e2 : 2 * pw j = pw (j + 1) := (pw_succ j).symm
    show Ch (S + pw j + pw j) (2 * pw j) (ups S (j + 1) d ++ L)
    rw [e, e2]
    exact ch_ups S d (j + 1) (by rw [show j + 1 + d = j + (d + 1) by omega]; exact h)
theorem ch_step {k : Nat} {t t1 : T k} {S b w a s : Int} (hc : Can t) (hc1 : Can t1) (h : Ch S b (frees t 0)) (hb0 : 0 < b) (hw : fit w ≤ b) (hb : bestOf (frees t 0) w = some (a, s)) (hp : (outs t1 0).Perm ((a, fit w) :: outs t 0)) :
    a = S ∧ Ch (S + fit w) (fit w) (frees t1 0) := by
  have hm := best_mem hb
  obtain ⟨hle, _, hmin⟩ := best_some hb
  have hnd := nodup_frees t (zdvd k)
  have hin := in_frees t (zdvd k) hm
  have hgt : ∀ x, bestOf (frees t 0) w = some x → ∀ m, x.2 = pw m → fe w ≤ m → ∃ t' : T k, Can t' ∧ (frees t' 0).Perm (without (frees t 0) (x.1, pw m) ++ ups x.1 (fe w) (m - fe w)) ∧ (outs t' 0).Perm ((x.1, pw (fe w)) :: outs t 0) := fun x hx m em hj => by
    have hxm := best_mem hx
    obtain ⟨x1, x2⟩ := x
    have em : x2 = pw m := em
    subst em
    obtain ⟨t', c', _, f', o'⟩ := give_tree hc (zdvd k) hxm hj
    exact ⟨t', c', f', o'⟩
  have hg := hgt _ hb
  generalize frees t 0 = F at *
  cases F with
  | nil => cases hm
  | cons p L =>
    obtain ⟨e1, e2, e3⟩ := h
    have hwp : w ≤ p.2 := by have := fit_ge w; omega
    have ep : (a, s) = p := by
      rcases List.mem_cons.mp hm with e | hL
      · exact e
      · have h1 := Ch.low e3 (by omega) _ hL
        have h2 := hmin p List.mem_cons_self hwp
        simp only at h1 h2
        omega
    subst ep
    have e1 : a = S := e1
    subst e1
    obtain ⟨_, _, m, hmk, em, _⟩ := hin
    have em : s = pw m := em
    subst em
    have hj : fe w ≤ m := fe_le hwp
    obtain ⟨t', c', f', o'⟩ := hg m rfl hj
    have et : t' = t1 := tree_uniq c' hc1 (o'.trans hp.symm)
    subst et
    refine ⟨rfl, ?_⟩
    have ew : without ((a, pw m) :: L) (a, pw m) = L := without_mid (A := []) hnd
    have hch : Ch (a + pw (fe w)) (pw (fe w)) (ups a (fe w) (m - fe w) ++ L) := ch_ups a (m - fe w) (fe w) (by rw [show fe w + (m - fe w) = m by omega]; exact e3)
    have hperm : (frees t' 0).Perm (ups a (fe w) (m - fe w) ++ L) := by
      refine f'.trans ?_
      show (without ((a, pw m) :: L) (a, pw m) ++ _).Perm _
      rw [ew]
      exact List.perm_append_comm
    rw [srt_uniq (srt_frees t' (zdvd k)) (hch.srt (pw_pos _)) hperm]
    exact hch
theorem Gives.turn {ws : List Int} {k : Nat} {t t' : T k} {is : List Nat} {as : List Int} (h : Gives ws t is as t') : Can t → (is.Pairwise fun i j => fit (ws.getD j 0) ≤ fit (ws.getD i 0)) → ∀ (S b : Int), Ch S b (frees t 0) → 0 < b → (∀ i ∈ is, fit (ws.getD i 0) ≤ b) → as = turnL S (is.map fun i => fit (ws.getD i 0)) := by
  induction h with
  | nil t => intro _ _ S b _ _ _; rfl
  | @cons t t1 t' i is a s as hb hc1 hp r ih =>
    intro hc hd S b hch hb0 hbd
    obtain ⟨hd1, hd2⟩ := List.pairwise_cons.mp hd
    obtain ⟨ea, hch1⟩ := ch_step hc hc1 hch hb0 (hbd i List.mem_cons_self) hb hp
    rw [List.map_cons]
    show a :: as = S :: turnL (S + fit (ws.getD i 0)) _
    rw [ea, ih hc1 hd2 _ _ hch1 (pw_pos _) hd1]
/-- where nothing is out -/
theorem gives_turn {ws : List Int} {k : Nat} {t' : T k} {M : List Pc} {as : List Int} (h : Gives ws (.free : T k) (ordN M) as t') (hM : M.Perm (ordP ws)) (hs : Srt M) (hw : ∀ w ∈ ws, w ≤ pw k) : as = turnL 0 ((ordN M).map fun i => fit (ws.getD i 0)) := by
  refine h.turn True.intro (ord_desc hM hs) 0 (pw k) ?_ (pw_pos k) fun i hi => ?_
  · rw [frees_free]
    exact ⟨rfl, Int.le_refl _, True.intro⟩
  · have hi2 : i < ws.length := List.mem_range.mp ((ordN_perm hM).mem_iff.mp hi)
    rw [List.getD_eq_getElem?_getD, List.getElem?_eq_getElem hi2]
    exact fit_le_iff.mpr (hw _ (List.getElem_mem _))
end Bud

set_option Elab.async false
set_option linter.all false
set_option maxRecDepth 100000
set_option maxHeartbeats 4000000
/-! Own words over the hand layer. -/
namespace Yd
open PySem PySem.Spec L2
open PyProof.Rows (envOfC)

/-! ### a def of the text, ready to be called by its name -/
structure DefOk (P : Program) (w : World) (K : PySem.W.Frag) (mg : Str → Option Value) (base : Heap) (k : Nat) (x : Str) (ps : List Str) (sp : Sp) : Prop where
  ex : ∃ fd, FnOk P w K mg base (L2.CX P w) k (He.ga K x) fd ps sp ∧ Binds K fd ps []
  g : mg x = some (.ref (He.ga K x))
  kp : PySem.W.keepIn K (.ref (He.ga K x)) = true
/-- a method of the class named c -/
structure MethOk (P : Program) (w : World) (K : PySem.W.Frag) (mg : Str → Option Value) (base : Heap) (k : Nat) (c m : Str) (ps : List Str) (sp : Sp) : Prop where
  ex : ∃ fd, FnOk P w K mg base (L2.CX P w) k (He.ma K (He.ga K c) m) fd ps sp ∧ Binds K fd ps []
  cl : Cls K (He.ga K c)
  mt : Meth K (He.ga K c) m (He.ma K (He.ga K c) m)
/-- a class that is called -/
structure MakeOk (P : Program) (w : World) (K : PySem.W.Frag) (mg : Str → Option Value) (base : Heap) (k : Nat) (c : Str) (ps : List Str) (sp : Sp) : Prop where
  ex : ∃ fd, FnOk P w K mg base (L2.CX P w) k (He.ma K (He.ga K c) "__init__") fd ps sp ∧ Binds K fd ps []
  mkr : Mk K (He.ga K c) (He.ma K (He.ga K c) "__init__")
  g : mg c = some (.ref (He.ga K c))

section
variable {X : Cx} {k : Nat} {ps : List Str} {sp : Sp} {E : St → XK} {W : WX} {x m c : Str} {p pos apos : Pos} {e o : Expr} {es : List Expr} {ta : TE} {t : TA}
/-- f(e, ..), nothing is raised -/
theorem pe_cd (D : DefOk X.prog X.w X.K X.mg X.base k x ps sp) (hr : Room k X.A) (ha : PA X (e :: es) t) (hg : Gl X x := by rfl)
    (hdb : (x == ("__debug__" : Str)) = false := by decide) (he : starEach (e :: es) X.env = (false, eval e X.env) :: starEach es X.env := by rfl) (hpl : (backTo pos (starEach es X.env)).any (·.1) = false := by rfl) :
    PE X (.Call (.Name x p) (e :: es) [] pos) (tCall sp [] E0 t) := by
  obtain ⟨fd, F, b⟩ := D.ex
  exact pe_call F hr hg D.g D.kp b .nil passL ha hdb he hpl
theorem pe_cd0 (D : DefOk X.prog X.w X.K X.mg X.base k x ps sp) (hr : Room k X.A) (hg : Gl X x := by rfl)
    (hdb : (x == ("__debug__" : Str)) = false := by decide) :
    PE X (.Call (.Name x p) [] [] pos) (tCall sp [] E0 tNil) := by
  obtain ⟨fd, F, b⟩ := D.ex
  exact pe_call0 F hr hg D.g D.kp b .nil passL hdb
/-- f(e, ..), what is raised is wished for -/
theorem pe_cx (tk : Takes X W) (D : DefOk X.prog X.w X.K X.mg X.base k x ps sp) (hr : Room k X.A) (ha : PA X (e :: es) t) (hg : Gl X x := by rfl)
    (hdb : (x == ("__debug__" : Str)) = false := by decide) (he : starEach (e :: es) X.env = (false, eval e X.env) :: starEach es X.env := by rfl) (hpl : (backTo pos (starEach es X.env)).any (·.1) = false := by rfl) :
    PE X (.Call (.Name x p) (e :: es) [] pos) (tCallS sp (WE W) t) := by
  obtain ⟨fd, F, b⟩ := D.ex
  exact pe_callS F hr hg D.g D.kp b (fun σ => passAt tk σ) ha hdb he hpl
theorem passAt0 {X : Cx} (σ : St) : PassesAt (L2.CX X.prog X.w) X σ E0 := fun _ _ _ _ _ _ h => by
  obtain ⟨_, _, _, _, _, _, _, _, _, _, _, _, z⟩ := h
  exact z.elim
/-- o.m(e, ..) -/
def tMt (c m : Str) (sp : Sp) (E : St → XK) (K : PySem.W.Frag) (ta : TE) (t : TA) : TE := fun σ H Q => ta σ H fun x H1 => ∃ a dx fs, x = .ref a ∧ H1 a = some (.ins (He.ga K c) dx fs) ∧ fs.lookup m = none ∧
  t σ H1 fun vs H2 => sp (x :: vs) H2 Q (E σ)
theorem pe_mE {pl : Sem Bool} {K : PySem.W.Frag} (he : PE X o ta) (D : MethOk X.prog X.w K X.mg X.base k c m ps sp) (hr : Room k X.A) (hx : ∀ σ, PassesAt (L2.CX X.prog X.w) X σ (E σ)) (ha : PA X (e :: es) t)
    (hst : starEach (e :: es) X.env = (false, eval e X.env) :: starEach es X.env := by rfl) (hpl : (backTo pos (starEach es X.env)).any (·.1) = false := by rfl)
    (ht : eval (.Call (.Attribute o m apos) (e :: es) [] pos) X.env = (do
      let ov ← eval o X.env
      standAt apos.atName
      let (f, first) ← holding [ov] (getMethod ov m pl)
      callWith pos f first (backTo pos (starEach (e :: es) X.env)) (backToKw pos (keywordEach [] X.env))) := by rfl) (hK : X.K = K := by rfl) :
    PE X (.Call (.Attribute o m apos) (e :: es) [] pos) (tMt c m sp E K ta t) := by
  subst hK
  obtain ⟨fd, F, b⟩ := D.ex
  refine ⟨fun pins s σ H Q I h => ?_⟩
  refine PySem.W.methodCall_KW (pl := pl) (thn (he.run pins s σ H _ I h) fun u s1 ⟨x, H1, I1, rx, a, dx, fs, ex, ea, l, q⟩ => ?_) ht
  subst ex
  obtain rfl : u = Value.ref a := rx
  refine getmeth_ok I1 ea D.cl D.mt l ?_
  refine PySem.W.callWith_K (first := [.ref a]) (h₀ := X.base) I.ok.mod.kin D.mt.kp (thn (ha.run pos pins s1 σ H1 _ I1 q) fun us s2 ⟨vs, H2, I2, r, q2⟩ => ⟨I2.kIn, ?_⟩) hst hpl
  exact run_fnS (us := .ref a :: us) (vs := .ref a :: vs) F hr b (hx σ) I2 (.cons rfl r) q2
theorem pe_mE0 {pl : Sem Bool} {K : PySem.W.Frag} (he : PE X o ta) (D : MethOk X.prog X.w K X.mg X.base k c m ps sp) (hr : Room k X.A) (hx : ∀ σ, PassesAt (L2.CX X.prog X.w) X σ (E σ))
    (ht : eval (.Call (.Attribute o m apos) [] [] pos) X.env = (do
      let ov ← eval o X.env
      standAt apos.atName
      let (f, first) ← holding [ov] (getMethod ov m pl)
      callWith pos f first (backTo pos (starEach [] X.env)) (backToKw pos (keywordEach [] X.env))) := by rfl) (hK : X.K = K := by rfl) :
    PE X (.Call (.Attribute o m apos) [] [] pos) (tMt c m sp E K ta tNil) := by
  subst hK
  obtain ⟨fd, F, b⟩ := D.ex
  refine ⟨fun pins s σ H Q I h => ?_⟩
  refine PySem.W.methodCall_KW (pl := pl) (thn (he.run pins s σ H _ I h) fun u s1 ⟨x, H1, I1, rx, a, dx, fs, ex, ea, l, q⟩ => ?_) ht
  subst ex
  obtain rfl : u = Value.ref a := rx
  refine getmeth_ok I1 ea D.cl D.mt l ?_
  exact PySem.W.callWith_K0 (first := [.ref a]) I1.kIn D.mt.kp (run_fnS (us := [.ref a]) (vs := [.ref a]) F hr b (hx σ) I1 (.cons rfl .nil) q)
theorem pe_m {pl : Sem Bool} {K : PySem.W.Frag} (he : PE X o ta) (D : MethOk X.prog X.w K X.mg X.base k c m ps sp) (hr : Room k X.A) (ha : PA X (e :: es) t)
    (hst : starEach (e :: es) X.env = (false, eval e X.env) :: starEach es X.env := by rfl) (hpl : (backTo pos (starEach es X.env)).any (·.1) = false := by rfl)
    (ht : eval (.Call (.Attribute o m apos) (e :: es) [] pos) X.env = (do
      let ov ← eval o X.env
      standAt apos.atName
      let (f, first) ← holding [ov] (getMethod ov m pl)
      callWith pos f first (backTo pos (starEach (e :: es) X.env)) (backToKw pos (keywordEach [] X.env))) := by rfl) (hK : X.K = K := by rfl) :
    PE X (.Call (.Attribute o m apos) (e :: es) [] pos) (tMt c m sp (fun _ => E0) K ta t) := pe_mE he D hr passAt0 ha hst hpl ht hK
theorem pe_m0 {pl : Sem Bool} {K : PySem.W.Frag} (he : PE X o ta) (D : MethOk X.prog X.w K X.mg X.base k c m ps sp) (hr : Room k X.A)
    (ht : eval (.Call (.Attribute o m apos) [] [] pos) X.env = (do
      let ov ← eval o X.env
      standAt apos.atName
      let (f, first) ← holding [ov] (getMethod ov m pl)
      callWith pos f first (backTo pos (starEach [] X.env)) (backToKw pos (keywordEach [] X.env))) := by rfl) (hK : X.K = K := by rfl) :
    PE X (.Call (.Attribute o m apos) [] [] pos) (tMt c m sp (fun _ => E0) K ta tNil) := pe_mE0 he D hr passAt0 ht hK
/-- o.m(e, ..), nothing is raised -/
abbrev tM (c m : Str) (sp : Sp) (K : PySem.W.Frag) (ta : TE) (t : TA) : TE := tMt c m sp (fun _ => E0) K ta t
/-- what a class's making wants -/
def tMkX (c : Str) (sp : Sp) (E : St → XK) (K : PySem.W.Frag) (t : TA) : TE := fun σ H Q => t σ H fun vs H1 => ∀ x dx, H1 x = none → H1 dx = none → dx ≠ x →
  sp (.ref x :: vs) (upd (upd H1 dx (.own x)) x (.ins (He.ga K c) dx [])) (fun v H2 => v = .non ∧ Q (.ref x) H2) (E σ)
end

/-! ### a class called -/
section
variable {X : Cx} {k : Nat} {ps : List Str} {sp : Sp} {E : L2.St → XK} {c : Str} {p pos : Pos} {e : Expr} {es : List Expr} {t : TA}
theorem run_mk {pins : List (Addr × Obj)} {σ : L2.St} {H : Hp} {s : Shared} {Q : VK} {us : List Value} {vs : List V} (D : MakeOk X.prog X.w X.K X.mg X.base k c ps sp) (hr : Room (k + 1) X.A) (hx : PassesAt (L2.CX X.prog X.w) X σ (E σ))
    (I : Inv X pins σ H s) (r : Vals vs us)
    (h : ∀ x dx, H x = none → H dx = none → dx ≠ x → sp (.ref x :: vs) (upd (upd H dx (.own x)) x (.ins (He.ga X.K c) dx [])) (fun v H2 => v = .non ∧ Q (.ref x) H2) (E σ)) :
    wpAny (model X.prog X.w) X.A (call (.ref (He.ga X.K c)) us) (EP X pins σ Q) X.xe s := by
  obtain ⟨fd, F, b⟩ := D.ex
  have hq := h (s.heap.objs.size + 1) s.heap.objs.size (I.hok.fresh (Nat.le_succ _)) (I.hok.fresh (Nat.le_refl _)) (Nat.ne_of_lt (Nat.lt_succ_self _))
  have I2 := Inv.made (C := He.ga X.K c) I
  have r2 : Vals (V.ref (s.heap.objs.size + 1) :: vs) (Value.ref (s.heap.objs.size + 1) :: us) := .cons rfl r
  have hl : (Value.ref (s.heap.objs.size + 1) :: us).length = ps.length := by
    have e := r2.length
    rw [F.len _ _ _ _ hq] at e
    exact e.symm
  have b2 := b _ (Value.ref (s.heap.objs.size + 1) :: us) I2.kIn (by rw [List.append_nil]; exact hl)
  rw [List.append_nil] at b2
  refine wpAny_call (make_map (f := He.ma X.K (He.ga X.K c) "__init__") I.kIn D.mkr.makes D.mkr.init (beq_iff_eq.mp D.mkr.fn)
    (codeAny_mono (F.run _ X.stack _ _ ⟨Value.ref (s.heap.objs.size + 1) :: us, []⟩ (Value.ref (s.heap.objs.size + 1) :: us) _ _ (E σ) (hr.make _ us []) (I2.env0.make _ us []) b2 r2 hq) fun r s' hq' => ?_))
  cases r with
  | error e => exact hx pins _ _ e s' I2 hq'
  | ok fl =>
    cases fl with
    | ret u =>
      obtain ⟨v, H', I3, rv, ev, q3⟩ := I2.after hq'
      subst ev
      exact ⟨rv, ⟨V.ref (s.heap.objs.size + 1), H', I3, rfl, q3⟩⟩
    | next => exact False.elim hq'
    | brk => exact False.elim hq'
    | cont => exact False.elim hq'
theorem pe_mk {K : PySem.W.Frag} (D : MakeOk X.prog X.w K X.mg X.base k c ps sp) (hr : Room (k + 1) X.A) (hx : ∀ σ, PassesAt (L2.CX X.prog X.w) X σ (E σ)) (ha : PA X (e :: es) t) (hg : Gl X c := by rfl)
    (hdb : (c == ("__debug__" : Str)) = false := by decide) (he : starEach (e :: es) X.env = (false, eval e X.env) :: starEach es X.env := by rfl) (hpl : (backTo pos (starEach es X.env)).any (·.1) = false := by rfl) (hK : X.K = K := by rfl) :
    PE X (.Call (.Name c p) (e :: es) [] pos) (tMkX c sp E K t) := by
  subst hK
  refine ⟨fun pins s σ H Q I h => ?_⟩
  refine wpAny_Call_Name_kw (ld_glob I hg D.g ?_ hdb)
  refine PySem.W.callWith_K (h₀ := X.base) I.ok.mod.kin D.mkr.kp (thn (ha.run pos pins s σ H _ I h) fun us s1 ⟨vs, H1, I1, r, q⟩ => ⟨I1.kIn, ?_⟩) he hpl
  exact run_mk D hr (hx σ) I1 r q
end

/-! ### a def by its body -/
section
variable {P : Program} {w : World} {K : PySem.W.Frag} {mg : Str → Option Value} {base : Heap} {x qual : Str} {params : Arguments} {body : List Stmt} {scope : Scope} {f : Addr}
theorem mkFn {CX : CXT} {fd : FuncData} {N ps : List Str} {k : Nat} {sp : Sp} (F : FunD K x qual params body scope [] [] f fd) (S : FnScope N ps scope) (len : ∀ vs H Q E, sp vs H Q E → vs.length = ps.length)
    (hbody : ∀ (cdv : Value) (A : Around) (outer : List Env) (s : Shared) (H : Hp) (vs : List V) (Q : VK) (E : XK), Room k (A.deeper (envOfC qual scope s.heap.objs.size f cdv)) → sp vs H Q E →
      ∃ t, PSs (cxOf CX P w K mg base N qual scope f cdv A outer s H E) body t ∧ t { nx := fun _ H' => Q .non H', rt := Q } (start N vs) H) : FnOk P w K mg base CX (k + 1) f fd ps sp := F.ok S len hbody
theorem mkDef {N ps : List Str} {k : Nat} {sp : Sp} (F : ∃ fd, FunD K x qual params body scope [] [] (He.ga K x) fd) (g : mg x = some (.ref (He.ga K x)))
    (b : ∀ (kV doc pm : Value) (an : Option Addr) (cdv ct : Value) (us : List Value), us.length = ps.length → bindArgs (PySem.W.fnOf x qual params body scope .none kV doc pm an cdv ct) ⟨us, []⟩ = pure (ps.zip us))
    (S : FnScope N ps scope) (len : ∀ vs H Q E, sp vs H Q E → vs.length = ps.length)
    (hbody : ∀ (cdv : Value) (A : Around) (outer : List Env) (s : Shared) (H : Hp) (vs : List V) (Q : VK) (E : XK), Room k (A.deeper (envOfC qual scope s.heap.objs.size (He.ga K x) cdv)) → sp vs H Q E →
      ∃ t, PSs (cxOf (L2.CX P w) P w K mg base N qual scope (He.ga K x) cdv A outer s H E) body t ∧ t { nx := fun _ H' => Q .non H', rt := Q } (start N vs) H) : DefOk P w K mg base (k + 1) x ps sp := by
  obtain ⟨fd, F⟩ := F
  exact ⟨⟨fd, mkFn F S len hbody, F.bindsN b⟩, g, F.kp⟩
theorem DefOk.mono {j k : Nat} {ps : List Str} {sp : Sp} (D : DefOk P w K mg base j x ps sp) (h : j ≤ k) : DefOk P w K mg base k x ps sp := by
  obtain ⟨fd, F, b⟩ := D.ex
  exact ⟨⟨fd, F.mono h, b⟩, D.g, D.kp⟩
theorem mkMake {c : Str} {N ps : List Str} {k : Nat} {sp : Sp} (F : ∃ fd, FunD K "__init__" qual params body scope [] [] (He.ma K (He.ga K c) "__init__") fd) (mk : Mk K (He.ga K c) (He.ma K (He.ga K c) "__init__")) (g : mg c = some (.ref (He.ga K c)))
    (b : ∀ (kV doc pm : Value) (an : Option Addr) (cdv ct : Value) (us : List Value), us.length = ps.length → bindArgs (PySem.W.fnOf "__init__" qual params body scope .none kV doc pm an cdv ct) ⟨us, []⟩ = pure (ps.zip us))
    (S : FnScope N ps scope) (len : ∀ vs H Q E, sp vs H Q E → vs.length = ps.length)
    (hbody : ∀ (cdv : Value) (A : Around) (outer : List Env) (s : Shared) (H : Hp) (vs : List V) (Q : VK) (E : XK), Room k (A.deeper (envOfC qual scope s.heap.objs.size (He.ma K (He.ga K c) "__init__") cdv)) → sp vs H Q E →
      ∃ t, PSs (cxOf (L2.CX P w) P w K mg base N qual scope (He.ma K (He.ga K c) "__init__") cdv A outer s H E) body t ∧ t { nx := fun _ H' => Q .non H', rt := Q } (start N vs) H) : MakeOk P w K mg base (k + 1) c ps sp := by
  obtain ⟨fd, F⟩ := F
  exact ⟨⟨fd, mkFn F S len hbody, F.bindsN b⟩, mk, g⟩
theorem mkMeth {c m : Str} {N ps : List Str} {k : Nat} {sp : Sp} (F : ∃ fd, FunD K x qual params body scope [] [] (He.ma K (He.ga K c) m) fd) (cl : Cls K (He.ga K c)) (mt : Meth K (He.ga K c) m (He.ma K (He.ga K c) m))
    (b : ∀ (kV doc pm : Value) (an : Option Addr) (cdv ct : Value) (us : List Value), us.length = ps.length → bindArgs (PySem.W.fnOf x qual params body scope .none kV doc pm an cdv ct) ⟨us, []⟩ = pure (ps.zip us))
    (S : FnScope N ps scope) (len : ∀ vs H Q E, sp vs H Q E → vs.length = ps.length)
    (hbody : ∀ (cdv : Value) (A : Around) (outer : List Env) (s : Shared) (H : Hp) (vs : List V) (Q : VK) (E : XK), Room k (A.deeper (envOfC qual scope s.heap.objs.size (He.ma K (He.ga K c) m) cdv)) → sp vs H Q E →
      ∃ t, PSs (cxOf (L2.CX P w) P w K mg base N qual scope (He.ma K (He.ga K c) m) cdv A outer s H E) body t ∧ t { nx := fun _ H' => Q .non H', rt := Q } (start N vs) H) : MethOk P w K mg base (k + 1) c m ps sp := by
  obtain ⟨fd, F⟩ := F
  exact ⟨⟨fd, mkFn F S len hbody, F.bindsN b⟩, cl, mt⟩
end

/-! ### a while by the number of its turns -/
section
variable {c : TT} {tb : TS} {D : Ends} {σ : L2.St} {H : Hp}
theorem while_n (n : Nat) (Pv : Nat → L2.St → Hp → Prop) (h0 : Pv 0 σ H)
    (hs : ∀ i σ H, i ≤ n → Pv i σ H → c σ H fun b H1 => if b = true then ∃ N : L2.St → Hp → Prop, (∀ σ' H', N σ' H' → ∃ m', m' < n - i ∧ ∃ i', i' ≤ n ∧ m' = n - i' ∧ Pv i' σ' H') ∧ tb { D with nx := N, ct := N, bk := D.nx } σ H1 else D.nx σ H1) : tWhile c tb D σ H := by
  refine ⟨fun m σ H => ∃ i, i ≤ n ∧ m = n - i ∧ Pv i σ H, ⟨n - 0, 0, Nat.zero_le _, rfl, h0⟩, ?_⟩
  rintro m σ H ⟨i, hi, rfl, p⟩
  exact hs i σ H hi p
theorem wh_step {n i : Nat} {Pv : Nat → L2.St → Hp → Prop} (h : i < n) : ∀ σ' H', Pv (i + 1) σ' H' → ∃ m', m' < n - i ∧ ∃ i', i' ≤ n ∧ m' = n - i' ∧ Pv i' σ' H' := fun _ _ p => ⟨n - (i + 1), by omega, i + 1, h, rfl, p⟩
end
/-- an if whose test is known to come to b -/
theorem ifP {c : TT} {t u : TS} {D : Ends} {σ : L2.St} {H : Hp} (b : Bool) (hc : ∀ Q : Bool → Hp → Prop, Q b H → c σ H Q) (h1 : b = true → t D σ H) (h2 : b = false → u D σ H) : tIfS c t u D σ H := by
  refine hc _ ?_
  cases b with
  | true => exact iteT (h1 rfl)
  | false => exact iteF (h2 rfl)
theorem ifS {c : TT} {t u v : TS} {D : Ends} {σ : L2.St} {H : Hp} (b : Bool) (hc : ∀ Q : Bool → Hp → Prop, Q b H → c σ H Q) (h1 : b = true → t { D with nx := v D } σ H) (h2 : b = false → u { D with nx := v D } σ H) : tSeq (tIfS c t u) v D σ H := ifP (D := { D with nx := v D }) b hc h1 h2
/-- the same, the test lays new things alone -/
theorem ifN {c : TT} {t u v : TS} {D : Ends} {σ : L2.St} {H : Hp} (b : Bool) (hc : ∀ Q : Bool → Hp → Prop, (∀ H', Same H H' → Q b H') → c σ H Q) (h1 : b = true → ∀ H', Same H H' → t { D with nx := v D } σ H') (h2 : b = false → ∀ H', Same H H' → u { D with nx := v D } σ H') : tSeq (tIfS c t u) v D σ H := by
  refine hc _ fun H' s => ?_
  cases b with
  | true => exact iteT (h1 rfl H' s)
  | false => exact iteF (h2 rfl H' s)
theorem blT {c : Prop} [Decidable c] (h : c) : V.bl (decide c) = V.bl true := congrArg V.bl (decide_eq_true h)
theorem blF {c : Prop} [Decidable c] (h : ¬ c) : V.bl (decide c) = V.bl false := congrArg V.bl (decide_eq_false h)
/-! ### sizes -/
/-- whether it is a size -/
def isSz (n : Int) : Bool := (List.range 61).any fun k => n == Bud.pw k
theorem isSz_iff {n : Int} : isSz n = true ↔ ∃ k, k ≤ 60 ∧ n = Bud.pw k := by
  unfold isSz
  rw [List.any_eq_true]
  constructor
  · rintro ⟨k, hk, e⟩
    exact ⟨k, by have := List.mem_range.mp hk; omega, eq_of_beq e⟩
  · rintro ⟨k, hk, e⟩
    exact ⟨k, List.mem_range.mpr (by omega), beq_iff_eq.mpr e⟩
theorem pw60 : Bud.pw 60 = 1152921504606846976 := by decide +kernel
theorem pw61 : Bud.pw 61 = 2305843009213693952 := by decide +kernel
theorem pw_bound {n : Nat} (h : n ≤ 61) : Bud.pw n ≤ 2305843009213693952 := by
  rw [← pw61]
  exact Bud.pw_le h
theorem isSz_low {n : Int} (h : n < 1) : isSz n = false := by
  cases e : isSz n with
  | false => rfl
  | true =>
    obtain ⟨k, hk, rfl⟩ := isSz_iff.mp e
    have := Bud.pw_pos k
    omega
theorem isSz_high {n : Int} (h : 1152921504606846976 < n) : isSz n = false := by
  cases e : isSz n with
  | false => rfl
  | true =>
    obtain ⟨k, hk, rfl⟩ := isSz_iff.mp e
    have := Bud.pw_le hk
    rw [pw60] at this
    omega
theorem isSz_fit {n : Int} (h : 1 ≤ n) (h' : n ≤ 1152921504606846976) : decide (Bud.fit n = n) = isSz n := by
  have hf : Bud.fe n ≤ 60 := Bud.fe_le (by rw [pw60]; exact h')
  cases e : isSz n with
  | true =>
    obtain ⟨k, hk, rfl⟩ := isSz_iff.mp e
    refine decide_eq_true ?_
    unfold Bud.fit
    rw [Bud.fe_eq (n := k) (Int.le_refl _) fun i hi => Bud.pw_lt hi]
  | false =>
    refine decide_eq_false fun q => ?_
    have : isSz n = true := isSz_iff.mpr ⟨Bud.fe n, hf, q.symm⟩
    rw [e] at this
    cases this

/-! ### isinstance of the exception that the suite holds, its class told in the reading -/
section
variable {X : Cx} {a : Addr} {oe : Obj} {cls : Value} {d : Option Addr} {pn : List (Addr × Obj)}
def rIsEv (K : PySem.W.Frag) (a : Addr) (cls : Value) (d : Option Addr) : List V → Hp → VK → Prop := fun xs H Q => ∃ (D : Addr) (c : V) (cv : Value) (b : Bool), cls = .ref D ∧ d = none ∧ ExcC K D ∧ xs = [.ref a, c] ∧ ClsV c cv ∧ PySem.W.kitOne K (.ref D) cv = some b ∧ Q (.bl b) H
theorem call_isEv (hz : Zc cls d oe) (hf : ∃ vs, oe.data = .fields vs) : CallR (X.suite a ((a, oe) :: pn)) (.builtin "isinstance") (rIsEv X.K a cls d) := by
  intro pins s σ H xs us Q I r h
  obtain ⟨D, c, cv, b, rfl, rfl, C, e, hc, hk, q⟩ := h
  exact call_isE C hz hf pins s σ H xs us Q I r ⟨c, cv, b, e, fun u ru => hc.eq ru, hk, q⟩
def rIsETv (K : PySem.W.Frag) (a : Addr) (cls : Value) (d : Option Addr) : List V → Hp → VK → Prop := fun xs H Q => ∃ (D tp : Addr) (cs : List V) (ws : List Value) (b : Bool), cls = .ref D ∧ d = none ∧ ExcC K D ∧ xs = [.ref a, .ref tp] ∧ H tp = some (.tup cs) ∧ Paired ClsV cs ws ∧ PySem.W.kitAny K (.ref D) ws = some b ∧ Q (.bl b) H
theorem call_isETv (hz : Zc cls d oe) (hf : ∃ vs, oe.data = .fields vs) : CallR (X.suite a ((a, oe) :: pn)) (.builtin "isinstance") (rIsETv X.K a cls d) := by
  intro pins s σ H xs us Q I r h
  obtain ⟨D, tp, cs, ws, b, rfl, rfl, C, rfl, hT, k, e, q⟩ := h
  obtain ⟨u1, u2, rfl, r1, r2⟩ := vals2 r
  cases (show u2 = Value.ref tp from r2)
  cases (show u1 = Value.ref a from r1)
  obtain ⟨hget, _⟩ := I.pin (a, oe) (List.mem_append.mpr (.inl List.mem_cons_self))
  obtain ⟨vs, hv⟩ := hf
  have J : PySem.W.InstAt s.heap a oe D none := by
    obtain ⟨oc, od, oda, osl⟩ := oe
    obtain ⟨h1, h2⟩ := hz
    dsimp only at h1 h2 hv
    subst h1 h2 hv
    exact ⟨hget, rfl, rfl, trivial⟩
  obtain ⟨_, its, rv, o, h1, h2, n, h3⟩ := (show ObjOk X.prog X.w H s.heap tp (.tup cs) from I.hok tp _ hT)
  have e3 := ClsV.all k rv
  subst e3
  obtain ⟨oc, od, dt, sl⟩ := o
  simp only at h2 h3
  subst h2 h3
  exact PySem.W.kia_tup (PySem.W.handS_kitx_exc C.hg C.hk C.hs C.hd C.ha C.hn C.ht C.hm) I.kIn J h1 e (fun z => nomatch z) fun tk => ⟨.bl b, H, I.kept (t' := tk) fun _ _ z => z, rfl, q⟩
end
/-- ExcC by one Bool -/
def exB (K : PySem.W.Frag) (D : Addr) : Bool :=
  He.eqO (PySem.W.findIn K (.ref D) "__getattribute__") (some (some (.builtin "BaseException.__getattribute__"))) &&
  (He.eqO (PySem.W.findIn K (.ref D) "__getattr__") (some none) &&
  (decide (PySem.W.subIn K (.ref D) (.type "BaseException") = some true) &&
  (PySem.W.hasDictIn K D &&
  (He.eqO (PySem.W.findIn K (.ref D) "__class__") (some (some (.builtin "object.__class__"))) &&
  (He.eqO (PySem.W.specialIn K (.builtin "object.__class__") "__get__") (some (some (.builtin "getset_descriptor.__get__"))) &&
  (decide (PySem.W.takesIn K (.builtin "object.__class__") = some true) &&
  decide (PySem.W.mroIn K D (.type "object") = some true)))))))
theorem exB_ok {K : PySem.W.Frag} {D : Addr} (h : exB K D = true) : ExcC K D := by
  unfold exB at h
  simp only [Bool.and_eq_true] at h
  obtain ⟨h1, h2, h3, h4, h5, h6, h7, h8⟩ := h
  exact ⟨He.eqO_ok h1, He.eqO_ok h2, of_decide_eq_true h3, h4, He.eqO_ok h5, He.eqO_ok h6, of_decide_eq_true h7, of_decide_eq_true h8⟩
end Yd

set_option Elab.async false
set_option linter.all false
set_option maxRecDepth 100000
set_option maxHeartbeats 4000000
/-! Lists of pairs of whole numbers, a yard in the heap. -/
namespace Yd
open PySem PySem.Spec L2
open PyProof.Rows (envOfC)
open Bud (Pc)

theorem hu65 {A : Around} {k : Nat} (hr : Room k A) : A.units + 65 < cLine := by have := hr.un; omega
/-! ### pairs -/
/-- x is a pair of whole numbers p -/
def IsPr (H : Hp) (x : V) (p : Pc) : Prop := ∃ t, x = .ref t ∧ H t = some (.tup [.int p.1, .int p.2])
/-- xs are the pairs L -/
abbrev Prs (H : Hp) : List V → List Pc → Prop := Paired (IsPr H)
def pairOf (H : Hp) (x : V) : Pc := match x with
  | .ref t => (match H t with
    | some (.tup [.int i, .int j]) => (i, j)
    | _ => (0, 0))
  | _ => (0, 0)
theorem IsPr.of {H : Hp} {x : V} {p : Pc} (h : IsPr H x p) : pairOf H x = p := by
  obtain ⟨t, rfl, e⟩ := h
  unfold pairOf
  simp only [e]
theorem Prs.length {H : Hp} {xs : List V} {L : List Pc} (h : Prs H xs L) : xs.length = L.length := Paired.length h
theorem Prs.map_of {H : Hp} : ∀ {xs : List V} {L : List Pc}, Prs H xs L → L = xs.map (pairOf H)
  | _, _, .nil => rfl
  | _, _, .cons r t => by rw [List.map_cons, ← Prs.map_of t, r.of]
theorem Prs.mem {H : Hp} : ∀ {xs : List V} {L : List Pc}, Prs H xs L → ∀ x ∈ xs, IsPr H x (pairOf H x)
  | _, _, .nil, x, hx => by cases hx
  | _, _, .cons r t, x, hx => by
    rcases List.mem_cons.mp hx with rfl | hx
    · rw [r.of]; exact r
    · exact Prs.mem t x hx
theorem Prs.of_mem {H : Hp} : ∀ {xs : List V}, (∀ x ∈ xs, IsPr H x (pairOf H x)) → Prs H xs (xs.map (pairOf H))
  | [], _ => .nil
  | x :: xs, h => .cons (h x List.mem_cons_self) (Prs.of_mem fun y hy => h y (List.mem_cons_of_mem _ hy))
theorem Prs.append {H : Hp} : ∀ {xs ys : List V} {L M : List Pc}, Prs H xs L → Prs H ys M → Prs H (xs ++ ys) (L ++ M)
  | _, _, _, _, .nil, h => h
  | _, _, _, _, .cons r t, h => .cons r (Prs.append t h)
theorem Prs.get {H : Hp} : ∀ {xs : List V} {L : List Pc} {i : Nat} {x : V}, Prs H xs L → xs[i]? = some x → ∃ p, L[i]? = some p ∧ IsPr H x p
  | _, _, _, _, .nil, e => by simp at e
  | _, _, 0, _, .cons r _, e => by simp at e; subst e; exact ⟨_, rfl, r⟩
  | _, _, i + 1, x, .cons _ t, e => by
    obtain ⟨u, h1, h2⟩ := Prs.get (i := i) (x := x) t (by simpa using e)
    exact ⟨u, by simpa using h1, h2⟩
theorem Prs.get' {H : Hp} : ∀ {xs : List V} {L : List Pc} {i : Nat} {p : Pc}, Prs H xs L → L[i]? = some p → ∃ x, xs[i]? = some x ∧ IsPr H x p
  | _, _, _, _, .nil, e => by simp at e
  | _, _, 0, _, .cons r _, e => by simp at e; subst e; exact ⟨_, rfl, r⟩
  | _, _, i + 1, p, .cons _ t, e => by
    obtain ⟨u, h1, h2⟩ := Prs.get' (i := i) (p := p) t (by simpa using e)
    exact ⟨u, by simpa using h1, h2⟩
theorem Prs.eraseIdx {H : Hp} : ∀ {xs : List V} {L : List Pc} (i : Nat), Prs H xs L → Prs H (xs.eraseIdx i) (L.eraseIdx i)
  | _, _, _, .nil => .nil
  | _, _, 0, .cons _ t => t
  | _, _, i + 1, .cons r t => .cons r (Prs.eraseIdx i t)
theorem Prs.take {H : Hp} : ∀ {xs : List V} {L : List Pc} (i : Nat), Prs H xs L → Prs H (xs.take i) (L.take i)
  | _, _, 0, _ => .nil
  | _, _, _ + 1, .nil => .nil
  | _, _, i + 1, .cons r t => .cons r (Prs.take i t)
/-- the tuples stand still -/
def TupKept (H H' : Hp) : Prop := ∀ t xs, H t = some (.tup xs) → H' t = some (.tup xs)
theorem IsPr.kept {H H' : Hp} {x : V} {p : Pc} (k : TupKept H H') (h : IsPr H x p) : IsPr H' x p := by
  obtain ⟨t, e, e2⟩ := h
  exact ⟨t, e, k _ _ e2⟩
theorem Prs.kept {H H' : Hp} (k : TupKept H H') {xs : List V} {L : List Pc} (h : Prs H xs L) : Prs H' xs L := Paired.mapP h fun _ _ r => r.kept k
theorem Same.tups {H H' : Hp} (s : Same H H') : TupKept H H' := fun t xs e => s t _ e
theorem tups_upd {H : Hp} {a : Addr} {o : HO} (h : H a = none) : TupKept H (upd H a o) := fun t xs e => by
  rw [upd_ne (ne_of_none e h)]
  exact e
/-- a store to what is no tuple -/
theorem tups_put {H : Hp} {a : Addr} {o u : HO} (h : H a = some u) (hn : ∀ xs, u ≠ .tup xs) : TupKept H (upd H a o) := fun t xs e => by
  refine (upd_ne ?_).trans e
  intro q
  rw [q, h] at e
  exact hn xs (Option.some.inj e)
theorem TupKept.trans {H H1 H2 : Hp} (a : TupKept H H1) (b : TupKept H1 H2) : TupKept H H2 := fun t xs e => b _ _ (a _ _ e)
theorem same_new {H : Hp} {p : Addr} {o : HO} (h : H p = none) : Same H (upd H p o) := fun b u e => by
  rw [upd_ne (ne_of_none e h)]
  exact e

/-! ### the same as data -/
def pD (p : Pc) : PyData := .tuple [.int p.1, .int p.2]
theorem pD_depth (p : Pc) : (pD p).depth = 1 := by simp [pD, PyData.depth, PyData.depthAll]
theorem pD_lay (p : Pc) : (pD p).canLay0 = true := by simp [pD, PyData.canLay0, PyData.canLayAll0]
theorem pDs_lay : ∀ L : List Pc, PyData.canLayAll0 (L.map pD) = true
  | [] => by simp [PyData.canLayAll0]
  | p :: L => by simp [PyData.canLayAll0, pD_lay p, pDs_lay L]
theorem pD_plain (p : Pc) : (pD p).plain = true := by simp [pD, PyData.plain, PyData.plainAll]
theorem pDs_plain : ∀ L : List Pc, PyData.plainAll (L.map pD) = true
  | [] => by simp [PyData.plainAll]
  | p :: L => by simp [PyData.plainAll, pD_plain p, pDs_plain L]
theorem pDs_depth : ∀ L : List Pc, PyData.depthAll (L.map pD) ≤ 1
  | [] => by simp [PyData.depthAll]
  | p :: L => by
    have h1 := pDs_depth L
    have h2 := pD_depth p
    simp only [List.map_cons, PyData.depthAll]
    omega
theorem pD_shaped (p : Pc) : SeqAt.shaped (pD p) = true := by
  have h := pD_depth p
  show ((pD p).canLay0 && decide ((pD p).depth ≤ 64)) = true
  rw [Bool.and_eq_true]
  exact ⟨pD_lay p, decide_eq_true (by omega)⟩
theorem pDs_shaped (L : List Pc) : SeqAt.shaped (.list (L.map pD)) = true := by
  have h1 := pDs_depth L
  have h2 : PyData.depth (.list (L.map pD)) ≤ 64 := by
    simp only [PyData.depth]
    omega
  show (PyData.canLay0 (.list (L.map pD)) && decide (PyData.depth (.list (L.map pD)) ≤ 64)) = true
  rw [Bool.and_eq_true]
  exact ⟨by simp only [PyData.canLay0]; exact pDs_lay L, decide_eq_true h2⟩
theorem pD_eqv (p q : Pc) : PyData.eqv (pD p) (pD q) = decide (p = q) := by
  obtain ⟨a, b⟩ := p
  obtain ⟨c, d⟩ := q
  have e : PyData.eqv (pD (a, b)) (pD (c, d)) = ((a == c) && ((b == d) && true)) := by simp only [pD, PyData.eqv, PyData.eqvAll]
  rw [e]
  by_cases h : ((a, b) : Pc) = (c, d)
  · cases h
    simp
  · rw [decide_eq_false h]
    by_cases h1 : a = c
    · have h2 : ¬ b = d := fun q => h (by rw [h1, q])
      rw [beq_eq_false_iff_ne.mpr h2, Bool.false_and, Bool.and_false]
    · rw [beq_eq_false_iff_ne.mpr h1, Bool.false_and]
theorem pDs_eqv : ∀ L M : List Pc, PyData.eqvAll (L.map pD) (M.map pD) = decide (L = M)
  | [], [] => by simp [PyData.eqvAll]
  | [], q :: M => by simp [PyData.eqvAll]
  | p :: L, [] => by simp [PyData.eqvAll]
  | p :: L, q :: M => by
    simp only [List.map_cons, PyData.eqvAll, pD_eqv, pDs_eqv L M]
    by_cases h1 : p = q
    · by_cases h2 : L = M
      · rw [decide_eq_true h1, decide_eq_true h2, decide_eq_true (by rw [h1, h2])]
        rfl
      · rw [decide_eq_false h2, decide_eq_false (fun z => h2 (List.cons.inj z).2), Bool.and_false]
    · rw [decide_eq_false h1, decide_eq_false (fun z => h1 (List.cons.inj z).1), Bool.false_and]
theorem IsPr.dp {K : PySem.W.Frag} {H : Hp} {x : V} {p : Pc} (h : IsPr H x p) : Dp K H x (pD p) := by
  obtain ⟨t, rfl, e⟩ := h
  exact .tup (SqT.of e) (.cons (.int _) (.cons (.int _) .nil))
theorem Prs.dps {K : PySem.W.Frag} {H : Hp} : ∀ {xs : List V} {L : List Pc}, Prs H xs L → DpAll K H xs (L.map pD)
  | _, _, .nil => .nil
  | _, _, .cons r t => .cons r.dp (Prs.dps t)
theorem Prs.dp {K : PySem.W.Frag} {H : Hp} {l : Addr} {xs : List V} {L : List Pc} (h : Prs H xs L) (hl : SqL K H l xs) : Dp K H (.ref l) (.list (L.map pD)) := .lst hl h.dps
theorem any_pD (L : List Pc) (p : Pc) : ((L.map pD).any fun z => PyData.eqv z (pD p)) = decide (p ∈ L) := by
  rw [List.any_map]
  by_cases h : p ∈ L
  · rw [decide_eq_true h]
    exact List.any_eq_true.mpr ⟨p, h, by simp [Function.comp, pD_eqv]⟩
  · rw [decide_eq_false h]
    refine List.any_eq_false.mpr fun q hq => ?_
    simp only [Function.comp, pD_eqv, decide_eq_true_eq]
    intro e
    rw [e] at hq
    exact h hq

section
variable {X : Cx}
def rInP (K : PySem.W.Frag) (neg : Bool) : R2 := fun x y H Q => ∃ (l : Addr) (vs : List V) (L : List Pc) (p : Pc), y = .ref l ∧ SqL K H l vs ∧ Prs H vs L ∧ IsPr H x p ∧ Q (.bl (if neg then !decide (p ∈ L) else decide (p ∈ L))) H
theorem op_inP (hu : X.A.units + 65 < cLine) : OpR X (compareOp .In) (rInP X.K false) := by
  intro pins s σ H x y v u Q I rx ry h
  obtain ⟨l, vs, L, p, rfl, hl, hp, hx, q⟩ := h
  refine op_inD hu pins s σ H x _ v u Q I rx ry ⟨pD p, L.map pD, hx.dp, hp.dp hl, pD_shaped p, pDs_shaped L, ?_⟩
  rw [any_pD]
  exact q
theorem op_notInP (hu : X.A.units + 65 < cLine) : OpR X (compareOp .NotIn) (rInP X.K true) := by
  intro pins s σ H x y v u Q I rx ry h
  obtain ⟨l, vs, L, p, rfl, hl, hp, hx, q⟩ := h
  refine op_notInD hu pins s σ H x _ v u Q I rx ry ⟨pD p, L.map pD, hx.dp, hp.dp hl, pD_shaped p, pDs_shaped L, ?_⟩
  rw [any_pD]
  exact q
/-- two lists of pairs -/
def rEqPs (K : PySem.W.Frag) (neg : Bool) : R2 := fun x y H Q => ∃ (l m : Addr) (vs us : List V) (L M : List Pc), x = .ref l ∧ y = .ref m ∧ SqL K H l vs ∧ SqL K H m us ∧ Prs H vs L ∧ Prs H us M ∧ Q (.bl (if neg then !decide (L = M) else decide (L = M))) H
theorem op_eqPs (hu : X.A.units + 64 < cLine) : OpR X (compareOp .Eq) (rEqPs X.K false) := by
  intro pins s σ H x y v u Q I rx ry h
  obtain ⟨l, m, vs, us, L, M, rfl, rfl, hl, hm, hp, hq, q⟩ := h
  refine op_eqD hu pins s σ H _ _ v u Q I rx ry ⟨_, _, hp.dp hl, hq.dp hm, pDs_shaped L, pDs_shaped M, ?_⟩
  simp only [PyData.eqv]
  rw [pDs_eqv]
  exact q
theorem op_nePs (hu : X.A.units + 64 < cLine) : OpR X (compareOp .NotEq) (rEqPs X.K true) := by
  intro pins s σ H x y v u Q I rx ry h
  obtain ⟨l, m, vs, us, L, M, rfl, rfl, hl, hm, hp, hq, q⟩ := h
  refine op_neD hu pins s σ H _ _ v u Q I rx ry ⟨_, _, hp.dp hl, hq.dp hm, pDs_shaped L, pDs_shaped M, ?_⟩
  simp only [PyData.eqv]
  rw [pDs_eqv]
  exact q
theorem eqT {L M : List Pc} (h : L = M) : V.bl (if false = true then !decide (L = M) else decide (L = M)) = V.bl true := by
  rw [decide_eq_true h]
  rfl
theorem neF {L M : List Pc} (h : L = M) : V.bl (if true = true then !decide (L = M) else decide (L = M)) = V.bl false := by
  rw [decide_eq_true h]
  rfl
/-- two pairs -/
def rNeP : R2 := fun x y H Q => ∃ p q : Pc, IsPr H x p ∧ IsPr H y q ∧ Q (.bl (!decide (p = q))) H
theorem op_neP (hu : X.A.units + 64 < cLine) : OpR X (compareOp .NotEq) rNeP := by
  intro pins s σ H x y v u Q I rx ry h
  obtain ⟨p, q, hp, hq, k⟩ := h
  refine op_neD hu pins s σ H _ _ v u Q I rx ry ⟨_, _, hp.dp, hq.dp, pD_shaped p, pD_shaped q, ?_⟩
  rw [pD_eqv]
  exact k
/-- sorted of a list of pairs -/
def rSortPs (K : PySem.W.Frag) : List V → Hp → VK → Prop := fun vs H Q => ∃ (a : Addr) (xs : List V) (L : List Pc), vs = [.ref a] ∧ SqL K H a xs ∧ Prs H xs L ∧
  ∀ (ys : List V) (M : List Pc) (q : Addr), M.Perm L → Bud.Srt M → Prs H ys M → H q = none → Q (.ref q) (upd H q (.lst ys))
theorem cr_sortPs : CallR X (.builtin "sorted") (rSortPs X.K) := by
  intro pins s σ H vs us Q I r h
  obtain ⟨a, xs, L, rfl, hl, hp, k⟩ := h
  refine cr_sortedPO pins s σ H _ us Q I r ⟨a, xs, pairOf H, rfl, hl, fun x hx => hp.mem x hx, fun ys q hs hb hq => ?_⟩
  have hm : ∀ y ∈ ys, IsPr H y (pairOf H y) := fun y hy => hp.mem y (hb.perm.mem_iff.mp hy)
  refine k ys (ys.map (pairOf H)) q ?_ ?_ (Prs.of_mem hm) hq
  · rw [hp.map_of]
    exact hb.perm.map _
  · refine List.pairwise_map.mpr (List.Pairwise.imp (fun {x y} h => ?_) hs)
    have := SrtO.lexB_no.mp h
    unfold Bud.lexle
    omega
end

/-! ### p[0], p[1] of a pair -/
section
variable {X : Cx} {e i : Expr} {te : TE} {pos p2 : Pos} {k : Nat}
def tSel0 (te : TE) : TE := fun σ H Q => te σ H fun x H1 => ∃ p : Pc, IsPr H1 x p ∧ Q (.int p.1) H1
def tSel1 (te : TE) : TE := fun σ H Q => te σ H fun x H1 => ∃ p : Pc, IsPr H1 x p ∧ Q (.int p.2) H1
theorem pe_p0 {p3 : Pos} (he : PE X e te) : PE X (.Subscript e (.Constant (.int 0) k p3) pos) (tSel0 te) := by
  refine ⟨fun pins s σ H Q I h => ?_⟩
  refine PyProof.Rows.Subscript_ (thn (he.run pins s σ H _ I h) fun v s1 ⟨x, H1, I1, rx, p, hp, q⟩ => thn (pe_int.run pins s1 σ H1 (fun y H2 => y = .int 0 ∧ H2 = H1) I1 ⟨rfl, rfl⟩) fun u s2 ⟨y, H2, I2, ry, ey, eH⟩ => ?_)
  subst ey
  subst eH
  obtain ⟨t, rfl, et⟩ := hp
  exact ix_tup e _ pins s2 σ H2 _ _ v u Q I2 rx ry ⟨t, _, 0, _, rfl, rfl, SqT.of et, rfl, q⟩ rfl
theorem pe_p1 {p3 : Pos} (he : PE X e te) : PE X (.Subscript e (.Constant (.int 1) k p3) pos) (tSel1 te) := by
  refine ⟨fun pins s σ H Q I h => ?_⟩
  refine PyProof.Rows.Subscript_ (thn (he.run pins s σ H _ I h) fun v s1 ⟨x, H1, I1, rx, p, hp, q⟩ => thn (pe_int.run pins s1 σ H1 (fun y H2 => y = .int 1 ∧ H2 = H1) I1 ⟨rfl, rfl⟩) fun u s2 ⟨y, H2, I2, ry, ey, eH⟩ => ?_)
  subst ey
  subst eH
  obtain ⟨t, rfl, et⟩ := hp
  exact ix_tup e _ pins s2 σ H2 _ _ v u Q I2 rx ry ⟨t, _, 1, _, rfl, rfl, SqT.of et, rfl, q⟩ rfl
theorem PE.imp {X : Cx} {e : Expr} {t t' : TE} (h : PE X e t) (i : ∀ σ H Q, t' σ H Q → t σ H Q) : PE X e t' := ⟨fun pins s σ H Q I q => h.run pins s σ H Q I (i σ H Q q)⟩
end

/-! ### xs.remove(p), p a pair that is there -/
theorem place_pD : ∀ {L : List Pc} {p : Pc}, p ∈ L → ∃ j, SeqAt.dataPlace (L.map pD) (pD p) = some j ∧ L.eraseIdx j = L.erase p
  | [], p, h => by cases h
  | q :: L, p, h => by
    unfold SeqAt.dataPlace
    rw [List.map_cons, List.findIdx?_cons, pD_eqv]
    by_cases e : q = p
    · subst e
      rw [decide_eq_true rfl]
      exact ⟨0, rfl, by rw [List.erase_cons_head]; rfl⟩
    · rw [decide_eq_false e]
      have hp : p ∈ L := by
        rcases List.mem_cons.mp h with z | z
        · exact absurd z.symm e
        · exact z
      obtain ⟨j, h1, h2⟩ := place_pD hp
      unfold SeqAt.dataPlace at h1
      refine ⟨j + 1, ?_, ?_⟩
      · simp only [Bool.false_eq_true, if_false]
        rw [h1]
        rfl
      · rw [List.erase_cons_tail (by simpa using e), ← h2]
        rfl
section
variable {X : Cx}
def rRemP : V → List V → Hp → VK → Prop := fun x xs H Q => ∃ (l : Addr) (y : V) (vs : List V) (L : List Pc) (p : Pc), x = .ref l ∧ xs = [y] ∧ H l = some (.lst vs) ∧ Prs H vs L ∧ IsPr H y p ∧ p ∈ L ∧
  ∀ vs', Prs H vs' (L.erase p) → Q .non (upd H l (.lst vs'))
theorem mt_removeP (hu : X.A.units + 65 < cLine) : MtR X "list.remove" rRemP := by
  intro pins s σ H x xs v us Q I rx rxs h
  obtain ⟨l, y, vs, L, p, rfl, rfl, hl, hp, hy, hm, q⟩ := h
  cases rx
  obtain ⟨u, rfl, ry⟩ := vals1 rxs
  obtain ⟨z, its, n, r, hlen, e0⟩ := I.lstM hl
  obtain ⟨bs, r1⟩ := Dp.reads I (pD p) y u (hy.dp (K := X.K)) ry
  obtain ⟨as, r2⟩ := Dp.readsAll I (L.map pD) vs its (hp.dps (K := X.K)) r
  obtain ⟨j, hj, he⟩ := place_pD hm
  have hsz : its.toArray.size ≤ sizeLine := by rw [List.size_toArray, ← hlen]; exact z
  refine SeqAt.remove_list_data (vs := its.toArray) ⟨_, e0, rfl, n, rfl⟩ r2 r1 (pDs_plain L) (pD_plain p) ?_ hj hsz ?_
  · have h1 := pD_depth p
    have h2 : min (PyData.depthAll (L.map pD)) (pD p).depth ≤ (pD p).depth := Nat.min_le_right _ _
    omega
  · refine ⟨.non, _, I.lset (its' := its.eraseIdx j) hl e0 ?_ (r.eraseIdx j) ?_, rfl, q (vs.eraseIdx j) ?_⟩
    · show its.toArray.eraseIdxIfInBounds j = (its.eraseIdx j).toArray
      rw [List.eraseIdxIfInBounds_toArray]
    · have := List.length_eraseIdx_le vs j
      omega
    · rw [← he]
      exact hp.eraseIdx j
/-- sorted(d): the keys of a dict, all whole numbers, any number of them -/
def rSortD : List V → Hp → VK → Prop := fun xs H Q => ∃ (a : Addr) (kvs : List (Key × V)) (ks : List Int), xs = [.ref a] ∧ Rd H a (.dK kvs) ∧ kvs.map (·.1) = ks.map Sum.inl ∧
    ∀ (ys : List Int) (p : Addr), ys.Perm ks → ys.Pairwise (· ≤ ·) → H p = none → Q (.ref p) (upd H p (.lst (ys.map V.int)))
theorem cr_sortD (hcalm : X.calm = true) : CallR X (.builtin "sorted") rSortD := by
  intro pins s σ H xs us Q I r q
  obtain ⟨a, kvs, ks, rfl, hd, hks, q⟩ := q
  obtain ⟨u, rfl, rx⟩ := vals1 r
  cases rx
  obtain ⟨z, lo, vs, rel, dd⟩ := dk_rd I.hok hd
  obtain ⟨ep, hat⟩ := dd.dictAt
  have hkeys : vs.map (·.1) = ks.map Sum.inl := rel.keys.symm.trans hks
  have hl : vs.length = ks.length := by
    have e := congrArg List.length hkeys
    rw [List.length_map, List.length_map] at e
    exact e
  have h16 : vs.length ≤ sizeLine := by
    have e : kvs.length = vs.length := Paired.length rel
    omega
  refine Calls.call_function_entry PyProof.Rows.kind_sorted PyProof.Rows.plain_sorted PyProof.Rows.entry_sorted (PyProof.Rows.args_sorted1 _) ?_
  unfold Builtin.«sorted»
  refine wpAny_bind (m := checkCount "sorted" 1 1 _) (wpAny_pure ?_)
  refine wpAny_bind (PySem.W.kdu_collect (A := X.A.in1) (PySem.W.kdl_dict (knd := mixKind X.prog X.w) (kvs := vs) (ep := ep) lo) (I.ok.hd hcalm) hat h16 fun h' tk acc hk hacc => ?_)
  have hal : acc.toList.length = ks.length := by rw [Array.length_toList, hacc.1, hl]
  have hS : PyProof.Rows.IntsAre acc.toList ks := ints_each hal fun j v e => by
    obtain ⟨k, x, e1, e2⟩ := hacc.2 j v (by rw [← Array.getElem?_toList]; exact e)
    have e3 : (vs.map (·.1))[j]? = some k := by rw [List.getElem?_map, e1]; rfl
    rw [hkeys, List.getElem?_map] at e3
    cases e4 : ks[j]? with
    | none => rw [e4] at e3; cases e3
    | some y =>
      rw [e4] at e3
      have e5 : Sum.inl y = k := Option.some.inj e3
      subst e5
      rcases keyIs_shape (show keyIs (Sum.inl y) v = true from e2) with ⟨i, t, ek, ev⟩ | ⟨z, t, ek, ev⟩
      · cases ek
        exact ⟨y, t, rfl, ev⟩
      · cases ek
  have I1 : Inv X pins σ H { s with heap := h', toks := tk } := I.kept hk
  have hzz : acc.toList.length ≤ sizeLine := by omega
  refine wpAny_bind (wpAny_newList ?_ hzz)
  have hoL : (h'.push (PyProof.Rows.seqObj "list" acc.toList.toArray 0)).get? h'.objs.size = some (PyProof.Rows.seqObj "list" acc.toList.toArray 0) := Heap.get?_push_size _ rfl
  show wpAny _ _ _ _ _ { s with heap := h'.push (PyProof.Rows.seqObj "list" acc.toList.toArray 0), toks := tk }
  refine wpAny_bind (wpAny_holding (wpAny_call_entry PyProof.Rows.slot_list_sort ⟨_, hoL, rfl⟩ PyProof.Rows.entry_list_sort
    (SrtO.list_sort_ord (s := { s with heap := h'.push (PyProof.Rows.seqObj "list" acc.toList.toArray 0), toks := tk }) SrtO.swo_int hoL hzz (fun h2 => SrtO.ints_sortable hS h2) fun out g1 g2 => ⟨_, rfl, ?_⟩) (PyProof.Rows.args_list_sort _)))
  obtain ⟨k1, k2, k3⟩ := SrtO.ints_out hS g1 g2
  obtain ⟨e', he'⟩ := PyProof.Rows.sortedHeap_at (vs := acc.toList) (out := out.toArray) hoL
  have hlen : ((out.map SrtO.iv).map V.int).length ≤ sizeLine := by
    rw [List.length_map, k2.length_eq]
    omega
  refine wpAny_pure ⟨_, rfl, .ref h'.objs.size, upd H h'.objs.size (.lst ((out.map SrtO.iv).map V.int)), I1.laid (t' := tk) (fun b u e => ?_) (Nat.le_refl _)
    (show ObjOk X.prog X.w _ _ _ (.lst ((out.map SrtO.iv).map V.int)) from ⟨hlen, out, e', vals_of_ints k1, he'⟩), rfl, q _ _ k2 k3 (I1.hok.fresh (Nat.le_refl _))⟩
  have hb : b < h'.objs.size := Heap.lt_size e
  rw [PyProof.Rows.sortedHeap_old (Nat.ne_of_lt hb) (by rw [Heap.size_push]; exact Nat.lt_succ_of_lt hb)]
  exact Heap.get?_push_of_some _ e
end
end Yd

set_option Elab.async false
set_option linter.all false
set_option maxRecDepth 100000
set_option maxHeartbeats 4000000
/-! A yard in the heap. -/
namespace Yd
open PySem PySem.Spec L2
open PyProof.Rows (envOfC)
open Bud (Pc T Can frees outs pw)

/-! ### its fields -/
theorem n_cs : ¬ (("cells" : Str) = "spare") := by decide +kernel
theorem n_cg : ¬ (("cells" : Str) = "given") := by decide +kernel
theorem n_sg : ¬ (("spare" : Str) = "given") := by decide +kernel
def yf (c : Int) (l d : Addr) : List (Str × V) := putF "given" (.ref d) (putF "spare" (.ref l) (putF "cells" (.int c) []))
theorem yf_eq (c : Int) (l d : Addr) : yf c l d = ([("cells", V.int c), ("spare", V.ref l), ("given", V.ref d)] : List (Str × V)) := by
  unfold yf
  show (if ("cells" : Str) = "given" then _ else (("cells" : Str), V.int c) :: putF "given" (.ref d) (putF "spare" (.ref l) [])) = _ <;>
  first
  | rfl
  | (simp only [putF, if_neg n_cs, if_neg n_cg, if_neg n_sg])
theorem yf_cells (c : Int) (l d : Addr) : (yf c l d).lookup ("cells" : Str) = some (.int c) := by
  unfold yf
  rw [lookup_putF, if_neg n_cg, lookup_putF, if_neg n_cs, lookup_putF, if_pos rfl]
theorem yf_spare (c : Int) (l d : Addr) : (yf c l d).lookup ("spare" : Str) = some (.ref l) := by
  unfold yf
  rw [lookup_putF, if_neg n_sg, lookup_putF, if_pos rfl]
theorem yf_given (c : Int) (l d : Addr) : (yf c l d).lookup ("given" : Str) = some (.ref d) := by
  unfold yf
  rw [lookup_putF, if_pos rfl]
theorem yf_no (c : Int) (l d : Addr) {m : Str} (h1 : ¬ m = "cells") (h2 : ¬ m = "spare") (h3 : ¬ m = "given") : (yf c l d).lookup m = none := by
  unfold yf
  rw [lookup_putF, if_neg h3, lookup_putF, if_neg h2, lookup_putF, if_neg h1]
  rfl
theorem yf_put (c : Int) (l m d : Addr) : putF "spare" (.ref m) (yf c l d) = yf c m d := by
  rw [yf_eq, yf_eq]
  simp only [putF, if_neg n_cs, if_pos]
theorem yf_len (c : Int) (l d : Addr) : (yf c l d).length < 1000 := by
  rw [yf_eq]
  show 3 < 1000
  decide

/-! ### the dict of what is given -/
def gk (G : List Pc) : List (Key × V) := G.map fun p => ((Sum.inl p.1 : Key), V.int p.2)
theorem gk_len (G : List Pc) : (gk G).length = G.length := List.length_map _
theorem gk_keys (G : List Pc) : (gk G).map (·.1) = (G.map (·.1)).map Sum.inl := by
  unfold gk
  rw [List.map_map, List.map_map]
  rfl
theorem gk_none {a : Int} : ∀ {G : List Pc}, (∀ p ∈ G, p.1 ≠ a) → valV (gk G) (Sum.inl a : Key) = none
  | [], _ => rfl
  | p :: G, h => by
    show valV (((Sum.inl p.1 : Key), V.int p.2) :: gk G) (Sum.inl a) = none
    rw [valV_neg (fun q => h p List.mem_cons_self (Sum.inl.inj q))]
    exact gk_none fun q hq => h q (List.mem_cons_of_mem _ hq)
theorem gk_val {a s : Int} : ∀ {G : List Pc}, (G.map (·.1)).Nodup → (a, s) ∈ G → valV (gk G) (Sum.inl a : Key) = some (.int s)
  | [], _, h => by cases h
  | p :: G, nd, h => by
    show valV (((Sum.inl p.1 : Key), V.int p.2) :: gk G) (Sum.inl a) = some (.int s)
    have ⟨n1, n2⟩ := List.nodup_cons.mp nd
    rcases List.mem_cons.mp h with e | h
    · rw [← e]
      exact valV_pos rfl
    · rw [valV_neg (fun q => n1 (by
      show p.1 ∈ G.map (·.1)
      rw [show p.1 = a from Sum.inl.inj q]
      exact List.mem_map.mpr ⟨_, h, rfl⟩))]
      exact gk_val n2 h
theorem gk_some {a : Int} {v : V} : ∀ {G : List Pc}, valV (gk G) (Sum.inl a : Key) = some v → ∃ s, v = .int s ∧ (a, s) ∈ G
  | [], h => by cases h
  | p :: G, h => by
    have h' : valV (((Sum.inl p.1 : Key), V.int p.2) :: gk G) (Sum.inl a) = some v := h
    by_cases e : p.1 = a
    · rw [valV_pos (by rw [e])] at h'
      refine ⟨p.2, (Option.some.inj h').symm, ?_⟩
      rw [← e]
      exact List.mem_cons_self
    · rw [valV_neg (fun q => e (Sum.inl.inj q))] at h'
      obtain ⟨s, e1, e2⟩ := gk_some h'
      exact ⟨s, e1, List.mem_cons_of_mem _ e2⟩
theorem gk_drop (G : List Pc) (a : Int) : dropK (gk G) (Sum.inl a : Key) = gk (G.filter fun p => decide (p.1 ≠ a)) := by
  unfold dropK gk
  rw [List.filter_map]
  congr 1
  refine List.filter_congr fun p _ => ?_
  show decide ((Sum.inl p.1 : Key) ≠ Sum.inl a) = decide (p.1 ≠ a)
  exact decide_eq_decide.mpr ⟨fun h q => h (by rw [q]), fun h q => h (Sum.inl.inj q)⟩
theorem gk_new {G : List Pc} {a s : Int} (h : valV (gk G) (Sum.inl a : Key) = none) : putK (gk G) (Sum.inl a) (.int s) = gk (G ++ [(a, s)]) := by
  rw [putK_new _ h]
  unfold gk
  rw [List.map_append]
  rfl
theorem gk_old {G : List Pc} {a s : Int} {v : V} (h : valV (gk G) (Sum.inl a : Key) = some v) : putK (gk G) (Sum.inl a) (.int s) = gk (G.map fun p => if p.1 = a then (p.1, s) else p) := by
  unfold putK
  rw [valV_any, h, if_pos (show (some v).isSome = true from rfl)]
  unfold gk
  rw [List.map_map, List.map_map]
  refine List.map_congr_left fun p _ => ?_
  show (if (Sum.inl p.1 : Key) = Sum.inl a then _ else _) = _
  by_cases e : p.1 = a
  · rw [if_pos (by rw [e])]
    show _ = ((Sum.inl (if p.1 = a then (p.1, s) else p).1 : Key), V.int (if p.1 = a then (p.1, s) else p).2)
    rw [if_pos e]
  · rw [if_neg (fun q => e (Sum.inl.inj q))]
    show _ = ((Sum.inl (if p.1 = a then (p.1, s) else p).1 : Key), V.int (if p.1 = a then (p.1, s) else p).2)
    rw [if_neg e]

/-! ### what stays -/
/-- all but what stands at p and d is as it was -/
def Kp (p d : Addr) (H H' : Hp) : Prop := ∀ b o, H b = some o → b ≠ p → b ≠ d → H' b = some o
theorem Same.kp {H H' : Hp} (s : Same H H') (p d : Addr) : Kp p d H H' := fun b o e _ _ => s b o e
theorem Kp.trans {p d : Addr} {H H1 H2 : Hp} (a : Kp p d H H1) (b : Kp p d H1 H2) : Kp p d H H2 := fun c o e h1 h2 => b c o (a c o e h1 h2) h1 h2
theorem Kp.free {p d : Addr} {H H' : Hp} (k : Kp p d H H') {b : Addr} (hp : b ≠ p) (hd : b ≠ d) (h : H' b = none) : H b = none := by
  cases q : H b with
  | none => rfl
  | some o =>
    rw [k b o q hp hd] at h
    cases h
/-- a yard at p, its dict at d -/
def YardAt (K : PySem.W.Frag) (H : Hp) (p d : Addr) (c : Int) (L G : List Pc) : Prop := ∃ (dx l : Addr) (xs : List V), H p = some (.ins (He.ga K "Yard") dx (yf c l d)) ∧ H l = some (.lst xs) ∧ Prs H xs L ∧ H d = some (.dK (gk G))
/-- there is a yard -/
def HasY (H : Hp) (p d : Addr) : Prop := (∃ C dx fs, H p = some (.ins C dx fs)) ∧ ∃ kvs, H d = some (.dK kvs)
section
variable {K : PySem.W.Frag} {H H' : Hp} {p d : Addr} {c : Int} {L G : List Pc}
theorem YardAt.has (y : YardAt K H p d c L G) : HasY H p d := by
  obtain ⟨dx, l, xs, h1, _, _, h2⟩ := y
  exact ⟨⟨_, _, _, h1⟩, _, h2⟩
theorem YardAt.same (s : Same H H') (y : YardAt K H p d c L G) : YardAt K H' p d c L G := by
  obtain ⟨dx, l, xs, h1, h2, h3, h4⟩ := y
  exact ⟨dx, l, xs, s _ _ h1, s _ _ h2, h3.kept (Same.tups s), s _ _ h4⟩
theorem HasY.ne (y : HasY H p d) : p ≠ d := by
  obtain ⟨⟨_, _, _, h1⟩, _, h2⟩ := y
  exact ne_of h1 h2 (by intro z; cases z)
theorem HasY.other (y : HasY H p d) {b : Addr} {o : HO} (h : H b = some o) (h1 : ∀ C dx fs, o ≠ .ins C dx fs) (h2 : ∀ kvs, o ≠ .dK kvs) : b ≠ p ∧ b ≠ d := by
  obtain ⟨⟨_, _, _, e1⟩, _, e2⟩ := y
  exact ⟨ne_of h e1 (h1 _ _ _), ne_of h e2 (h2 _)⟩
theorem HasY.keep (y : HasY H p d) (k : Kp p d H H') {b : Addr} {o : HO} (h : H b = some o) (h1 : ∀ C dx fs, o ≠ .ins C dx fs) (h2 : ∀ kvs, o ≠ .dK kvs) : H' b = some o := by
  obtain ⟨n1, n2⟩ := y.other h h1 h2
  exact k b o h n1 n2
theorem HasY.lst (y : HasY H p d) (k : Kp p d H H') {b : Addr} {xs : List V} (h : H b = some (.lst xs)) : H' b = some (.lst xs) := y.keep k h (fun _ _ _ z => by cases z) (fun _ z => by cases z)
theorem HasY.tups (y : HasY H p d) (k : Kp p d H H') : TupKept H H' := fun b xs h => y.keep k h (fun _ _ _ z => by cases z) (fun _ z => by cases z)
theorem HasY.prs (y : HasY H p d) (k : Kp p d H H') {xs : List V} {M : List Pc} (h : Prs H xs M) : Prs H' xs M := h.kept (y.tups k)
theorem HasY.seq (y : HasY H p d) (k : Kp p d H H') {a : Addr} {xs : List V} (h : SqL K H a xs) : SqL K H' a xs := by
  rcases h with (h | ⟨o, h⟩) | h
  · exact .inl (.inl (y.lst k h))
  · exact .inl (.inr ⟨o, y.keep k h (fun _ _ _ z => by cases z) (fun _ z => by cases z)⟩)
  · exact .inr h
end
/-- a yard of 2 ** k cells whose pieces are t's -/
def YardT (K : PySem.W.Frag) (H : Hp) (p d : Addr) {k : Nat} (t : T k) : Prop := k ≤ 60 ∧ Can t ∧ ∃ G, G.Perm (outs t 0) ∧ YardAt K H p d (pw k) (frees t 0) G
section
variable {K : PySem.W.Frag} {H H' : Hp} {p d : Addr} {k : Nat} {t : T k}
theorem YardT.has (y : YardT K H p d t) : HasY H p d := by
  obtain ⟨_, _, G, _, y⟩ := y
  exact y.has
theorem YardT.same (s : Same H H') (y : YardT K H p d t) : YardT K H' p d t := by
  obtain ⟨h1, h2, G, h3, y⟩ := y
  exact ⟨h1, h2, G, h3, y.same s⟩
end
theorem keys_nd {k : Nat} {t : T k} {G : List Pc} (h : G.Perm (outs t 0)) : (G.map (·.1)).Nodup :=
  (h.map (·.1)).nodup_iff.mpr (Bud.nodup_fst_of_ahead (Bud.ahead_outs t (Bud.zdvd k)) fun p hp => (Bud.in_outs t (Bud.zdvd k) hp).pos)
theorem frees_1000 {k : Nat} {t : T k} (hk : k ≤ 60) (hc : Can t) (h : (outs t 0).length ≤ 1000) : (frees t 0).length ≤ 100000 := by
  have h1 := (Bud.frees_few t 0 hc).1
  have h2 : k * (outs t 0).length ≤ 60 * 1000 := Nat.mul_le_mul hk h
  omega
theorem frees_sz {k : Nat} {t : T k} (hk : k ≤ 60) : ∀ p ∈ frees t 0, 0 < p.2 ∧ p.2 ≤ pw 60 := fun p hp => by
  have i := Bud.in_frees t (Bud.zdvd k) hp
  obtain ⟨_, _, j, hj, e, _⟩ := i
  rw [e]
  exact ⟨Bud.pw_pos j, Bud.pw_le (by omega)⟩

structure NoM (fs : List (Str × V)) : Prop where
  give : fs.lookup ("give" : Str) = none
  take : fs.lookup ("take_back" : Str) = none
  resize : fs.lookup ("resize" : Str) = none
  free : fs.lookup ("free" : Str) = none
  out : fs.lookup ("out" : Str) = none
  owner : fs.lookup ("owner" : Str) = none
theorem noM (c : Int) (l d : Addr) : NoM (yf c l d) :=
  ⟨yf_no _ _ _ (by decide +kernel) (by decide +kernel) (by decide +kernel), yf_no _ _ _ (by decide +kernel) (by decide +kernel) (by decide +kernel), yf_no _ _ _ (by decide +kernel) (by decide +kernel) (by decide +kernel),
    yf_no _ _ _ (by decide +kernel) (by decide +kernel) (by decide +kernel), yf_no _ _ _ (by decide +kernel) (by decide +kernel) (by decide +kernel), yf_no _ _ _ (by decide +kernel) (by decide +kernel) (by decide +kernel)⟩
theorem YardAt.at_ {K : PySem.W.Frag} {H : Hp} {p d : Addr} {c : Int} {L G : List Pc} (y : YardAt K H p d c L G) : ∃ dx fs, H p = some (.ins (He.ga K "Yard") dx fs) ∧ NoM fs ∧ fs.lookup ("cells" : Str) = some (.int c) := by
  obtain ⟨dx, l, xs, h1, _⟩ := y
  exact ⟨dx, _, h1, noM c l d, yf_cells c l d⟩
theorem YardT.at_ {K : PySem.W.Frag} {H : Hp} {p d : Addr} {k : Nat} {t : T k} (y : YardT K H p d t) : ∃ dx fs, H p = some (.ins (He.ga K "Yard") dx fs) ∧ NoM fs ∧ fs.lookup ("cells" : Str) = some (.int (pw k)) := by
  obtain ⟨_, _, G, _, y⟩ := y
  exact y.at_
theorem yardT_new {K : PySem.W.Frag} {H : Hp} {p d : Addr} {k : Nat} (hk : k ≤ 60) (y : YardAt K H p d (pw k) [(0, pw k)] []) : YardT K H p d (.free : T k) := ⟨hk, trivial, [], List.Perm.refl _, y⟩
/-- a read-only raw yard of a tree's -/
theorem YardT.raw {K : PySem.W.Frag} {H : Hp} {p d : Addr} {k : Nat} {t : T k} (y : YardT K H p d t) : ∃ G, G.Perm (outs t 0) ∧ (G.map (·.1)).Nodup ∧ YardAt K H p d (pw k) (frees t 0) G := by
  obtain ⟨_, _, G, hG, y⟩ := y
  exact ⟨G, hG, keys_nd hG, y⟩
/-- the list of the free pieces stands at l -/
def Spare (H : Hp) (p l : Addr) : Prop := ∃ C dx fs, H p = some (.ins C dx fs) ∧ fs.lookup ("spare" : Str) = some (.ref l)
theorem Spare.eq {H : Hp} {p l m d C dx : Addr} {c : Int} (h : Spare H p l) (e : H p = some (.ins C dx (yf c m d))) : l = m := by
  obtain ⟨_, _, fs, e1, e2⟩ := h
  rw [e] at e1
  cases e1
  rw [yf_spare] at e2
  cases e2
  rfl
theorem Same.none {H H' : Hp} (s : Same H H') {b : Addr} (h : H' b = none) : H b = none := by
  cases q : H b with
  | none => rfl
  | some o =>
    rw [s _ _ q] at h
    cases h
theorem none_upd {H : Hp} {a b : Addr} {o : HO} (h : (upd H a o) b = none) : H b = none := by
  by_cases e : b = a
  · subst e
    rw [upd_same] at h
    cases h
  · rw [upd_ne e] at h
    exact h
/-- a store to a list that is not the yard's -/
theorem YardT.put {K : PySem.W.Frag} {H : Hp} {p d h : Addr} {k : Nat} {t : T k} (y : YardT K H p d t) {xs : List V} (hl : H h = some (.lst xs)) (ns : ¬ Spare H p h) (o : HO) : YardT K (upd H h o) p d t := by
  obtain ⟨hk, hc, G, hG, dx, l, zs, h1, h2, h3, h4⟩ := y
  have e1 : p ≠ h := ne_of h1 hl (by intro z; cases z)
  have e2 : d ≠ h := ne_of h4 hl (by intro z; cases z)
  have e3 : l ≠ h := fun z => ns ⟨_, _, _, h1, by rw [← z]; exact yf_spare _ _ _⟩
  exact ⟨hk, hc, G, hG, dx, l, zs, by rw [upd_ne e1]; exact h1, by rw [upd_ne e3]; exact h2, h3.kept (tups_put hl (fun xs z => by cases z)), by rw [upd_ne e2]; exact h4⟩
theorem Spare.upd {H : Hp} {p l a : Addr} {o : HO} (h : Spare (L2.upd H a o) p l) (ne : p ≠ a) : Spare H p l := by
  obtain ⟨C, dx, fs, e1, e2⟩ := h
  rw [upd_ne ne] at e1
  exact ⟨C, dx, fs, e1, e2⟩
theorem Spare.same {H H' : Hp} {p l d : Addr} (s : Same H H') (y : HasY H p d) (h : Spare H' p l) : Spare H p l := by
  obtain ⟨⟨C, dx, fs, e⟩, _⟩ := y
  obtain ⟨C2, dx2, fs2, e1, e2⟩ := h
  rw [s _ _ e] at e1
  cases e1
  exact ⟨C, dx, fs, e, e2⟩
theorem isSz_pw {k : Nat} (h : k ≤ 60) : isSz (pw k) = true := isSz_iff.mpr ⟨k, h, rfl⟩
end Yd

set_option Elab.async false
set_option linter.all false
set_option maxRecDepth 100000
set_option maxHeartbeats 4000000
/-! Two yards, slices, pairs of lists of pairs. -/
namespace Yd
open PySem PySem.Spec L2
open PyProof.Rows (envOfC)
open Bud (Pc T Can frees outs pw)

/-- cells, the part lo to hi -/
def cutI {α : Type} (xs : List α) (lo hi : Option Int) : List α := (xs.drop (HT.sIx xs.length 0 lo)).take (HT.sIx xs.length xs.length hi - HT.sIx xs.length 0 lo)
theorem cutV_ints (ns : List Int) (lo hi : Option Int) : cutV (ns.map V.int) lo hi = (cutI ns lo hi).map V.int := by
  unfold cutV cutI
  rw [List.length_map, List.map_take, List.map_drop]
theorem cutI_length {α : Type} (xs : List α) (lo hi : Option Int) : (cutI xs lo hi).length ≤ xs.length := by
  unfold cutI
  rw [List.length_take, List.length_drop]
  omega
theorem Prs.drop {H : Hp} : ∀ {xs : List V} {L : List Pc} (i : Nat), Prs H xs L → Prs H (xs.drop i) (L.drop i)
  | _, _, 0, h => h
  | _, _, _ + 1, .nil => .nil
  | _, _, i + 1, .cons _ t => Prs.drop i t
theorem Prs.cut {H : Hp} {xs : List V} {L : List Pc} (h : Prs H xs L) (lo hi : Option Int) : Prs H (cutV xs lo hi) (cutI L lo hi) := by
  unfold cutV cutI
  rw [h.length]
  exact (h.drop _).take _
/-! ### another yard stands still -/
theorem YardT.frame {K : PySem.W.Frag} {H H' : Hp} {p d p2 d2 : Addr} {k : Nat} {t : T k} (y : YardT K H p2 d2 t) (h : HasY H p d) (kp : Kp p d H H') (n1 : p2 ≠ p) (n2 : d2 ≠ d) : YardT K H' p2 d2 t := by
  obtain ⟨hk, hc, G, hG, dx, l, zs, h1, h2, h3, h4⟩ := y
  obtain ⟨⟨C, dy, fs, e1⟩, kvs, e2⟩ := id h
  have n3 : p2 ≠ d := ne_of h1 e2 (by intro z; cases z)
  have n4 : d2 ≠ p := ne_of h4 e1 (by intro z; cases z)
  exact ⟨hk, hc, G, hG, dx, l, zs, kp _ _ h1 n1 n3, h.lst kp h2, h.prs kp h3, kp _ _ h4 n4 n2⟩
theorem HasY.frame {H H' : Hp} {p d p2 d2 : Addr} (y : HasY H p2 d2) (h : HasY H p d) (kp : Kp p d H H') (n1 : p2 ≠ p) (n2 : d2 ≠ d) : HasY H' p2 d2 := by
  obtain ⟨⟨C, dx, fs, h1⟩, kvs, h4⟩ := y
  obtain ⟨⟨_, dy, gs, e1⟩, kvs', e2⟩ := id h
  exact ⟨⟨C, dx, fs, kp _ _ h1 n1 (ne_of h1 e2 (by intro z; cases z))⟩, kvs, kp _ _ h4 (ne_of h4 e1 (by intro z; cases z)) n2⟩
theorem HasY.same {H H' : Hp} {p d : Addr} (y : HasY H p d) (s : Same H H') : HasY H' p d := by
  obtain ⟨⟨C, dx, fs, h1⟩, kvs, h4⟩ := y
  exact ⟨⟨C, dx, fs, s _ _ h1⟩, kvs, s _ _ h4⟩
/-! ### [out, free] -/
def lD (L : List Pc) : PyData := .list (L.map pD)
def LL (L M : List Pc) : PyData := .list [lD L, lD M]
theorem LL_shaped (L M : List Pc) : SeqAt.shaped (LL L M) = true := by
  have h1 := pDs_depth L
  have h2 := pDs_depth M
  have h3 : PyData.depth (LL L M) ≤ 64 := by
    simp only [LL, lD, PyData.depth, PyData.depthAll]
    omega
  show (PyData.canLay0 (LL L M) && decide (PyData.depth (LL L M) ≤ 64)) = true
  rw [Bool.and_eq_true]
  refine ⟨?_, decide_eq_true h3⟩
  simp only [LL, lD, PyData.canLay0, PyData.canLayAll0, pDs_lay, Bool.and_true]
theorem LL_eqv (L M L' M' : List Pc) : PyData.eqv (LL L M) (LL L' M') = decide (L = L' ∧ M = M') := by
  simp only [LL, lD, PyData.eqv, PyData.eqvAll, pDs_eqv, Bool.and_true]
  rw [Bool.decide_and]
/-- l is a list of two lists of pairs -/
def IsLL (K : PySem.W.Frag) (H : Hp) (x : V) (L M : List Pc) : Prop := ∃ (l a b : Addr) (xs ys : List V), x = .ref l ∧ H l = some (.lst [.ref a, .ref b]) ∧ H a = some (.lst xs) ∧ H b = some (.lst ys) ∧ Prs H xs L ∧ Prs H ys M
section
variable {K : PySem.W.Frag} {H H' : Hp} {x : V} {L M : List Pc} {p d : Addr}
theorem IsLL.dp (h : IsLL K H x L M) : Dp K H x (LL L M) := by
  obtain ⟨l, a, b, xs, ys, rfl, e, e1, e2, p1, p2⟩ := h
  exact .lst (SqL.of e) (.cons (p1.dp (SqL.of e1)) (.cons (p2.dp (SqL.of e2)) .nil))
theorem IsLL.same (s : Same H H') (h : IsLL K H x L M) : IsLL K H' x L M := by
  obtain ⟨l, a, b, xs, ys, rfl, e, e1, e2, p1, p2⟩ := h
  exact ⟨l, a, b, xs, ys, rfl, s _ _ e, s _ _ e1, s _ _ e2, p1.kept (Same.tups s), p2.kept (Same.tups s)⟩
theorem IsLL.kp (y : HasY H p d) (k : Kp p d H H') (h : IsLL K H x L M) : IsLL K H' x L M := by
  obtain ⟨l, a, b, xs, ys, rfl, e, e1, e2, p1, p2⟩ := h
  exact ⟨l, a, b, xs, ys, rfl, y.lst k e, y.lst k e1, y.lst k e2, y.prs k p1, y.prs k p2⟩
end
section
variable {X : Cx}
def rNeLL (K : PySem.W.Frag) : R2 := fun x y H Q => ∃ L M L' M', IsLL K H x L M ∧ IsLL K H y L' M' ∧ Q (.bl (!decide (L = L' ∧ M = M'))) H
theorem op_neLL (hu : X.A.units + 64 < cLine) : OpR X (compareOp .NotEq) (rNeLL X.K) := by
  intro pins s σ H x y v u Q I rx ry h
  obtain ⟨L, M, L', M', h1, h2, q⟩ := h
  refine op_neD hu pins s σ H x y v u Q I rx ry ⟨_, _, h1.dp, h2.dp, LL_shaped _ _, LL_shaped _ _, ?_⟩
  rw [LL_eqv]
  exact q
def rEqLL (K : PySem.W.Frag) : R2 := fun x y H Q => ∃ L M L' M', IsLL K H x L M ∧ IsLL K H y L' M' ∧ Q (.bl (decide (L = L' ∧ M = M'))) H
theorem op_eqLL (hu : X.A.units + 64 < cLine) : OpR X (compareOp .Eq) (rEqLL X.K) := by
  intro pins s σ H x y v u Q I rx ry h
  obtain ⟨L, M, L', M', h1, h2, q⟩ := h
  refine op_eqD hu pins s σ H x y v u Q I rx ry ⟨_, _, h1.dp, h2.dp, LL_shaped _ _, LL_shaped _ _, ?_⟩
  rw [LL_eqv]
  exact q
end
theorem wo_take {L : List Pc} {i : Nat} {q p : Pc} (h : L[i]? = some q) : Bud.without (L.take (i + 1)) p = Bud.without (L.take i) p ++ (if q = p then [] else [q]) := by
  unfold Bud.without
  rw [List.take_add_one, h, List.filter_append]
  congr 1
  by_cases e : q = p
  · rw [if_pos e]
    show List.filter _ [q] = []
    rw [List.filter_cons_of_neg (by simpa using e)]
    rfl
  · rw [if_neg e]
    show List.filter _ [q] = [q]
    rw [List.filter_cons_of_pos (by simpa using e)]
    rfl
/-- [one for one in held if one != piece] -/
theorem rd_without {K : PySem.W.Frag} {σ : St} {H : Hp} {Q : VK} {i j o : Nat} {h : Addr} {xs : List V} {D : List Pc} {x : V} {g : Pc} (hi : σ[i]? = some (some (V.ref h))) (hj : σ[j]? = some (some x)) (ho : o < σ.length) (hjo : o ≠ j)
    (hl : H h = some (.lst xs)) (hD : Prs H xs D) (hx : IsPr H x g) (hlen : D.length ≤ 1000000) (k : ∀ (B : Addr) (ys : List V), H B = none → Prs H ys (Bud.without D g) → Q (.ref B) (upd H B (.lst ys))) :
    tLc (iList K (tVar i)) (gName o) (tTest (tOp rNeP (tVar o) (tVar j))) (tVar o) [o] σ H Q := by
  refine ⟨_, hi, h, rfl, ⟨_, SqL.of hl⟩, fun B hB => ?_⟩
  refine lc_list (K := K) (a := h) (xs := xs) (fun i H' => ∃ ys, H' = upd H B (.lst ys) ∧ Prs H ys (Bud.without (D.take i) g)) ⟨[], rfl, .nil⟩ (fun i H' _ ⟨ys, e, _⟩ => by rw [e]; exact (same_new hB).seq (SqL.of hl)) ?_ ?_
  · rintro i z H' hi ⟨ys, rfl, hys⟩
    obtain ⟨g', hg', hz⟩ := hD.get hi
    have kt : TupKept H (upd H B (.lst ys)) := tups_upd hB
    have e1 : ((wipe σ [o]).set o (some z))[o]? = some (some z) := by
      rw [List.getElem?_set_self]
      rw [wipe_length]
      exact ho
    have e2 : ((wipe σ [o]).set o (some z))[j]? = some (some x) := by
      rw [List.getElem?_set_ne hjo]
      show ((σ.set o none))[j]? = _
      rw [List.getElem?_set_ne hjo]
      exact hj
    refine ⟨?_, _, e1, _, e2, g', _, hz.kept kt, hx.kept kt, _, rfl, ?_⟩
    · show ((σ.set o none).set o (some z)).set o none = σ.set o none
      rw [List.set_set, List.set_set]
    have hw := wo_take (p := g) hg'
    refine ite2 (fun c => ?_) (fun c => ?_)
    · have c' : ¬ g' = g := by simpa using c
      rw [if_neg c'] at hw
      have hlt : ys.length < sizeLine := by
        have h1 := hys.length
        have h2 : (Bud.without (D.take i) g).length ≤ D.length := Nat.le_trans (List.length_filter_le _ _) (by rw [List.length_take]; omega)
        rw [sizeLine_eq]
        omega
      refine ⟨_, e1, ys, upd_same, hlt, ys ++ [z], by rw [upd_upd], ?_⟩
      rw [hw]
      exact hys.append (.cons hz .nil)
    · have c' : g' = g := by simpa using c
      rw [if_pos c', List.append_nil] at hw
      exact ⟨ys, rfl, by rw [hw]; exact hys⟩
  · rintro H' ⟨ys, rfl, hys⟩
    rw [hD.length, List.take_length] at hys
    exact k B ys hB hys
/-- an if whose test lays new things alone -/
theorem ifPN {c : TT} {t u : TS} {D : Ends} {σ : L2.St} {H : Hp} (b : Bool) (hc : ∀ Q : Bool → Hp → Prop, (∀ H', Same H H' → Q b H') → c σ H Q) (h1 : b = true → ∀ H', Same H H' → t D σ H') (h2 : b = false → ∀ H', Same H H' → u D σ H') : tIfS c t u D σ H := by
  refine hc _ fun H' s => ?_
  cases b with
  | true => exact iteT (h1 rfl H' s)
  | false => exact iteF (h2 rfl H' s)
theorem tst_mk {te tb : TE} {r : R2} {σ : St} {H : Hp} {R : Bool → Hp → Prop} (h : te σ H fun x H1 => tb σ H1 fun y H2 => r x y H2 fun v H3 => ∃ b, v = .bl b ∧ R b H3) : tTest (tOp r te tb) σ H R := h
theorem neLLF {L M L' M' : List Pc} (h : L = L') (h' : M = M') : V.bl (!decide (L = L' ∧ M = M')) = V.bl false := by
  rw [decide_eq_true ⟨h, h'⟩]
  rfl
theorem neT {L M : List Pc} (h : L ≠ M) : V.bl (if true = true then !decide (L = M) else decide (L = M)) = V.bl true := by
  rw [decide_eq_false h]
  rfl
theorem eqF {L M : List Pc} (h : L ≠ M) : V.bl (if false = true then !decide (L = M) else decide (L = M)) = V.bl false := by
  rw [decide_eq_false h]
  rfl
/-- list(a list) -/
def rListOf (K : PySem.W.Frag) : List V → Hp → VK → Prop := fun xs H Q => ∃ p ys, xs = [.ref p] ∧ SqL K H p ys ∧ ∀ l, H l = none → Q (.ref l) (upd H l (.lst ys))
theorem call_listK {X : Cx} : CallR X (.type "list") (rListOf X.K) := by
  intro pins s σ H xs us Q I r h
  obtain ⟨p, ys, e, hq, q⟩ := h
  exact call_list_of pins s σ H xs us Q I r ⟨p, ys, e, .inl hq, q⟩
end Yd
namespace Yd
open PySem PySem.Spec L2
open Bud (Pc T Can frees outs pw)
/-! ### in a list of whole numbers -/
theorem inV_ints (i : Int) : ∀ L : List Int, inV (.int i) (L.map V.int) = decide (i ∈ L)
  | [] => rfl
  | j :: L => by
    have h := inV_ints i L
    unfold inV at *
    rw [List.map_cons, List.any_cons, h]
    by_cases e : i = j
    · subst e
      rw [decide_eq_true (List.mem_cons_self)]
      simp [eqV]
    · have e2 : eqV (V.int j) (V.int i) = false := by simp [eqV]; omega
      rw [e2, Bool.false_or]
      exact decide_eq_decide.mpr ⟨List.mem_cons_of_mem _, fun z => (List.mem_cons.mp z).resolve_left e⟩
theorem flat_ints : ∀ L : List Int, (L.map V.int).all flatV = true
  | [] => rfl
  | j :: L => by rw [List.map_cons, List.all_cons, flat_ints L]; rfl
end Yd
namespace Yd
open PySem PySem.Spec L2
open Bud (Pc T Can frees outs pw)
/-- sum([piece[1] for piece in pieces]) -/
theorem rd_sizes {K : PySem.W.Frag} {σ : St} {H : Hp} {Q : VK} {i o : Nat} {h : Addr} {xs : List V} {D : List Pc} (hi : σ[i]? = some (some (V.ref h))) (ho : o < σ.length)
    (hl : H h = some (.lst xs)) (hD : Prs H xs D) (hlen : D.length ≤ 1000000) (k : ∀ H', Same H H' → Q (.int (Bud.sizes D)) H') :
    tCB (rSum K) (tCons (tLc (iList K (tVar i)) (gName o) tYes (tSel1 (tVar o)) [o]) tNil) σ H Q := by
  refine ⟨_, hi, h, rfl, ⟨_, SqL.of hl⟩, fun B hB => ?_⟩
  refine lc_list (K := K) (a := h) (xs := xs) (fun i H' => H' = upd H B (.lst (((D.take i).map (·.2)).map V.int))) rfl (fun i H' _ e => by rw [e]; exact (same_new hB).seq (SqL.of hl)) ?_ ?_
  · rintro i z H' hi ⟨rfl⟩
    obtain ⟨g, hg, hz⟩ := hD.get hi
    have e1 : ((wipe σ [o]).set o (some z))[o]? = some (some z) := by
      rw [List.getElem?_set_self]
      rw [wipe_length]
      exact ho
    refine ⟨?_, _, e1, g, hz.kept (tups_upd hB), _, upd_same, ?_, ?_⟩
    · show ((σ.set o none).set o (some z)).set o none = σ.set o none
      rw [List.set_set, List.set_set]
    · rw [List.length_map, List.length_map, List.length_take, sizeLine_eq]
      omega
    · rw [upd_upd, List.take_add_one, hg, List.map_append, List.map_append]
      rfl
  · rintro H' ⟨rfl⟩
    refine ⟨B, _, rfl, SqL.of upd_same, ?_⟩
    rw [hD.length, List.take_length]
    exact k _ (same_new hB)
end Yd

set_option Elab.async false
set_option linter.all false
set_option maxRecDepth 100000
set_option maxHeartbeats 4000000
/-! set of a list of whole numbers (repeats allowed), and its len. -/
namespace Yd
open PySem PySem.Spec L2
open PyProof.Rows (firstMet firstMet_any firstMet_succ firstMet_length_le)
theorem firstMet_nodup (val : Nat → Int) : ∀ i, (firstMet val i).Nodup
  | 0 => List.nodup_nil
  | i + 1 => by
    rw [firstMet_succ]
    unfold PyProof.Rows.step_dedup
    split
    · exact firstMet_nodup val i
    · rename_i h
      refine List.nodup_append.mpr ⟨firstMet_nodup val i, List.nodup_cons.mpr ⟨List.not_mem_nil, List.nodup_nil⟩, fun x hx y hy => ?_⟩
      rw [List.mem_singleton.mp hy]
      intro e
      exact h (List.any_eq_true.mpr ⟨x, hx, by simp [e]⟩)
theorem firstMet_mem {ns : List Int} {k : Int} : k ∈ firstMet (fun i => ns.getD i 0) ns.length ↔ k ∈ ns := by
  have h := firstMet_any (fun i => ns.getD i 0) ns.length k
  have e : (List.range ns.length).map (fun i => ns.getD i 0) = ns := by
    refine List.ext_getElem (by simp) fun i h1 h2 => ?_
    simp only [List.getElem_map, List.getElem_range]
    rw [List.getD_eq_getElem?_getD, List.getElem?_eq_getElem h2]
    rfl
  rw [e] at h
  have h1 : (firstMet (fun i => ns.getD i 0) ns.length).any (· == k) = true ↔ ns.any (· == k) = true := by rw [h]
  simpa using h1
section
variable {X : Cx}
/-- set(xs) of a list of whole numbers -/
def rSetOfInts (K : PySem.W.Frag) : List V → Hp → VK → Prop := fun vs H Q => ∃ (a : Addr) (ns : List Int), vs = [V.ref a] ∧ SqL K H a (ns.map V.int) ∧ ns.length ≤ 4000 ∧
  ∀ (p : Addr) (S : Int → Bool) (m : List Int), H p = none → m.Nodup → (∀ k, k ∈ m ↔ k ∈ ns) → Q (.ref p) (upd H p (.set S m.length))
theorem cr_setOfInts (hc : X.calm = true) : CallR X (.type "set") (rSetOfInts X.K) := by
  intro pins s σ H vs us Q I r h
  obtain ⟨a, ns, rfl, hs, hlen, q⟩ := h
  obtain ⟨its, rv, hl, _⟩ := I.list hs
  rw [Vals.ref1 r]
  have hi := rv.ints
  have hlen2 : its.length = ns.length := PyProof.Rows.IntsAre.length hi
  refine PySem.call_set_list (items := its.toArray) (ns := ns) (I.ok.hd hc) hl.isList (by simpa using hi) (by rw [List.size_toArray]; show its.length + 1 < 4096; omega) fun h' tk hS hk => ?_
  rw [show its.toArray.size = ns.length from by rw [List.size_toArray]; exact hlen2] at hS
  have hf : H s.heap.objs.size = none := I.hok.fresh (Nat.le_refl _)
  exact ⟨.ref s.heap.objs.size, upd H s.heap.objs.size (.set _ _), I.laid (t' := tk) (fun b u e => hk b u (Heap.lt_size e) e) (Nat.le_refl _) hS, rfl, q _ _ _ hf (firstMet_nodup _ _) fun k => firstMet_mem⟩
/-- len of such a set -/
def rLenSet : List V → Hp → VK → Prop := fun vs H Q => ∃ (p : Addr) (S : Int → Bool) (n : Nat), vs = [V.ref p] ∧ H p = some (.set S n) ∧ Q (.int n) H
theorem cr_lenSet : CallR X (.builtin "len") rLenSet := by
  intro pins s σ H vs us Q I r h
  obtain ⟨p, S, n, rfl, hp, q⟩ := h
  rw [Vals.ref1 r]
  obtain ⟨o, es, ep, t, ho, hex, hd, _, _, hsz, hf, hn⟩ := (show ObjOk X.prog X.w H s.heap p (.set S n) from I.hok p _ hp)
  subst hn
  have h4 : es.size < 4096 := hsz
  exact PySem.call_len_set ho hex hd hf (by omega) ⟨.int _, H, I.tok _, ⟨_, rfl⟩, q⟩
end
end Yd
namespace Yd
open PySem PySem.Spec L2
section
variable {X : Cx} {x : Str} {c : Value} {body suite : List Stmt} {b₀ : Stmt} {np pos pos' : Pos} {tb : WX → TS} {ts : Addr → Value → Option Addr → TS} {Wout : WX}
/-- a try as one word, for loops -/
def tTryO (K : PySem.W.Frag) (c : Value) (ts : Addr → Value → Option Addr → TS) (Wout : WX) (tb : WX → TS) : TS := fun D σ H => tb (wOnly K c ts Wout D) D σ H
theorem ps_try_onlyT (hs : X.stack = X.env :: X.outer) (hf : X.env.frame = some X.env.locals) (hc : Names X x c) (tk : Takes X Wout)
    (hb : ∀ (W : WX) (pn : List (Addr × Obj)) (xe : Value → Shared → Prop), Takes (X.tr pn xe) W → PassesOwn (model X.prog X.w) X.A X.env xe → PSs (X.tr pn xe) body (tb W))
    (hsu : ∀ (a : Addr) (oe : Obj) (cls : Value) (d : Option Addr) (pn : List (Addr × Obj)), Zc cls d oe → (∃ vs, oe.data = .fields vs) → PSs (X.suite a ((a, oe) :: pn)) (b₀ :: suite) (ts a cls d)) :
    PS X (.Try body [.ExceptHandler (some (.Name x np)) none (b₀ :: suite) pos'] [] [] pos) (tTryO X.K c ts Wout tb) := ps_try_only hs hf hc tk hb hsu
end
end Yd
namespace Yd
open PySem PySem.Spec L2
/-! ### lists of whole numbers compared -/
theorem iDs_lay : ∀ L : List Int, PyData.canLayAll0 (L.map PyData.int) = true
  | [] => by simp [PyData.canLayAll0]
  | p :: L => by simp [PyData.canLayAll0, PyData.canLay0, iDs_lay L]
theorem iDs_depth : ∀ L : List Int, PyData.depthAll (L.map PyData.int) ≤ 1
  | [] => by simp [PyData.depthAll]
  | p :: L => by
    have h1 := iDs_depth L
    have h2 : PyData.depth (.int p) ≤ 1 := by simp [PyData.depth]
    simp only [List.map_cons, PyData.depthAll]
    omega
theorem iDs_shaped (L : List Int) : SeqAt.shaped (.list (L.map PyData.int)) = true := by
  have h1 := iDs_depth L
  have h2 : PyData.depth (.list (L.map PyData.int)) ≤ 64 := by
    simp only [PyData.depth]
    omega
  show (PyData.canLay0 (.list (L.map PyData.int)) && decide (PyData.depth (.list (L.map PyData.int)) ≤ 64)) = true
  rw [Bool.and_eq_true]
  exact ⟨by simp only [PyData.canLay0]; exact iDs_lay L, decide_eq_true h2⟩
theorem iDs_eqv : ∀ L M : List Int, PyData.eqvAll (L.map PyData.int) (M.map PyData.int) = decide (L = M)
  | [], [] => by simp [PyData.eqvAll]
  | [], q :: M => by simp [PyData.eqvAll]
  | p :: L, [] => by simp [PyData.eqvAll]
  | p :: L, q :: M => by
    have e : PyData.eqv (.int p) (.int q) = (p == q) := by simp only [PyData.eqv]
    simp only [List.map_cons, PyData.eqvAll, e, iDs_eqv L M]
    by_cases h1 : p = q
    · subst h1
      by_cases h2 : L = M
      · subst h2
        simp
      · simp [h2]
    · rw [beq_eq_false_iff_ne.mpr h1, decide_eq_false (fun z => h1 (List.cons.inj z).1)]
      rfl
theorem iDs_dp {K : PySem.W.Frag} {H : Hp} : ∀ L : List Int, DpAll K H (L.map V.int) (L.map PyData.int)
  | [] => .nil
  | p :: L => .cons (.int _) (iDs_dp L)
section
variable {X : Cx}
def rCmpIs (K : PySem.W.Frag) (neg : Bool) : R2 := fun x y H Q => ∃ (l m : Addr) (L M : List Int), x = .ref l ∧ y = .ref m ∧ SqL K H l (L.map V.int) ∧ SqL K H m (M.map V.int) ∧ Q (.bl (if neg then !decide (L = M) else decide (L = M))) H
theorem op_eqIs (hu : X.A.units + 64 < cLine) : OpR X (compareOp .Eq) (rCmpIs X.K false) := by
  intro pins s σ H x y v u Q I rx ry h
  obtain ⟨l, m, L, M, rfl, rfl, hl, hm, q⟩ := h
  refine op_eqD hu pins s σ H _ _ v u Q I rx ry ⟨_, _, .lst hl (iDs_dp L), .lst hm (iDs_dp M), iDs_shaped L, iDs_shaped M, ?_⟩
  simp only [PyData.eqv]
  rw [iDs_eqv]
  exact q
theorem op_neIs (hu : X.A.units + 64 < cLine) : OpR X (compareOp .NotEq) (rCmpIs X.K true) := by
  intro pins s σ H x y v u Q I rx ry h
  obtain ⟨l, m, L, M, rfl, rfl, hl, hm, q⟩ := h
  refine op_neD hu pins s σ H _ _ v u Q I rx ry ⟨_, _, .lst hl (iDs_dp L), .lst hm (iDs_dp M), iDs_shaped L, iDs_shaped M, ?_⟩
  simp only [PyData.eqv]
  rw [iDs_eqv]
  exact q
theorem neIF {L M : List Int} (h : L = M) : V.bl (if true = true then !decide (L = M) else decide (L = M)) = V.bl false := by
  rw [decide_eq_true h]
  rfl
theorem neIT {L M : List Int} (h : L ≠ M) : V.bl (if true = true then !decide (L = M) else decide (L = M)) = V.bl true := by
  rw [decide_eq_false h]
  rfl
theorem eqIT {L M : List Int} (h : L = M) : V.bl (if false = true then !decide (L = M) else decide (L = M)) = V.bl true := by
  rw [decide_eq_true h]
  rfl
theorem eqIF {L M : List Int} (h : L ≠ M) : V.bl (if false = true then !decide (L = M) else decide (L = M)) = V.bl false := by
  rw [decide_eq_false h]
  rfl
end
end Yd

set_option Elab.async false
set_option linter.all false
set_option maxRecDepth 100000
set_option maxHeartbeats 4000000
/-! list(reversed(a list)); a list comprehension whose item may raise. -/
namespace Yd
open PySem PySem.Spec PyProof.Rows L2
section
variable {prog : Program} {w : World} {A : Around} {E : Value → Shared → Prop} {s : Shared} {R : Result → Shared → Prop}
/-- the empty list S takes all that a reversed list tells -/
theorem take_rev {it l S : Addr} {items : Array Value} {res : Value} {c₀ : Nat} (hh : A.handled = none) (hit : s.heap.IsRevIter it l ((items.size : Int) - 1)) (hl : s.heap.IsList l items) (hne : l ≠ it) (hn : items.size ≤ sizeLine)
    (hSi : S ≠ it) (hSl : S ≠ l) (hS : s.heap.get? S = some { cls := .type "list", data := .seq #[] c₀ })
    (hR : ∀ (h' : Heap) (tk : Nat) (acc : Array Value) (c' : Nat), (∀ b o, b ≠ it → b ≠ S → s.heap.get? b = some o → h'.get? b = some o) → h'.get? S = some { cls := .type "list", dict := none, data := .seq acc c', slots := #[] } → ItemsOf (fun i v => items[items.size - 1 - i]? = some v) acc items.size → R (.ok (.ret res)) { s with heap := h', toks := tk }) :
    wpAny (model prog w) A.in1 (Builtin.List.listExtendWith (.ref S) (.ref it) res)
      (fun fin s' => match fin with | .done f => R (.ok f) s' | .again c' => c'.quiet = true ∧ codeAny (model prog w) A c' R s') (fun e s' => R (.error e) s') s := by
  have WR := (Walks.listRev (prog := prog) (w := w) (A := A.in1) hh it l hne items).toS
  have nSf : S ∉ [it, l] := by simp only [List.mem_cons, List.not_mem_nil, or_false, not_or]; exact ⟨hSi, hSl⟩
  have tT : s.TypeIs (.ref it) "list_reverseiterator" := hit.typeIs
  have nsame : Builtin.List.listSameRef (.ref S) (.ref it) = false := by simp [Builtin.List.listSameRef, hSi]
  unfold Builtin.List.listExtendWith
  refine wpAny_bind (wpAny_typeOf tT ?_)
  rw [if_neg (by rw [nsame]; decide)]
  refine wpAny_bind (wpAny_pyIter_revIter hit ?_)
  refine wpAny_bind (wpAny_holding ?_)
  unfold Builtin.List.listLengthHint
  refine wpAny_bind (wpAny_specialOf tT RT.nolen_lri ?_)
  show wpAny _ A.in1 (specialOf (Value.ref it) (Str.ofString "__length_hint__") >>= _) _ _ _
  refine wpAny_bind (wpAny_specialOf tT RT.hint_lri ?_)
  generalize hidd : ("list_reverseiterator.__length_hint__" : String) = idd
  wp_delta
  rw [show splitId idd = some ("list_reverseiterator", "__length_hint__") from by subst hidd; decide +kernel]
  subst hidd
  refine wpAny_bind (wpAny_isInstance (b := true) tT (by rw [isSubtype_type]; kernel_rfl) ?_)
  refine wpAny_pure ?_
  rw [if_neg (by decide)]
  have ez : ((items.size : Nat) : Int) - 1 - ((0 : Nat) : Int) = (items.size : Int) - 1 := by omega
  refine wpAny_pure ⟨plainId_quiet F.plain_extend_loop _, codeAny_extend_loopS WR hn _ nSf _ items.size 0 _ _ _ rfl (Nat.zero_le _) ⟨Nat.zero_le _, by rw [ez]; exact hit, hl⟩ hS (ItemsOf.nil _) fun s' acc c' hm hS' hacc => ?_⟩
  rw [Moved.eq_with hm]
  refine hR s'.heap s'.toks acc c' (fun b o hb hb2 e => hm.heap b o (fun hmem => ?_) e) hS' hacc
  rcases List.mem_cons.mp hmem with e' | hmem
  · exact hb2 e'
  · exact hb (List.mem_singleton.mp hmem)
/-- list(reversed(a list)) -/
theorem list_rev {it l : Addr} {items : Array Value} {Q : Value → Shared → Prop} (hh : A.handled = none) (hit : s.heap.IsRevIter it l ((items.size : Int) - 1)) (hl : s.heap.IsList l items) (hne : l ≠ it) (hn : items.size ≤ sizeLine)
    (hQ : ∀ (h' : Heap) (tk : Nat) (acc : Array Value) (c' : Nat), (∀ b o, b ≠ it → s.heap.get? b = some o → h'.get? b = some o) → h'.get? s.heap.objs.size = some { cls := .type "list", dict := none, data := .seq acc c', slots := #[] } → ItemsOf (fun i v => items[items.size - 1 - i]? = some v) acc items.size → Q (.ref s.heap.objs.size) { s with heap := h', toks := tk }) :
    wpAny (model prog w) A (call (.type "list") [.ref it]) Q E s := by
  refine callType_codes (Q₁ := fun obj s₁ => obj = .ref s.heap.objs.size ∧ s₁ = { s with heap := s.heap.push { cls := .type "list", data := .seq #[] } }) F.called_list (F.typeCall_list_1 _) F.entry_list_init (code_list_new _ ⟨rfl, rfl⟩) fun obj s1 hb => ?_
  obtain ⟨rfl, rfl⟩ := hb
  obtain ⟨oi, hoi, _⟩ := id hit
  obtain ⟨ol, hol, _⟩ := id hl
  have nSi : s.heap.objs.size ≠ it := Nat.ne_of_gt (Heap.lt_size hoi)
  have nSl : s.heap.objs.size ≠ l := Nat.ne_of_gt (Heap.lt_size hol)
  have atS : (s.heap.push { cls := .type "list", data := .seq #[] }).get? s.heap.objs.size = some { cls := .type "list", data := .seq #[] } := Heap.get?_push_size _ rfl
  refine ⟨⟨_, atS, rfl⟩, F.args_list_init_2 _ _, ?_⟩
  show wpAny _ _ (do let old ← Builtin.List.listItems (.ref s.heap.objs.size); Builtin.List.listUpdate (.ref s.heap.objs.size) (fun _ => #[]); letGo old.toList.reverse; Builtin.List.listExtendWith (.ref s.heap.objs.size) (.ref it) .none) _ _ _
  refine wpAny_bind ?_
  unfold Builtin.List.listItems
  refine wpAny_bind (wpAny_seqItems atS rfl (wpAny_pure ?_))
  show wpAny _ _ (updateSeq s.heap.objs.size (fun _ => #[]) >>= fun _ => letGo (#[] : Array Value).toList.reverse >>= fun _ => Builtin.List.listExtendWith (.ref s.heap.objs.size) (.ref it) .none) _ _ _
  refine wpAny_bind (wpAny_updateSeq atS rfl ?_)
  have atS2 := Heap.get?_update_self (Obj.mapSeq (fun _ => (#[] : Array Value))) atS rfl
  have others : ∀ b o, b ≠ s.heap.objs.size → s.heap.get? b = some o → ((s.heap.push { cls := .type "list", data := .seq #[] }).update s.heap.objs.size (Obj.mapSeq (fun _ => (#[] : Array Value)))).get? b = some o :=
    fun b o hb e => (Heap.get?_update_other _ _ (Ne.symm hb)).trans (Heap.get?_push_of_some _ e)
  refine wpAny_bind (wpAny_letGo ?_)
  have hit2 : ((s.heap.push { cls := .type "list", data := .seq #[] }).update s.heap.objs.size (Obj.mapSeq (fun _ => (#[] : Array Value)))).IsRevIter it l ((items.size : Int) - 1) := hit.at fun o e => others _ o nSi.symm e
  have hl2 : ((s.heap.push { cls := .type "list", data := .seq #[] }).update s.heap.objs.size (Obj.mapSeq (fun _ => (#[] : Array Value)))).IsList l items := by
    obtain ⟨o, ho, r⟩ := hl
    exact ⟨o, others _ o nSl.symm ho, r⟩
  refine take_rev hh hit2 hl2 hne hn nSi nSl atS2 fun h' tk acc c' hk hS' hacc => ⟨rfl, ?_⟩
  exact hQ h' tk acc c' (fun b o hb e => hk b o hb (Nat.ne_of_lt (Heap.lt_size e)) (others b o (Nat.ne_of_lt (Heap.lt_size e)) e)) hS' hacc
end
section
variable {X : Cx}
def tLstRev (K : PySem.W.Frag) (te : TE) : TE := fun σ H Q => te σ H fun v H1 => ∃ (a : Addr) (xs : List V), v = .ref a ∧ SqL K H1 a xs ∧ ∀ q, H1 q = none → Q (.ref q) (upd H1 q (.lst xs.reverse))
theorem pe_lstRev {e : Expr} {te : TE} {p p2 pos pos2 : Pos} (hc : X.calm = true) (hg : Gl X "list") (hm : X.mg "list" = none) (hg2 : Gl X "reversed") (hm2 : X.mg "reversed" = none) (he : PE X e te)
    (hs : starEach [e] X.env = (false, eval e X.env) :: starEach [] X.env := by rfl)
    (hs2 : starEach [.Call (.Name "reversed" p2) [e] [] pos2] X.env = (false, eval (.Call (.Name "reversed" p2) [e] [] pos2) X.env) :: starEach [] X.env := by rfl) :
    PE X (.Call (.Name "list" p) [.Call (.Name "reversed" p2) [e] [] pos2] [] pos) (tLstRev X.K te) := by
  refine ⟨fun pins s σ H Q I h => ?_⟩
  refine Call_ (ld_blt I hg hm boot_list (PyProof.Rows.callWith_type1 (args_cons (Call_ (ld_blt I hg2 hm2 PyProof.Rows.boot_reversed (PyProof.Rows.callWith_type1 (args_cons (thn (he.run pins s σ H _ I h) fun u s1 ⟨v, H1, J, rv1, qq⟩ => args_nil ?_) hs) hs rfl))) hs2) hs2 rfl))
  obtain ⟨a, xs, ev, hsq, fin⟩ := qq
  subst ev
  obtain rfl : u = Value.ref a := rv1
  obtain ⟨its, rv, pl, hz⟩ := J.list hsq
  refine call_reversed_list pl.isList (args_nil ?_)
  have J2 : Inv X pins σ H1 { s1 with heap := s1.heap.push (revObj a ((its.toArray.size : Int) - 1)) } := J.kept (t' := s1.toks) fun b o e => Heap.get?_push_of_some _ e
  obtain ⟨f0, f1, f2, f3, f4, f5⟩ := J.fpOk (H' := H1) (b := s1.heap.objs.size) (Nat.le_refl _) (J.hok.fresh (Nat.le_refl _))
  have hl := pl.isList
  obtain ⟨ol, hol, _⟩ := id hl
  have hne : a ≠ s1.heap.objs.size := Nat.ne_of_lt (Heap.lt_size hol)
  have hn : its.toArray.size ≤ sizeLine := by rw [List.size_toArray, ← rv.length]; exact hz
  refine list_rev (s := { s1 with heap := s1.heap.push (revObj a ((its.toArray.size : Int) - 1)) }) (J.ok.hd hc) ⟨_, Heap.get?_push_size _ rfl, rfl, rfl⟩ (hl.push _) hne hn fun h' tk acc c' hk hS' hi => ?_
  have hsz : s1.heap.objs.size ≤ (s1.heap.push (revObj a ((its.toArray.size : Int) - 1))).objs.size := by rw [Heap.size_push]; exact Nat.le_succ _
  have hx : xs.reverse.length ≤ sizeLine := by rw [List.length_reverse]; exact hz
  have hnn : H1 (s1.heap.push (revObj a ((its.toArray.size : Int) - 1))).objs.size = none := J.hok.fresh hsz
  refine ⟨.ref (s1.heap.push (revObj a ((its.toArray.size : Int) - 1))).objs.size, upd H1 (s1.heap.push (revObj a ((its.toArray.size : Int) - 1))).objs.size (.lst xs.reverse), ?_, rfl, fin _ hnn⟩
  refine J2.turnedNew (ch := [s1.heap.objs.size]) (t' := tk) (fun b o hb e => hk b o (fun z => hb (by rw [z]; exact List.mem_singleton.mpr rfl)) e) (fun b hb => ?_) (Nat.le_refl _) (show ObjOk X.prog X.w _ _ _ (.lst xs.reverse) from ⟨hx, acc.toList, c', RT.vals_rev rv hi, ?_⟩)
  · rw [List.mem_singleton.mp hb]
    exact ⟨f0, f1, f2, f3, f4, f5⟩
  · rw [Array.toArray_toList]
    exact hS'
end
/-! ### a comprehension whose item may raise -/
/-- the block's context, with its own wish about what is raised -/
abbrev blkE (X : Cx) (s : Shared) (H : Hp) (scope : Scope) (cenv : Env) (fp : List Addr) (xe : Value → Shared → Prop) : Cx := (X.blk s H scope cenv fp).tr [] xe
section
variable {X : Cx} {pins : List (Addr × Obj)} {σ : L2.St} {H : Hp} {s : Shared} {E : XK}
/-- a callee's exception goes through the block's frame C -/
theorem comp_out {ce : Env} {u : Value} {s' : Shared} (tk : Takes X (fun cls d _ H => E cls d H)) (hst : X.stack = X.env :: X.outer) (hfr : X.env.frame = some X.env.locals) (I : Inv X pins σ H s) (hcf : ce.frame = X.env.frame)
    {m : Str → Option Value} (hm : s.heap.Ns ce.locals m) (fC : FpOk X pins H ce.locals) (c : L2.CX X.prog X.w X.stack H s E u s') :
    notedBy (model X.prog X.w) X.A ce (fun e s2 => CompFails (model X.prog X.w) X.A X.xe ce e s2) u s' := by
  obtain ⟨a0, B0, H0, cls0, d0, eu, fl0, hok0, ub0, na0, os0, ag0, hE0⟩ := c
  obtain ⟨oC, esC, epC, hoC, rC⟩ := hm
  have nC0 : H0 ce.locals = none := ub0.free _ _ hoC fC.1
  have nfr : ce.locals ∉ frs X.stack := fun hmm => by
    rcases List.mem_cons.mp (I.stkSub _ hmm) with z | z
    · exact fC.2.1 z
    · exact fC.2.2.1 z
  have bC0 : B0.get? ce.locals = some oC := ub0.keep _ _ hoC fC.1 nfr
  have hm2 : s'.heap.Ns ce.locals m := ⟨oC, esC, epC, fl0.1 _ _ bC0, rC⟩
  obtain ⟨a, B, sI, pins2, σ2, H2, cls, d, rfl, J, nb, up, sky, na, os, ag, hE, nC⟩ := XE.of_call (E := fun cls d H => E cls d H ∧ H ce.locals = none) (W := fun cls d _ H => E cls d H ∧ H ce.locals = none) I (fun _ _ _ z => z) ⟨a0, B0, H0, cls0, d0, eu, fl0, hok0, ub0, na0, os0, ag0, hE0, nC0⟩
  have hfrs : X.A.frames = some (X.env :: X.outer) := by rw [I.ok.frames, hst]
  have J1 : Inv X ([] ++ pins2) σ2 H2 sI := J
  have J2 : Inv X [] σ2 H2 sI := J.pins_of fun p hp => nomatch hp
  have land : ∀ h1, HandSPX.HeldZ B (X.env :: X.outer) a (Zc cls d) X.env.locals h1 → s'.heap.UpToSlots h1 → CompFails (model X.prog X.w) X.A X.xe ce (.ref a) { s' with heap := h1 } := fun h1 hh up1 => by
    have hm3 : h1.Ns ce.locals m := hm2.upToSlots up1
    refine ⟨m, hm3, fun h2 m2 hn2 sb => ?_⟩
    obtain ⟨b1, b0, f1, oe, vs, T, oT, ts, he, hz, hd, h1v, hnT, hTe, hT, hdT, h3⟩ := hh
    obtain ⟨oC3, es3, ep3, hoC3, hdC3, _⟩ := id hm3
    have nae : a ≠ ce.locals := fun z => by
      rw [z, hoC3] at he
      cases he
      rw [hdC3] at hd
      cases hd
    have nTe : T ≠ ce.locals := fun z => by
      rw [z, hoC3] at hT
      cases hT
      rw [hdC3] at hdT
      cases hdT
    have he2 : h2.get? a = some oe := (sb.2 a nae).trans he
    have hT2 : h2.get? T = some oT := (sb.2 T nTe).trans hT
    have hB0 : ∀ b o, (PySem.W.hideAll B [ce.locals]).get? b = some o → B.get? b = some o ∧ b ≠ ce.locals := fun b o e => ⟨PySem.W.of_hideAll _ e, fun z => by
      rw [z, PySem.W.hideAll_none _ (List.mem_singleton.mpr rfl)] at e
      cases e⟩
    have noB : ∀ b, B.get? b = none → (PySem.W.hideAll B [ce.locals]).get? b = none := fun b hb => by
      cases q : (PySem.W.hideAll B [ce.locals]).get? b with
      | none => rfl
      | some o =>
        have z := (hB0 b o q).1
        rw [hb] at z
        cases z
    have f2 : h2.FunFrames B (X.env :: X.outer) := Heap.FunFrames.sameBut sb hn2 f1
    have hh2 : HandSPX.HeldZ (PySem.W.hideAll B [ce.locals]) (X.env :: X.outer) a (Zc cls d) X.env.locals h2 := ⟨fun b o e => (sb.2 b (hB0 b o e).2).trans (b1 b o (hB0 b o e).1), noB _ b0, funFrames_none f2 fun L hL => noB _ (f2.mem hL).1, oe, vs, T, oT, ts, he2, hz, hd, h1v, noB _ hnT, hTe, hT2, hdT, h3⟩
    unfold PySem.passOn
    refine wpAny_bind (wpAny_field he2 hd h1v ?_)
    rw [if_neg (show ¬ ((Value.ref T == Value.none) = true) from by simp)]
    rw [hcf, hfr]
    refine wpAny_bind (HandSPX.setFlight_onZ (s := { s' with heap := h2 }) hh2 fun h4 hh4 up4 => wpAny_throw ?_)
    refine tk _ _ ⟨a, PySem.W.hideAll B [ce.locals], { sI with heap := PySem.W.hideAll sI.heap [ce.locals] }, [], σ2, H2, cls, d, rfl, ?_, fun b o e hb => ?_, fun b o e hnf => ?_, ?_, na, os, ag, hE⟩
    · exact J2.turned (t' := sI.toks) (fun b o hb e => PySem.W.hideAll_get _ e (fun z => hb (List.mem_singleton.mp z))) nC fC.2.1 fC.2.2.2.1 fC.2.2.2.2.1 (fun p hp => fC.2.2.2.2.2 p (by
        rw [List.append_nil] at hp
        exact List.mem_append_left _ hp))
    · have e2 : sI.heap.get? b = some o := PySem.W.of_hideAll _ e
      refine PySem.W.hideAll_get _ (nb b o e2 hb) fun z => ?_
      rw [List.mem_singleton.mp z, PySem.W.hideAll_none _ (List.mem_singleton.mpr rfl)] at e
      cases e
    · have e2 : sI.heap.get? b = some o := PySem.W.of_hideAll _ e
      have hbC : b ≠ ce.locals := fun z => by
        rw [z, PySem.W.hideAll_none _ (List.mem_singleton.mpr rfl)] at e
        cases e
      obtain ⟨sl, q1⟩ := up b o e2 hnf
      obtain ⟨sl2, q2⟩ := up1 b _ q1 hnf
      have q3 := (sb.2 b hbC).trans q2
      obtain ⟨sl4, q4⟩ := up4 b _ q3 hnf
      exact ⟨sl4, q4⟩
    · rw [hst]
      exact .inr (.inr hh4)
  show wpAny _ _ (noteFrame (.ref a) ce) _ _ s'
  rw [noteFrame_env _ hcf]
  rw [hst] at sky
  rcases sky with ⟨hB, hn, hl, oe, vs, he, hz, hd, h1⟩ | fl | hh
  · exact HandSPX.look_newZ Zc.steady hfrs hl hfr he hB hn hd h1 hz land
  · exact HandSPX.looks_onZ Zc.steady hfrs hfr fl land
  · exact HandSPX.againZ hfr hh.2.2.2 (land s'.heap hh (Heap.UpToSlots.refl _))
end
section
variable {X : Cx} {E : XK}
/-- [item for target in xs if ..], what the item raises leaves the def -/
theorem lcX_core {pins : List (Addr × Obj)} {s : Shared} {σ : L2.St} {H : Hp} {Q : VK} {use : Option (Value → Sem Unit)} {Qf : Value → Shared → Prop} {pos' : Pos} {elt tg iter : Expr} {ifs : List Expr} {scope : Scope} {own : List (Str × Nat)} {pos : Pos} {wi : TI} {g : TG} {tt : TT} {te : TE} (tk : Takes X (fun cls d _ H => E cls d H)) (hst : X.stack = X.env :: X.outer) (hfr : X.env.frame = some X.env.locals)
    (hc : X.calm = true) (hN : X.N.Nodup) (hi : PI X tg iter wi) (ok : BlkOk X.N X.env.scope scope own)
    (hg : ∀ (s : Shared) (H : Hp) (C : Addr) (cl : List (Str × Addr)) (fp : List Addr) (xe : Value → Shared → Prop), PG (blkE X s H scope (compEnvC scope cl C X.env) fp xe) tg g)
    (ht : ∀ (s : Shared) (H : Hp) (C : Addr) (cl : List (Str × Addr)) (fp : List Addr) (xe : Value → Shared → Prop), PTs (blkE X s H scope (compEnvC scope cl C X.env) fp xe) ifs tt)
    (he : ∀ (s : Shared) (H : Hp) (C : Addr) (cl : List (Str × Addr)) (fp : List Addr) (xe : Value → Shared → Prop), (∀ σ, PassesAt (L2.CX X.prog X.w) (blkE X s H scope (compEnvC scope cl C X.env) fp xe) σ E) → PE (blkE X s H scope (compEnvC scope cl C X.env) fp xe) elt te)
    (hs : ∀ x, foldedSetIterable iter X.env x = pure x) (I : Inv X pins σ H s) (h : tLc wi g tt te (own.map (·.2)) σ H Q)
    (hend : ∀ D cenv s' m H', Inv X pins σ H' s' → Q (.ref D) H' → s'.heap.Ns cenv.locals m → FpOk X pins H' cenv.locals → compEnds (model X.prog X.w) X.A X.xe use Qf (.ref D) cenv (.ok .next) s') :
    wpAny (model X.prog X.w) X.A (comprehension (.ListComp elt [⟨tg, iter, ifs, 0⟩] scope pos) scope X.env pos' (newList []) false (eval iter X.env) use) Qf X.xe s := by
  have frees : ∀ y ∈ scope.names, y.2 = .free → ∃ c, X.env.cells.lookup y.1 = some c := fun y hy e => by
    rcases ok.free y hy e with k | k
    · exact I.ok.has _ (.inl k)
    · exact I.ok.has _ (.inr k)
  refine comprehension_at (use := use) rfl hs (closure_ok frees) ok.kind (fun y hy e => by rw [ok.uniq y hy, e])
    (thn (hi.run pins s σ H _ I h) fun xv t1 hx => thn hx fun itv t2 hx2 => ?_)
  obtain ⟨it, fp, tn, J, HA, e, IA, T, stA, fA, q⟩ := hx2
  subst e
  refine wpAny_newObj_type (newEnv_comp ?_) (by show 0 ≤ sizeLine; decide)
  generalize hD : t2.heap.objs.size = D
  have nD : HA D = none := IA.hok.fresh (Nat.le_of_eq hD)
  obtain ⟨W, ⟨n0, w0⟩, turn⟩ := q D nD
  generalize e3 : ({ t2 with heap := t2.heap.push { cls := .type "list", data := .seq ([] : List Value).toArray } } : Shared) = t3
  have IB : Inv X pins σ (upd HA D (.lst [])) t3 := by
    rw [← e3]
    refine IA.laid (t' := t2.toks) (fun b o e => Heap.get?_push_of_some _ e) (Nat.le_of_eq hD) ⟨Nat.zero_le _, [], 0, .nil, ?_⟩
    rw [← hD]
    exact Heap.get?_push_size _ rfl
  have h3 : t3.heap = t2.heap.push { cls := .type "list", data := .seq ([] : List Value).toArray } := by rw [← e3]
  have below : ∀ b ∈ fp, b < t2.heap.objs.size := fun b hb => by
    obtain ⟨o, e, _⟩ := T.obj _ _ stA b hb
    exact Heap.lt_size e
  have fB : ∀ b ∈ fp, FpOk X pins (upd HA D (.lst [])) b ∧ b < t3.heap.objs.size := fun b hb => by
    have hlt := below b hb
    refine ⟨⟨?_, (fA b hb).2⟩, by rw [h3, Heap.size_push]; exact Nat.lt_succ_of_lt hlt⟩
    rw [upd_ne (by rw [← hD]; exact Nat.ne_of_lt hlt)]
    exact (fA b hb).1
  have stB : tn 0 t3.heap := T.keep _ _ _ stA fun b _ o e => by rw [h3]; exact Heap.get?_push_of_some _ e
  have IC0 := block_start IB ok hN fB
  show codeAny _ _ (.compStart (.ListComp elt [⟨tg, iter, ifs, 0⟩] scope pos) 0 (.ref it) (.ref D) (compEnvC scope (cellsFrom (t3.heap.objs.size + 1) scope.names (cloFrom X.env.cells scope.names [])) t3.heap.objs.size X.env))
    (compEnds (model X.prog X.w) X.A X.xe use Qf (.ref D) (compEnvC scope (cellsFrom (t3.heap.objs.size + 1) scope.names (cloFrom X.env.cells scope.names [])) t3.heap.objs.size X.env)) { t3 with heap := pushCells (t3.heap.push { cls := .type "dict", data := .dict #[] }) scope.names }
  have pgA := hg t3 (upd HA D (.lst [])) t3.heap.objs.size (cellsFrom (t3.heap.objs.size + 1) scope.names (cloFrom X.env.cells scope.names [])) fp
  have ptA := ht t3 (upd HA D (.lst [])) t3.heap.objs.size (cellsFrom (t3.heap.objs.size + 1) scope.names (cloFrom X.env.cells scope.names [])) fp
  have peA := he t3 (upd HA D (.lst [])) t3.heap.objs.size (cellsFrom (t3.heap.objs.size + 1) scope.names (cloFrom X.env.cells scope.names [])) fp
  have nfp : ∀ b ∈ fp, (upd HA D (.lst [])) b = none := fun b hb => (fB b hb).1.1
  generalize hce : compEnvC scope (cellsFrom (t3.heap.objs.size + 1) scope.names (cloFrom X.env.cells scope.names [])) t3.heap.objs.size X.env = ce at IC0 pgA ptA peA ⊢
  have cL : ce.locals = t3.heap.objs.size := by subst hce; rfl
  have cF : ce.frame = X.env.frame := by subst hce; rfl
  generalize hH3 : upd HA D (.lst []) = HB at IB IC0 pgA ptA peA w0 nfp fB
  generalize hs4 : ({ t3 with heap := pushCells (t3.heap.push { cls := .type "dict", data := .dict #[] }) scope.names } : Shared) = t4 at IC0 ⊢
  have stC : tn 0 t4.heap := T.keep _ _ _ stB fun b _ o e => by rw [← hs4]; exact pushCells_keeps _ _ _ _ (Heap.get?_push_of_some _ e)
  generalize hxe : (notedBy (model X.prog X.w) X.A ce fun e s2 => CompFails (model X.prog X.w) X.A X.xe ce e s2) = xe
  have IC : Inv (blkE X t3 HB scope ce fp xe) [] (wipe σ (own.map (·.2))) HB t4 := IC0.toTry xe
  -- back in the def's context
  have back : ∀ {σ' : L2.St} {H' : Hp} {s' : Shared} {pl : List (Addr × Obj)}, Inv (blkE X t3 HB scope ce fp xe) pl σ' H' s' → Inv X pins σ H' s' := fun I6 =>
    IB.call' (ch := fp) I6.os I6.base I6.hok I6.bare fun b hb => ⟨(fB b hb).1.2.2.2.1, (fB b hb).1.2.1, (fB b hb).1.2.2.2.2.1, (fB b hb).1.2.2.2.2.2⟩
  have fpC : ∀ {σ' : L2.St} {H' : Hp} {s' : Shared} {pl : List (Addr × Obj)}, Inv (blkE X t3 HB scope ce fp xe) pl σ' H' s' → FpOk X pins H' ce.locals := fun {σ' H' s' pl} I6 => by
    have z : H' ce.locals = none := I6.free
    rw [cL] at z ⊢
    exact IB.fpOk (Nat.le_refl _) z
  have pg := pgA xe
  have pt := ptA xe
  have pe := peA xe fun σ' pl H' s5 u s' I6 c => by
    show xe u s'
    rw [← hxe]
    obtain ⟨m, hn, _⟩ := I6.loc
    exact comp_out tk hst hfr (back I6) cF hn (fpC I6) c
  have stat : ∀ {σ' : L2.St} {H' : Hp} {s' : Shared}, Inv (blkE X t3 HB scope ce fp xe) [] σ' H' s' → (∀ b ∈ fp, H' b = none) → ∀ b ∈ fp, FpOk (blkE X t3 HB scope ce fp xe) [] H' b := fun {σ' H' s'} I' hn b hb =>
    ⟨hn b hb, (I'.ok.exf b hb).1, I'.ok.exfs b hb, .inl hb, fun x c e => (I'.ok.exf b hb).2 x c e, fun p hp => absurd (show p ∈ ([] : List (Addr × Obj)) ++ [] from hp) (by simp)⟩
  have loop : codeAny (model X.prog X.w) X.A (.compLoop (.ListComp elt [⟨tg, iter, ifs, 0⟩] scope pos) 0 (.ref it) (.ref D) ce) (compEnds (model X.prog X.w) X.A X.xe use Qf (.ref D) ce) t4 := by
    refine compLoop_any (fun n s' => ∃ i H', Inv (blkE X t3 HB scope ce fp xe) [] (wipe σ (own.map (·.2))) H' s' ∧ tn i s'.heap ∧ (∀ b ∈ fp, H' b = none) ∧ W i n H') ?_ n0 ⟨0, HB, IC, stC, nfp, w0⟩
    rintro n s5 ⟨i, H5, J5, st5, n5, w5⟩
    have efun : (fun (e : Value) (s2 : Shared) => compEnds (model X.prog X.w) X.A X.xe use Qf (.ref D) ce (.error e) s2) = fun e s2 => CompFails (model X.prog X.w) X.A X.xe ce e s2 := by cases use <;> rfl
    rw [efun]
    rcases turn i n H5 w5 with ⟨stop, qq⟩ | ⟨go, Nx, hNx, step⟩
    · have td := T.done (blkE X t3 HB scope ce fp xe) rfl rfl rfl hc i [] s5 _ H5 (fun _ _ => False) J5 (stat J5 n5) st5 stop
      refine thnF td fun r s6 ⟨hr, J6⟩ => ?_
      subst hr
      have J7 : Inv X pins σ H5 s6 := back J6
      have fC := fpC J6
      obtain ⟨m, hn, _⟩ := J6.loc
      exact hend D ce s6 m H5 J7 qq hn fC
    · have ti := T.item (blkE X t3 HB scope ce fp xe) rfl rfl rfl hc i [] s5 _ H5 (fun _ _ => False) J5 (stat J5 n5) st5 go
      refine thnF ti fun r s6 ⟨u, hr, g6⟩ => ?_
      subst hr
      refine thnF g6 fun _ s7 ⟨x, H7, J7, r7, y7, st7, n7⟩ => ?_
      have J7' := J7.pinned (stat J7 n7) (T.obj _ _ st7)
      have tox : ∀ (e : Value) (s2 : Shared), xe e s2 → notedBy (model X.prog X.w) X.A ce (fun e s2 => CompFails (model X.prog X.w) X.A X.xe ce e s2) e s2 := fun e s2 z => by
        rw [hxe]
        exact z
      refine wpAny_mono (pg.run _ s7 _ H7 x u _ J7' r7 (step x H7 y7)) (fun _ s8 ⟨σ8, H8, J8, hw8, q8⟩ => ?_) tox
      refine wpAny_mono (pt.run _ s8 σ8 H8 _ J8 q8) (fun b s9 ⟨H9, J9, q9⟩ => ?_) tox
      have fin : ∀ {s' : Shared} {H' : Hp}, Inv (blkE X t3 HB scope ce fp xe) ([] ++ pinsAt fp s7.heap) σ8 H' s' → Nx H' → ∃ m, m < n ∧ ∃ i H', Inv (blkE X t3 HB scope ce fp xe) [] (wipe σ (own.map (·.2))) H' s' ∧ tn i s'.heap ∧ (∀ b ∈ fp, H' b = none) ∧ W i m H' := fun {s' H'} I' nx => by
        obtain ⟨m', hm, w'⟩ := hNx H' nx
        have kept : ∀ b ∈ fp, ∀ o, s7.heap.get? b = some o → s'.heap.get? b = some o ∧ H' b = none := fun b hb o e =>
          let z := I'.pin (b, o) (List.mem_append_right _ (List.mem_append_right _ (mem_pinsAt hb e)))
          ⟨z.1, z.2.1⟩
        have hl : (wipe σ (own.map (·.2))).length = σ8.length := by rw [← hw8, wipe_length]
        refine ⟨m', hm, i + 1, H', (I'.unpinned (pins := [])).weak hl (fun j v e => ?_), T.keep _ _ _ st7 fun b hb o e => (kept b hb o e).1, fun b hb => ?_, w'⟩
        · rw [← hw8] at e
          exact (wipe_some e).1
        · obtain ⟨o, e, _⟩ := T.obj _ _ st7 b hb
          exact (kept b hb o e).2
      cases b with
      | false =>
        simp only [Bool.false_eq_true, if_false] at q9 ⊢
        exact fin J9 q9
      | true =>
        simp only [if_true] at q9 ⊢
        refine wpAny_mono (pe.run _ s9 σ8 H9 _ J9 q9) (fun z s10 ⟨yv, H10, J10, r10, acc, hD10, hz10, nx⟩ => ?_) tox
        exact app_ok (X := blkE X t3 HB scope ce fp xe) J10 hD10 hz10 r10 fun s11 J11 => fin J11 nx
  exact codeAny_compStart_list loop (T.self X.A 0 _ _ _ stC loop)
/-- as a value -/
theorem pe_lcX {elt tg iter : Expr} {ifs : List Expr} {scope : Scope} {own : List (Str × Nat)} {pos : Pos} {wi : TI} {g : TG} {tt : TT} {te : TE} (tk : Takes X (fun cls d _ H => E cls d H)) (hst : X.stack = X.env :: X.outer) (hfr : X.env.frame = some X.env.locals)
    (hc : X.calm = true) (hN : X.N.Nodup) (hi : PI X tg iter wi) (ok : BlkOk X.N X.env.scope scope own)
    (hg : ∀ (s : Shared) (H : Hp) (C : Addr) (cl : List (Str × Addr)) (fp : List Addr) (xe : Value → Shared → Prop), PG (blkE X s H scope (compEnvC scope cl C X.env) fp xe) tg g)
    (ht : ∀ (s : Shared) (H : Hp) (C : Addr) (cl : List (Str × Addr)) (fp : List Addr) (xe : Value → Shared → Prop), PTs (blkE X s H scope (compEnvC scope cl C X.env) fp xe) ifs tt)
    (he : ∀ (s : Shared) (H : Hp) (C : Addr) (cl : List (Str × Addr)) (fp : List Addr) (xe : Value → Shared → Prop), (∀ σ, PassesAt (L2.CX X.prog X.w) (blkE X s H scope (compEnvC scope cl C X.env) fp xe) σ E) → PE (blkE X s H scope (compEnvC scope cl C X.env) fp xe) elt te)
    (hs : ∀ x, foldedSetIterable iter X.env x = pure x := by intro _; rfl) :
    PE X (.ListComp elt [⟨tg, iter, ifs, 0⟩] scope pos) (tLc wi g tt te (own.map (·.2))) := by
  refine ⟨fun pins s σ H Q I h => ?_⟩
  rw [eval_ListComp]
  refine lcX_core tk hst hfr hc hN hi ok hg ht he hs I h fun D cenv s6 m H5 J7 qq hn fC => ⟨m, hn, fun h'' sb => ?_⟩
  obtain ⟨f0, f1, f2, f3, f4, f5⟩ := fC
  exact ⟨.ref D, H5, J7.turned (t' := s6.toks) (fun b o hb e => (sb.2 b hb).trans e) f0 f1 f3 f4 f5, rfl, qq⟩
/-- name = [..] on one line, the name a plain local -/
theorem ps_setLcX {i : Nat} {y : Str} {py : Pos} {elt tg iter : Expr} {ifs : List Expr} {scope : Scope} {own : List (Str × Nat)} {pos spos : Pos} {wi : TI} {g : TG} {tt : TT} {te : TE} (tk : Takes X (fun cls d _ H => E cls d H)) (hst : X.stack = X.env :: X.outer) (hfr : X.env.frame = some X.env.locals)
    (hc : X.calm = true) (hN : X.N.Nodup) (hy : X.N[i]? = some y) (hyl : X.env.scope.names.lookup y = some .local) (hsw : swapsWith (.ListComp elt [⟨tg, iter, ifs, 0⟩] scope pos) (some (.Name y py)) spos.line X.env = pure true)
    (hi : PI X tg iter wi) (ok : BlkOk X.N X.env.scope scope own)
    (hg : ∀ (s : Shared) (H : Hp) (C : Addr) (cl : List (Str × Addr)) (fp : List Addr) (xe : Value → Shared → Prop), PG (blkE X s H scope (compEnvC scope cl C X.env) fp xe) tg g)
    (ht : ∀ (s : Shared) (H : Hp) (C : Addr) (cl : List (Str × Addr)) (fp : List Addr) (xe : Value → Shared → Prop), PTs (blkE X s H scope (compEnvC scope cl C X.env) fp xe) ifs tt)
    (he : ∀ (s : Shared) (H : Hp) (C : Addr) (cl : List (Str × Addr)) (fp : List Addr) (xe : Value → Shared → Prop), (∀ σ, PassesAt (L2.CX X.prog X.w) (blkE X s H scope (compEnvC scope cl C X.env) fp xe) σ E) → PE (blkE X s H scope (compEnvC scope cl C X.env) fp xe) elt te)
    (hs : ∀ x, foldedSetIterable iter X.env x = pure x := by intro _; rfl) :
    PS X (.Assign [.Name y py] (.ListComp elt [⟨tg, iter, ifs, 0⟩] scope pos) spos) (tAsg (tLc wi g tt te (own.map (·.2))) (gName i)) := by
  refine ⟨fun pins s σ H D I h => ?_⟩
  rw [exec_Assign_Name_used _ _ _ _ hsw]
  refine wpAny_bind (wpAny_standAt (wpAny_bind ?_))
  show wpAny _ _ (do let _ ← comprehension (.ListComp elt [⟨tg, iter, ifs, 0⟩] scope pos) scope X.env (firstIterPos [⟨tg, iter, ifs, 0⟩] pos) (newList []) false (eval iter X.env) (some (assign (.Name y py) X.env))) _ _ s
  have h : tLc wi g tt te (own.map (·.2)) σ H (fun x H1 => gName i x σ H1 D.nx) := h
  refine wpAny_bind (thn (lcX_core (Qf := fun _ s' => SP X pins D .next s') tk hst hfr hc hN hi ok hg ht he hs I h fun D0 cenv s6 m H5 J7 qq hn fC => ?_) fun _ s' hq => wpAny_pure (wpAny_pure hq))
  show wpAny _ _ (assign (.Name y py) X.env (.ref D0)) _ _ _
  refine wpAny_assign_Name (store_ok2 (v := V.ref D0) J7 hN hy (.inl hyl) rfl (fun s2 J2 ⟨a, sb, ha⟩ => ?_) (.inr hyl))
  obtain ⟨f0, f1, f2, f3, f4, f5⟩ := fC
  have nCa : cenv.locals ≠ a := by
    rcases ha with z | z
    · rw [z]; exact f1
    · exact fun e => f4 y a z e.symm
  refine ⟨m, hn.sameBut sb nCa, fun h3 sb3 => ?_⟩
  exact ⟨_, H5, J2.turned (t' := s2.toks) (fun b o hb e => (sb3.2 b hb).trans e) f0 f1 f3 f4 f5, qq⟩
end
end Yd
namespace Yd
open PySem PySem.Spec L2
open Bud (Pc)
/-! ### rows: (place, size, out) -/
abbrev Row := Int × Int × Bool
def IsRw (H : Hp) (v : V) (r : Row) : Prop := ∃ t, v = .ref t ∧ H t = some (.tup [.int r.1, .int r.2.1, .bl r.2.2])
abbrev Rws (H : Hp) : List V → List Row → Prop := Paired (IsRw H)
theorem IsRw.kept {H H' : Hp} (k : TupKept H H') {v : V} {r : Row} (h : IsRw H v r) : IsRw H' v r := by
  obtain ⟨t, rfl, e⟩ := h
  exact ⟨t, rfl, k _ _ e⟩
theorem Rws.kept {H H' : Hp} (k : TupKept H H') {xs : List V} {L : List Row} (h : Rws H xs L) : Rws H' xs L := Paired.mapP h fun _ _ r => r.kept k
theorem paired_get {α β : Type} {F : α → β → Prop} : ∀ {xs : List α} {L : List β} {i : Nat} {x : α}, Paired F xs L → xs[i]? = some x → ∃ r, L[i]? = some r ∧ F x r
  | _, _, 0, _, .cons r _, e => ⟨_, rfl, by cases e; exact r⟩
  | _, _, i + 1, _, .cons _ t, e => paired_get (i := i) t (by simpa using e)
  | _, _, _, _, .nil, e => by simp at e
theorem paired_get' {α β : Type} {F : α → β → Prop} : ∀ {xs : List α} {L : List β} {i : Nat} {r : β}, Paired F xs L → L[i]? = some r → ∃ x, xs[i]? = some x ∧ F x r
  | _, _, 0, _, .cons r _, e => ⟨_, rfl, by cases e; exact r⟩
  | _, _, i + 1, _, .cons _ t, e => paired_get' (i := i) t (by simpa using e)
  | _, _, _, _, .nil, e => by simp at e
section
variable {X : Cx} {e i : Expr} {te : TE} {pos p2 : Pos} {k : Nat}
def tR0 (te : TE) : TE := fun σ H Q => te σ H fun x H1 => ∃ r : Row, IsRw H1 x r ∧ Q (.int r.1) H1
def tR1 (te : TE) : TE := fun σ H Q => te σ H fun x H1 => ∃ r : Row, IsRw H1 x r ∧ Q (.int r.2.1) H1
def tR2 (te : TE) : TE := fun σ H Q => te σ H fun x H1 => ∃ r : Row, IsRw H1 x r ∧ Q (.bl r.2.2) H1
theorem pe_r0 {p3 : Pos} (he : PE X e te) : PE X (.Subscript e (.Constant (.int 0) k p3) pos) (tR0 te) := by
  refine ⟨fun pins s σ H Q I h => ?_⟩
  refine PyProof.Rows.Subscript_ (thn (he.run pins s σ H _ I h) fun v s1 ⟨x, H1, I1, rx, p, hp, q⟩ => thn (pe_int.run pins s1 σ H1 (fun y H2 => y = .int 0 ∧ H2 = H1) I1 ⟨rfl, rfl⟩) fun u s2 ⟨y, H2, I2, ry, ey, eH⟩ => ?_)
  subst ey
  subst eH
  obtain ⟨t, rfl, et⟩ := hp
  exact ix_tup e _ pins s2 σ H2 _ _ v u Q I2 rx ry ⟨t, _, 0, _, rfl, rfl, SqT.of et, rfl, q⟩ rfl
theorem pe_r1 {p3 : Pos} (he : PE X e te) : PE X (.Subscript e (.Constant (.int 1) k p3) pos) (tR1 te) := by
  refine ⟨fun pins s σ H Q I h => ?_⟩
  refine PyProof.Rows.Subscript_ (thn (he.run pins s σ H _ I h) fun v s1 ⟨x, H1, I1, rx, p, hp, q⟩ => thn (pe_int.run pins s1 σ H1 (fun y H2 => y = .int 1 ∧ H2 = H1) I1 ⟨rfl, rfl⟩) fun u s2 ⟨y, H2, I2, ry, ey, eH⟩ => ?_)
  subst ey
  subst eH
  obtain ⟨t, rfl, et⟩ := hp
  exact ix_tup e _ pins s2 σ H2 _ _ v u Q I2 rx ry ⟨t, _, 1, _, rfl, rfl, SqT.of et, rfl, q⟩ rfl
theorem pe_r2 {p3 : Pos} (he : PE X e te) : PE X (.Subscript e (.Constant (.int 2) k p3) pos) (tR2 te) := by
  refine ⟨fun pins s σ H Q I h => ?_⟩
  refine PyProof.Rows.Subscript_ (thn (he.run pins s σ H _ I h) fun v s1 ⟨x, H1, I1, rx, p, hp, q⟩ => thn (pe_int.run pins s1 σ H1 (fun y H2 => y = .int 2 ∧ H2 = H1) I1 ⟨rfl, rfl⟩) fun u s2 ⟨y, H2, I2, ry, ey, eH⟩ => ?_)
  subst ey
  subst eH
  obtain ⟨t, rfl, et⟩ := hp
  exact ix_tup e _ pins s2 σ H2 _ _ v u Q I2 rx ry ⟨t, _, 2, _, rfl, rfl, SqT.of et, rfl, q⟩ rfl
end
section
variable {X : Cx} {k : Nat} {ps : List Str} {sp : Sp} {E : XK} {x : Str} {p pos : Pos} {e : Expr} {es : List Expr} {t : TA}
/-- f(e, ..) where what it raises is passed on -/
theorem pe_cp (hx : ∀ σ, PassesAt (L2.CX X.prog X.w) X σ E) (D : DefOk X.prog X.w X.K X.mg X.base k x ps sp) (hr : Room k X.A) (ha : PA X (e :: es) t) (hg : Gl X x := by rfl)
    (hdb : (x == ("__debug__" : Str)) = false := by decide) (he : starEach (e :: es) X.env = (false, eval e X.env) :: starEach es X.env := by rfl) (hpl : (backTo pos (starEach es X.env)).any (·.1) = false := by rfl) :
    PE X (.Call (.Name x p) (e :: es) [] pos) (tCallS sp (fun _ => E) t) := by
  obtain ⟨fd, F, b⟩ := D.ex
  exact pe_callS F hr hg D.g D.kp b hx ha hdb he hpl
end
/-! ### rows side by side -/
def chain : Int → List Row → Option Int
  | b, [] => some b
  | b, r :: L => if r.1 = b then chain (r.1 + r.2.1) L else none
def outR (L : List Row) : List Pc := (L.filter fun r => r.2.2).map fun r => (r.1, r.2.1)
def freeR (L : List Row) : List Pc := (L.filter fun r => !r.2.2).map fun r => (r.1, r.2.1)
theorem chain_snoc : ∀ (L : List Row) (b : Int) (r : Row), chain b (L ++ [r]) = (chain b L).bind fun c => if r.1 = c then some (r.1 + r.2.1) else none
  | [], b, r => rfl
  | q :: L, b, r => by
    show (if q.1 = b then chain (q.1 + q.2.1) (L ++ [r]) else none) = _
    by_cases h : q.1 = b
    · rw [if_pos h, chain_snoc L]
      show _ = (if q.1 = b then chain (q.1 + q.2.1) L else none).bind _
      rw [if_pos h]
    · rw [if_neg h]
      show _ = (if q.1 = b then chain (q.1 + q.2.1) L else none).bind _
      rw [if_neg h]
      rfl
theorem chain_at : ∀ {L : List Row} {b n : Int} {i : Nat} {r : Row}, chain b L = some n → L[i]? = some r → chain b (L.take i) = some r.1
  | [], _, _, _, _, _, h => by simp at h
  | q :: L, b, n, 0, r, h, e => by
    have e1 : q = r := by simpa using e
    subst e1
    by_cases hq : q.1 = b
    · show some b = _
      rw [hq]
    · rw [show chain b (q :: L) = if q.1 = b then chain (q.1 + q.2.1) L else none from rfl, if_neg hq] at h
      cases h
  | q :: L, b, n, i + 1, r, h, e => by
    by_cases hq : q.1 = b
    · rw [show chain b (q :: L) = if q.1 = b then chain (q.1 + q.2.1) L else none from rfl, if_pos hq] at h
      rw [List.take_succ_cons, show chain b (q :: L.take i) = if q.1 = b then chain (q.1 + q.2.1) (L.take i) else none from rfl, if_pos hq]
      exact chain_at h (by simpa using e)
    · rw [show chain b (q :: L) = if q.1 = b then chain (q.1 + q.2.1) L else none from rfl, if_neg hq] at h
      cases h
theorem chain_low : ∀ {L : List Row} {b n : Int}, chain b L = some n → (∀ r ∈ L, 0 < r.2.1) → b ≤ n ∧ (∀ r ∈ L, b ≤ r.1 ∧ r.1 + r.2.1 ≤ n) ∧ L.Pairwise fun r q => r.1 + r.2.1 ≤ q.1
  | [], b, n, h, _ => by
    have : b = n := Option.some.inj h
    subst this
    exact ⟨Int.le_refl _, (fun _ z => by cases z), List.Pairwise.nil⟩
  | q :: L, b, n, h, hp => by
    by_cases hq : q.1 = b
    · rw [show chain b (q :: L) = if q.1 = b then chain (q.1 + q.2.1) L else none from rfl, if_pos hq] at h
      obtain ⟨h1, h2, h3⟩ := chain_low h fun r hr => hp r (List.mem_cons_of_mem _ hr)
      have p0 := hp q List.mem_cons_self
      refine ⟨by omega, fun r hr => ?_, .cons (fun r hr => (h2 r hr).1) h3⟩
      rcases List.mem_cons.mp hr with rfl | hr
      · exact ⟨by omega, h1⟩
      · have := h2 r hr
        omega
    · rw [show chain b (q :: L) = if q.1 = b then chain (q.1 + q.2.1) L else none from rfl, if_neg hq] at h
      cases h
theorem outR_snoc (L : List Row) (r : Row) : outR (L ++ [r]) = outR L ++ (if r.2.2 then [(r.1, r.2.1)] else []) := by
  unfold outR
  rw [List.filter_append, List.map_append]
  congr 1
  cases h : r.2.2
  · rw [List.filter_cons_of_neg (by simp [h])]
    rfl
  · rw [List.filter_cons_of_pos (by simp [h])]
    rfl
theorem freeR_snoc (L : List Row) (r : Row) : freeR (L ++ [r]) = freeR L ++ (if r.2.2 then [] else [(r.1, r.2.1)]) := by
  unfold freeR
  rw [List.filter_append, List.map_append]
  congr 1
  cases h : r.2.2
  · rw [List.filter_cons_of_pos (by simp [h])]
    rfl
  · rw [List.filter_cons_of_neg (by simp [h])]
    rfl
theorem mem_outR {L : List Row} {p : Pc} : p ∈ outR L ↔ (p.1, p.2, true) ∈ L := by
  unfold outR
  rw [List.mem_map]
  constructor
  · rintro ⟨r, hr, rfl⟩
    obtain ⟨h1, h2⟩ := List.mem_filter.mp hr
    have : r.2.2 = true := h2
    rw [← this]
    exact h1
  · intro h
    exact ⟨_, List.mem_filter.mpr ⟨h, rfl⟩, rfl⟩
theorem mem_freeR {L : List Row} {p : Pc} : p ∈ freeR L ↔ (p.1, p.2, false) ∈ L := by
  unfold freeR
  rw [List.mem_map]
  constructor
  · rintro ⟨r, hr, rfl⟩
    obtain ⟨h1, h2⟩ := List.mem_filter.mp hr
    have : r.2.2 = false := by simpa using h2
    rw [← this]
    exact h1
  · intro h
    exact ⟨_, List.mem_filter.mpr ⟨h, rfl⟩, rfl⟩
theorem outR_len (L : List Row) : (outR L).length ≤ L.length := by
  unfold outR
  rw [List.length_map]
  exact List.length_filter_le _ _
theorem freeR_len (L : List Row) : (freeR L).length ≤ L.length := by
  unfold freeR
  rw [List.length_map]
  exact List.length_filter_le _ _
end Yd
namespace Yd
open PySem PySem.Spec L2
open Bud (Pc)
theorem cutV_to (xs : List V) (j : Nat) (h : j ≤ xs.length) : cutV xs none (some (j : Int)) = xs.take j := by
  show (xs.drop 0).take (HT.sIx xs.length xs.length (some (j : Int)) - 0) = _
  rw [HT.sIx_nat, Nat.min_eq_left h]
  rfl
theorem cutV_from (xs : List V) (j : Nat) (h : j ≤ xs.length) : cutV xs (some (j : Int)) none = xs.drop j := by
  show (xs.drop (HT.sIx xs.length 0 (some (j : Int)))).take (xs.length - HT.sIx xs.length 0 (some (j : Int))) = _
  rw [HT.sIx_nat, Nat.min_eq_left h]
  exact List.take_of_length_le (by rw [List.length_drop]; exact Nat.le_refl _)
theorem Prs.get_at {H : Hp} {xs : List V} {L : List Pc} {i : Int} (h : Prs H xs L) (h0 : 0 ≤ i) (h1 : i < L.length) : ∃ (j : Nat) (v : V) (p : Pc), i = j ∧ L[j]? = some p ∧ atI xs i = some v ∧ IsPr H v p := by
  obtain ⟨j, rfl⟩ : ∃ j : Nat, i = j := ⟨i.toNat, by omega⟩
  have hj : j < L.length := by omega
  obtain ⟨v, hv, hp⟩ := h.get' (List.getElem?_eq_getElem hj)
  exact ⟨j, v, L[j], rfl, List.getElem?_eq_getElem hj, atI_nat hv, hp⟩
end Yd
namespace Yd
open PySem PySem.Spec L2
theorem str_app_len (x y : Str) : (x ++ y).length = x.length + y.length := by rw [TL.len_tl, TL.tl_append, List.length_append, ← TL.len_tl, ← TL.len_tl]
/-- a number's signs -/
def numS (n : Nat) : Str := Str.ofString (toString ((n : Nat) : Int))
theorem numS_len {n : Nat} (h : n < 10 ^ 26) : (numS n).length ≤ 26 := by
  rw [TL.len_tl]
  unfold numS
  rw [TL.tl_num]
  exact TL.numL_len (by decide) h
theorem numS_int {n : Nat} (h : n < 10 ^ 26) : PySem.intText? (numS n) = some (n : Int) := TL.int_num (Nat.le_trans (TL.numL_len (by decide) h) (by decide))
theorem numS_log {n : Nat} (h : n < 10 ^ 26) : ((n : Int)).natAbs.log2 < 1920 := by
  have h2 : ((n : Int)).natAbs < 2 ^ 90 := by
    rw [Int.natAbs_natCast]
    exact Nat.lt_of_lt_of_le h (by decide)
  exact Nat.lt_of_lt_of_le (PySem.Flt.log2_lt_of (by decide) h2) (by decide)
/-- a line of a note -/
def LineOk (z : Str) : Prop := ∃ (a s : Nat) (w : Str), z = numS a ++ " " ++ numS s ++ " " ++ w ∧ (w = "out" ∨ w = "free") ∧ a < 10 ^ 25 ∧ 1 ≤ s ∧ s < 10 ^ 25
theorem numS_free (n : Nat) : 32 ∉ TL.tl (numS n) := by
  unfold numS
  rw [TL.tl_num]
  exact TL.numL_free (by decide)
theorem line_split {a s : Nat} {w : Str} (hw : w = "out" ∨ w = "free") : Txt.split (numS a ++ " " ++ numS s ++ " " ++ w) " " = [numS a, numS s, w] := by
  have e : numS a ++ " " ++ numS s ++ " " ++ w = Txt.join " " [numS a, numS s, w] := by
    refine TL.ext_tl ?_
    rw [TL.join_eq, TL.tl_join]
    simp only [TL.tl_append, TL.joinL, List.map_cons, List.map_nil, List.append_assoc]
  rw [e]
  refine TL.split_join (s := 32) (S := []) (by decide +kernel) (by decide +kernel) (by simp) fun p hp => ?_
  rcases List.mem_cons.mp hp with rfl | hp
  · exact numS_free a
  · rcases List.mem_cons.mp hp with rfl | hp
    · exact numS_free s
    · rw [List.mem_singleton.mp hp]
      rcases hw with rfl | rfl
      · decide +kernel
      · decide +kernel
theorem word_len {w : Str} (hw : w = "out" ∨ w = "free") : w.length ≤ 4 := by
  rcases hw with rfl | rfl
  · decide +kernel
  · decide +kernel
theorem line_len {z : Str} (h : LineOk z) : z.length ≤ 60 := by
  obtain ⟨a, s, w, rfl, hw, ha, _, hs⟩ := h
  have h1 := numS_len (n := a) (Nat.lt_trans ha (by decide))
  have h2 := numS_len (n := s) (Nat.lt_trans hs (by decide))
  have h3 := word_len hw
  have h4 : (" " : Str).length = 1 := by decide +kernel
  simp only [str_app_len, h4]
  omega
/-! ### texts of bounded length -/
def tS (C : L2.St → Hp → Prop) (b : Nat) : TE := fun σ H Q => C σ H ∧ ∀ z : Str, z.length ≤ b → Q (.str z) H
def tSs (C : L2.St → Hp → Prop) (b n : Nat) : TA := fun σ H Q => C σ H ∧ ∀ zs : List Str, (∀ z ∈ zs, z.length ≤ b) → zs.length = n → Q (zs.map V.str) H
section
variable {X : Cx} {C : L2.St → Hp → Prop} {e e1 e2 : Expr} {es : List Expr} {a b : Nat} {pos : Pos}
theorem sAdd (ha : PE X e1 (tS C a)) (hb : PE X e2 (tS C b)) (h : a + b ≤ 1000000) : PE X (.BinOp e1 .Add e2 pos) (tS C (a + b)) :=
  PE.imp (pe_op op_add_str ha hb) fun σ H Q ⟨c, k⟩ => ⟨c, fun z hz => ⟨c, fun y hy => ⟨z, y, rfl, rfl, by rw [sizeLine_eq]; omega, k _ (by rw [str_app_len]; omega)⟩⟩⟩
theorem sOf {te : TE} (h : PE X e te) (i : ∀ σ H (Q : VK), C σ H → (∀ z : Str, z.length ≤ a → Q (.str z) H) → te σ H Q) : PE X e (tS C a) := PE.imp h fun σ H Q ⟨c, k⟩ => i σ H Q c k
theorem sNil : PA X [] (tSs C b 0) := ⟨fun pos pins s σ H Q I ⟨c, k⟩ => (pa_nil (X := X)).run pos pins s σ H Q I (k [] (fun _ h => by cases h) rfl)⟩
theorem sCons {n : Nat} (h : PE X e (tS C a)) (t : PA X es (tSs C b n)) (hab : a ≤ b) (hs : starEach (e :: es) X.env = (false, eval e X.env) :: starEach es X.env := by rfl) : PA X (e :: es) (tSs C b (n + 1)) := ⟨fun pos pins s σ H Q I ⟨c, k⟩ => (pa_cons h t hs).run pos pins s σ H Q I
  ⟨c, fun z hz => ⟨c, fun zs hzs hn => k (z :: zs) (fun y hy => by
    rcases List.mem_cons.mp hy with rfl | hy
    · omega
    · exact hzs y hy) (by rw [List.length_cons, hn])⟩⟩⟩
end
end Yd
namespace Yd
open PySem PySem.Spec L2
/-! ### lists of short texts -/
def tL (C : L2.St → Hp → Prop) (b : Nat) : TE := fun σ H Q => C σ H ∧ ∀ (H' : Hp) (q : Addr) (S : List Str), Same H H' → H' q = some (.lst (S.map V.str)) → S.length ≤ b → (∀ z ∈ S, z.length ≤ 150) → Q (.ref q) H'
section
variable {X : Cx} {C : L2.St → Hp → Prop} {e e1 e2 : Expr} {a b : Nat} {pos p p2 pos2 : Pos}
theorem lOf {te : TE} (h : PE X e te) (i : ∀ σ H (Q : VK), C σ H → (∀ (H' : Hp) (q : Addr) (S : List Str), Same H H' → H' q = some (.lst (S.map V.str)) → S.length ≤ b → (∀ z ∈ S, z.length ≤ 150) → Q (.ref q) H') → te σ H Q) : PE X e (tL C b) := PE.imp h fun σ H Q ⟨c, k⟩ => i σ H Q c k
theorem lCat (hC : ∀ σ H H', Same H H' → C σ H → C σ H') (ha : PE X e1 (tL C a)) (hb : PE X e2 (tL C b)) (h : a + b ≤ 1000000) : PE X (.BinOp e1 .Add e2 pos) (tL C (a + b)) :=
  PE.imp (pe_op op_cat ha hb) fun σ H Q ⟨c, k⟩ => ⟨c, fun H1 q1 S1 s1 e1 l1 b1 => ⟨hC _ _ _ s1 c, fun H2 q2 S2 s2 e2 l2 b2 => ⟨q1, q2, _, _, rfl, rfl, s2 _ _ e1, e2, by rw [List.length_map, List.length_map, sizeLine_eq]; omega, fun q hq =>
    k _ q (S1 ++ S2) (s1.trans (s2.trans (same_new hq))) (by rw [upd_same, List.map_append]) (by rw [List.length_append]; omega) (fun z hz => (List.mem_append.mp hz).elim (b1 z) (b2 z))⟩⟩⟩
theorem lOne {n : Nat} {es : List Expr} (h : PA X es (tSs C 150 n)) (hn : n ≤ 1000) : PE X (.List es pos) (tL C n) :=
  PE.imp (pe_lst h) fun σ H Q ⟨c, k⟩ => ⟨c, fun zs hzs hl => ⟨by rw [List.length_map, hl, sizeLine_eq]; omega, fun q hq => k _ q zs (same_new hq) upd_same (by omega) hzs⟩⟩
theorem lRev (hc : X.calm = true) (hg : Gl X "list") (hm : X.mg "list" = none) (hg2 : Gl X "reversed") (hm2 : X.mg "reversed" = none) (he : PE X e (tL C b))
    (hs : starEach [e] X.env = (false, eval e X.env) :: starEach [] X.env := by rfl)
    (hs2 : starEach [.Call (.Name "reversed" p2) [e] [] pos2] X.env = (false, eval (.Call (.Name "reversed" p2) [e] [] pos2) X.env) :: starEach [] X.env := by rfl) :
    PE X (.Call (.Name "list" p) [.Call (.Name "reversed" p2) [e] [] pos2] [] pos) (tL C b) :=
  PE.imp (pe_lstRev hc hg hm hg2 hm2 he hs hs2) fun σ H Q ⟨c, k⟩ => ⟨c, fun H1 q1 S1 s1 e1 l1 b1 => ⟨q1, _, rfl, SqL.of e1, fun q hq => k _ q S1.reverse (s1.trans (same_new hq)) (by rw [upd_same, List.map_reverse]) (by rw [List.length_reverse]; exact l1) (fun z hz => b1 z (List.mem_reverse.mp hz))⟩⟩
end
end Yd

set_option Elab.async false
set_option linter.all false
set_option maxRecDepth 100000
set_option maxHeartbeats 4000000
/-! Defs called while an exception is handled: min of two, a dict's values, defs and methods. -/
namespace Yd
open PySem PySem.Spec PyProof.Rows L2 L2H HotX
section
variable {prog : Program} {w : World} {A : Around} {E : Value → Shared → Prop} {s : Shared}
/-- a new StopIteration where x1 is handled -/
theorem stop_hot {it x1 : Addr} {h0 : Heap} (hh : A.handled = some (.ref x1)) (h1 : ∃ (o : Obj) (vs : Array Value), h0.get? x1 = some o ∧ o.data = .fields vs ∧ vs[2]? = some .none) (kp : ∀ b o, b ≠ it → s.heap.get? b = some o → h0.get? b = some o)
    {α : Type} : wpAny (model prog w) A (newExc (.type "StopIteration") [] >>= fun e => (raiseNew e : Sem α)) (fun _ _ => False) (fun e s2 => ∃ h', e = .ref (h0.objs.size + 1) ∧ s2 = { s with heap := h' } ∧ (∃ o, h'.get? (h0.objs.size + 1) = some o ∧ o.cls = .type "StopIteration") ∧ Heap.ExtBut it s.heap h') { s with heap := h0 } := by
  obtain ⟨o1, vs1, g1, d1, c1⟩ := h1
  refine wpAny_bind ?_
  simp only [newExc, newTuple]
  refine wpAny_bind (wpAny_newObj_type (wpAny_bind (m := firstArgMember _ _) (wpAny_of_eq (a := Value.none) (by first | rfl | (simp only [firstArgMember]; rfl)) (wpAny_newObj_type ?_ (by size_fits)))) (by size_fits))
  have hx := Heap.get?_push_of_some (h := h0) { cls := .type "tuple", data := .seq ([] : List Value).toArray } g1
  refine raiseNew_hot ⟨hh, o1, vs1, Heap.get?_push_of_some _ hx, d1, c1⟩ (Nat.ne_of_lt (Heap.lt_size hx)) (Heap.get?_push_size _ rfl) rfl (by first | (simp; done) | (simp; omega) | (simp only [Array.size_append]; simp; omega)) ?_
  refine ⟨_, by rw [Heap.size_push], rfl, ⟨_, by rw [← Heap.size_push h0 { cls := .type "tuple", data := .seq ([] : List Value).toArray }]; exact Heap.get?_update_self _ (Heap.get?_push_size _ rfl) rfl, rfl⟩, fun b ob hb e => ?_⟩
  have hy := Heap.get?_push_of_some (h := h0) { cls := .type "tuple", data := .seq ([] : List Value).toArray } (kp b ob hb e)
  rw [Heap.get?_update_other _ _ (Nat.ne_of_gt (Heap.lt_size hy))]
  exact Heap.get?_push_of_some _ hy
theorem tup_end_hot {it t x1 : Addr} {i : Nat} {items : Array Value} {Q : Option Value → Shared → Prop} (hot : HotAt A x1 s.heap) (nx : x1 ≠ it) (hit : s.heap.IsTupleIter it t i) (ht : s.heap.IsTuple t items) (hx : items[i]? = none)
    (hQ : ∀ h', Heap.ExtBut it s.heap h' → Q none { s with heap := h' }) : wpAny (model prog w) A (pyNext (.ref it)) Q E s := by
  obtain ⟨o, ho, hc, hd⟩ := id hit
  obtain ⟨ol, hol, _, nl, hdl⟩ := ht
  obtain ⟨hh, o1, vs1, g1, d1, c1⟩ := hot
  unfold pyNext
  refine wpAny_bind (wpAny_attempt (wpAny_callSpecial?_slot (name := Str.ofString "__next__") hit.typeIs F.slot_tuple_iterator_next (wpAny_call_entry F.slot_tuple_iterator_next hit.typeIs F.entry_tuple_iterator_next ?_ (F.args_tuple_iterator_next_1 _))))
  show wpAny _ _ (field (.ref it) 0 >>= _) _ _ s
  refine wpAny_bind (wpAny_field ho hd (x := .ref t) rfl ?_)
  show wpAny _ _ (if (Value.ref t == Value.none) = true then _ else _) _ _ s
  rw [if_neg (by simp)]
  show wpAny _ _ (field (.ref it) 1 >>= _) _ _ s
  refine wpAny_bind (wpAny_field ho hd (x := .int i 0) rfl ?_)
  show wpAny _ _ (seqItems? (.ref t) >>= _) _ _ s
  refine wpAny_bind (wpAny_seqItems hol hdl ?_)
  simp only [Int.toNat_natCast, hx]
  refine wpAny_bind (wpAny_rule (wpAny_bind (wpAny_setField ho hd (by simp) ?_)))
  show wpAny _ A.in1 (newExc (.type "StopIteration") [] >>= fun e => (raiseNew e : Sem _)) _ _ { s with heap := s.heap.update it (Obj.mapFields (·.setIfInBounds 0 Value.none)) }
  refine wpAny_mono (stop_hot (prog := prog) (w := w) (A := A.in1) (s := s) (it := it) (h0 := s.heap.update it (Obj.mapFields (·.setIfInBounds 0 Value.none))) hh ⟨o1, vs1, (Heap.get?_update_other _ _ (Ne.symm nx)).trans g1, d1, c1⟩ fun b ob hb e => (Heap.get?_update_other _ _ (Ne.symm hb)).trans e) (fun _ _ (z : False) => z.elim) fun e s2 hx2 => ?_
  obtain ⟨h', e1, e2, ⟨oe, he, hce⟩, eb⟩ := hx2
  subst e1 e2
  exact wpAny_bind (wpAny_isInstance (T := "StopIteration") (b := true) ⟨oe, he, hce⟩ isSubtype_stop (wpAny_pure (hQ h' eb)))
/-- a tuple walked while x1 is handled -/
theorem walks_tup_hot {x1 : Addr} (hh : A.handled = some (.ref x1)) (I ax : Addr) (hne : ax ≠ I) (nx : x1 ≠ I) (items : Array Value) :
    Walks prog w A I [I, ax, x1] [I] items.size (fun i v => items[i]? = some v) (fun i h => h.IsTupleIter I ax i ∧ h.IsTuple ax items ∧ HotAt A x1 h) where
  sub := fun b hb => by simp at hb; simp [hb]
  frame := fun _ _ _ st hk => ⟨st.1.at fun o e => hk I (by simp) o e, st.2.1.at fun o e => hk ax (by simp) o e, st.2.2.1, by
    obtain ⟨_, o, vs, g, r⟩ := st.2.2
    exact ⟨o, vs, hk x1 (by simp) o g, r⟩⟩
  item := fun i s Q E hi st hQ => by
    refine wpAny_pyNext_tuple_item st.1 st.2.1 (x := items[i]) (by simp [hi]) fun h' hit' hs' => ?_
    refine hQ _ h' s.toks (by simp [hi]) ⟨hit', st.2.1.extBut hs'.extBut hne, st.2.2.1, ?_⟩ fun b o hb e => hs'.extBut b o (fun h => hb (by simp [h])) e
    obtain ⟨_, o, vs, g, r⟩ := st.2.2
    exact ⟨o, vs, hs'.extBut x1 o nx g, r⟩
  done := fun s Q E st hQ => tup_end_hot st.2.2 nx st.1 st.2.1 (by simp) fun h' he' => hQ h' s.toks fun b o hb e => he' b o (fun h => hb (by simp [h])) e
  self := fun _ _ _ _ st hQ => wpAny_pyIter_tupleiter st.1 hQ
theorem min2_hot {a b : Int} {t u : Tok} {x1 : Addr} {Q : Value → Shared → Prop} (hot : HotAt A x1 s.heap)
    (h : ∀ h' tk, (∀ c o, s.heap.get? c = some o → h'.get? c = some o) → Q (if b < a then .int b u else .int a t) { s with heap := h', toks := tk }) :
    wpAny (model prog w) A (call (.builtin "min") [.int a t, .int b u]) Q E s := by
  have hT : (s.heap.push { cls := .type "tuple", data := .seq #[.int a t, .int b u] }).IsTuple s.heap.objs.size (intItems #[(a, t), (b, u)]) := ⟨_, Heap.get?_push_size _ rfl, rfl, 0, by simp [intItems]⟩
  obtain ⟨hh, o1, vs1, g1, d1, c1⟩ := hot
  have hx := Heap.lt_size g1
  refine call_min_two (wpAny_pyIter_tuple hT ?_)
  have hsz : (s.heap.push { cls := .type "tuple", data := .seq #[.int a t, .int b u] }).objs.size = s.heap.objs.size + 1 := Heap.size_push ..
  refine ⟨_, [_, s.heap.objs.size, x1], [_], _, _, _, _, rfl, walks_tup_hot (A := A.in1) hh _ s.heap.objs.size (by rw [hsz]; exact Nat.ne_of_lt (Nat.lt_succ_self _)) (by rw [hsz]; exact Nat.ne_of_lt (Nat.lt_succ_of_lt hx)) (intItems #[(a, t), (b, u)]),
    ⟨⟨_, Heap.get?_push_size _ rfl, rfl, rfl⟩, hT.push _, hh, o1, vs1, Heap.get?_push_of_some _ (Heap.get?_push_of_some _ g1), d1, c1⟩, fun c hc => ?_, by simp [intItems], CmpOf.ints_lt (numAt #[(a, t), (b, u)]) (fun _ _ => intItems_at), fun v h' tk hP hk => ?_⟩
  · show c < ((s.heap.push _).push _).objs.size
    rw [Heap.size_push, hsz]
    simp only [List.mem_cons, List.not_mem_nil, or_false] at hc
    rcases hc with rfl | rfl | rfl
    · rw [hsz]; exact Nat.lt_succ_self _
    · exact Nat.lt_succ_of_lt (Nat.lt_succ_self _)
    · exact Nat.lt_succ_of_lt (Nat.lt_succ_of_lt hx)
  · have old : ∀ c o, s.heap.get? c = some o → h'.get? c = some o := fun c o e => by
      refine hk c o (fun hm => ?_) (Heap.get?_push_of_some _ (Heap.get?_push_of_some _ e))
      have e1 := List.mem_singleton.mp hm
      have := Heap.lt_size e
      rw [e1, hsz] at this
      exact Nat.lt_irrefl _ (Nat.lt_of_succ_lt this)
    have fin := h h' tk old
    have hv : v = if b < a then Value.int b u else Value.int a t := by
      have hP2 : (intItems #[(a, t), (b, u)])[argBest (fun i j => decide (numAt #[(a, t), (b, u)] i < numAt #[(a, t), (b, u)] j)) 1]? = some v := by
        rw [← show (intItems #[(a, t), (b, u)]).size - 1 = 1 from by simp [intItems]]
        exact hP
      by_cases hba : b < a
      · rw [show argBest (fun i j => decide (numAt #[(a, t), (b, u)] i < numAt #[(a, t), (b, u)] j)) 1 = 1 from by simp [argBest, numAt, hba]] at hP2
        simpa [intItems, hba] using hP2.symm
      · rw [show argBest (fun i j => decide (numAt #[(a, t), (b, u)] i < numAt #[(a, t), (b, u)] j)) 1 = 0 from by simp [argBest, numAt, hba]] at hP2
        simpa [intItems, hba] using hP2.symm
    rw [hv]
    exact fin
/-- the values of a dict are at their end -/
theorem vals_end_hot {K0 : Type} [DecidableEq K0] {knd : KeyKind prog w K0} {it d x1 : Addr} {i ep : Nat} {kvs : List (K0 × Value)} {Q : Option Value → Shared → Prop} (hot : HotAt A x1 s.heap) (nx : x1 ≠ it) (hit : s.heap.IsValIter it d i kvs.length ep)
    (hm : s.heap.DictAt knd d kvs ep) (hx : kvs[i]? = none)
    (hQ : ∀ h', Heap.ExtBut it s.heap h' → Q none { s with heap := h' }) : wpAny (model prog w) A (pyNext (.ref it)) Q E s := by
  obtain ⟨o, ho, hc, hd⟩ := id hit
  obtain ⟨od, es, hod, hcd, hdd, hk, hp, hn⟩ := id hm
  obtain ⟨hh, o1, vs1, g1, d1, c1⟩ := hot
  unfold pyNext
  refine wpAny_bind (wpAny_attempt (wpAny_callSpecial?_slot (name := Str.ofString "__next__") hit.typeIs F.slot_dict_valueiterator_next (wpAny_call_entry F.slot_dict_valueiterator_next hit.typeIs F.entry_dict_valueiterator_next ?_ (F.args_dict_valueiterator_next_1 _))))
  refine wpAny_bind (wpAny_pure (wpAny_bind (wpAny_bind ?_)))
  first | refine wpAny_bind (wpAny_typeNameOfWhole_valiter hit.typeIs (wpAny_pure ?_)) | refine wpAny_bind (wpAny_typeNameOf_valiter hit.typeIs (wpAny_pure ?_))
  refine wpAny_bind (wpAny_fieldsOf ho hd ?_)
  simp only [show Builtin.Dict_items.ownsTuple "dict_valueiterator" = false by decide, Bool.false_eq_true, if_false]
  show wpAny _ _ (if (Value.ref d == Value.none) = true then _ else _) _ _ s
  rw [if_neg (by simp)]
  refine wpAny_bind (wpAny_pure (wpAny_bind (wpAny_dictEntries hod hdd ?_)))
  have hsz : es.size = kvs.length := by rw [← hp.length]; simp
  rw [if_neg (by rw [hsz]; simp)]
  refine wpAny_bind (wpAny_pure (wpAny_bind (wpAny_dictEpoch hod hdd ?_)))
  rw [if_neg (by simp)]
  have hge : es.size ≤ i := by rw [hsz]; simpa using hx
  refine wpAny_pure ?_
  simp only [show ¬ ((i : Int) < 0) from by omega, if_false, Int.toNat_natCast, Array.getElem?_eq_none hge]
  refine wpAny_bind ?_
  first | refine wpAny_bind (wpAny_typeNameOfWhole_valiter hit.typeIs (wpAny_pure ?_)) | refine wpAny_bind (wpAny_typeNameOf_valiter hit.typeIs (wpAny_pure ?_))
  show wpAny _ _ (setField (.ref it) 0 .none >>= _) _ _ s
  refine wpAny_bind (wpAny_setField ho hd (by simp) ?_)
  show wpAny _ A.in1 (newExc (.type "StopIteration") [] >>= fun e => (raiseNew e : Sem _)) _ _ { s with heap := s.heap.update it (Obj.mapFields (·.setIfInBounds 0 Value.none)) }
  refine wpAny_mono (stop_hot (prog := prog) (w := w) (A := A.in1) (s := s) (it := it) (h0 := s.heap.update it (Obj.mapFields (·.setIfInBounds 0 Value.none))) hh ⟨o1, vs1, (Heap.get?_update_other _ _ (Ne.symm nx)).trans g1, d1, c1⟩ fun b ob hb e => (Heap.get?_update_other _ _ (Ne.symm hb)).trans e) (fun _ _ (z : False) => z.elim) fun e s2 hx2 => ?_
  obtain ⟨h', e1, e2, ⟨oe, he, hce⟩, eb⟩ := hx2
  subst e1 e2
  exact wpAny_bind (wpAny_isInstance (T := "StopIteration") (b := true) ⟨oe, he, hce⟩ isSubtype_stop (wpAny_pure (hQ h' eb)))
end
end Yd
namespace Yd
open PySem PySem.Spec PyProof.Rows L2 L2H HotX
section
variable {X : Cx}
theorem call_min2H (hc : HotC X) : CallR X (.builtin "min") (fun xs H Q => ∃ i j, xs = [.int i, .int j] ∧ Q (.int (if j < i then j else i)) H) := by
  intro pins s σ H xs us Q I r h
  obtain ⟨i, j, rfl, q⟩ := h
  obtain ⟨u, w', rfl, ⟨t, rfl⟩, ⟨t', rfl⟩⟩ := vals2 r
  obtain ⟨x1, hot⟩ := hc.at I
  refine min2_hot hot fun h' tk k => ⟨_, H, I.kept k, ?_, q⟩
  by_cases hj : j < i
  · rw [if_pos hj, if_pos hj]; exact ⟨_, rfl⟩
  · rw [if_neg hj, if_neg hj]; exact ⟨_, rfl⟩
end
section
variable {P : Program} {w : World} {K : PySem.W.Frag} {tg : Expr} {d : Addr} {o : Obj} {es : Array DictEntry} {ep : Nat}
/-- a dict's values, walked while an exception is handled -/
theorem turn_valsH {kvs : List (Key × V)} (it : Addr) (hod : o.data = .dict es ep) : TurnH P w K tg (Itd d o kvs) [it] it (fun i h => h.IsValIter it d i kvs.length ep) where
  mem := by simp
  obj := fun i h st b hb => by
    rw [List.mem_singleton.mp hb]
    obtain ⟨oi, e, c, dd⟩ := st
    exact ⟨oi, e, fun v z => by rw [dd] at z; cases z⟩
  keep := fun i h h' st k => st.at fun oi e => k it (by simp) oi e
  item := by
    intro X hP hw hK hc i pins s σ H E I hf st hg
    subst hP hw hK
    obtain ⟨hd, hi⟩ := hg
    obtain ⟨f0, f1, f2, f3, f4, f5⟩ := hf it (by simp)
    obtain ⟨hs, hgd, hx, es', ep', vs, hdt, hsz, kv, hm⟩ := I.frzK hd
    obtain ⟨rfl, rfl⟩ := dict_ep hod hdt
    obtain ⟨⟨k, v⟩, hkv⟩ : ∃ p, kvs[i]? = some p := ⟨kvs[i], List.getElem?_eq_getElem hi⟩
    obtain ⟨u, hu, ru⟩ := kv_get kv hkv
    have hl : kvs.length = vs.length := Paired.length kv
    rw [hl] at st
    refine wpAny_pyNext_values_item st hm hu fun h' st' sb => ?_
    have J : Inv X pins σ H { s with heap := h' } := I.turned (t' := s.toks) (fun b ob hb e => (sb.2 b hb).trans e) f0 f1 f3 f4 f5
    obtain ⟨oi, e, c, dd⟩ := id st'
    refine ⟨u, rfl, go_of (s := { s with heap := h' }) e c dd (by decide) ⟨v, H, J, ru, ⟨rfl, k, hkv⟩, ?_, fun b hb => (hf b hb).1⟩⟩
    show h'.IsValIter it d (i + 1) kvs.length _
    rw [hl]
    exact st'
  done := by
    intro X hP hw hK hc i pins s σ H E I hf st hg
    subst hP hw hK
    obtain ⟨hd, hi⟩ := hg
    obtain ⟨f0, f1, f2, f3, f4, f5⟩ := hf it (by simp)
    obtain ⟨hs, hgd, hx, es', ep', vs, hdt, hsz, kv, hm⟩ := I.frzK hd
    obtain ⟨rfl, rfl⟩ := dict_ep hod hdt
    have hl : kvs.length = vs.length := Paired.length kv
    rw [hl] at st
    obtain ⟨p, ⟨hh, v1, e1, c1⟩, hp⟩ := hc
    have hot : HotAt X.A p.1 s.heap := ⟨hh, p.2, v1, (I.pin p (List.mem_append_left _ hp)).1, e1, c1⟩
    exact vals_end_hot hot (f5 p (List.mem_append_left _ hp)) st hm (List.getElem?_eq_none (by omega)) fun h' eb => ⟨rfl, I.turned (t' := s.toks) (fun b ob hb e => eb b ob hb e) f0 f1 f3 f4 f5⟩
  self := fun A i s Q E st h => wpAny_pyIter_valiter st h
end
section
variable {X : Cx} {tg e : Expr} {td : TE} {apos cpos : Pos}
theorem pi_valuesH (he : PE X e td) (hbase : attributeBase e "values" X.env (eval e X.env) = eval e X.env := by rfl) (hline : (apos.endLine == cpos.line) = true := by rfl) : PIH X tg (.Call (.Attribute e "values" apos) [] [] cpos) (iVals td) := by
  refine ⟨fun pins s σ H R I h => ?_⟩
  refine wpAny_Call_method (T := "dict") (id := "dict.values") hbase rfl hline F.plainAttrs_dict F.slot_dict_values F.type_dict_values (thn (he.run pins s σ H _ I h) fun u s1 ⟨x, H1, J1, rx, d, o, kvs, ex, hd, q⟩ => ?_)
  subst ex
  obtain rfl : u = Value.ref d := rx
  obtain ⟨hs, hgd, hx, es, ep, vs, hdt, hsz, kv, hm⟩ := J1.frzK hd
  have hl : kvs.length = vs.length := Paired.length kv
  refine ⟨hm.dictOf.typeIs, hm.dictOf.mapOf.noDict, ?_⟩
  have J2 : Inv X pins σ H1 { s1 with heap := s1.heap.push { cls := .type "dict_values", data := .fields #[.ref d] } } := J1.kept (t' := s1.toks) fun b ob q => Heap.get?_push_of_some _ q
  have fin : wpAny (model X.prog X.w) X.A (pyIter (.ref s1.heap.objs.size)) (PIEH X pins σ tg R) X.xe { s1 with heap := s1.heap.push { cls := .type "dict_values", data := .fields #[.ref d] } } := by
    refine wpAny_pyIter_values (d := d) (knd := mixKind X.prog X.w) ⟨_, Heap.get?_push_size _ rfl, rfl, rfl⟩ (hm.push _) ?_
    refine ⟨_, [_], _, Itd d o kvs, H1, rfl, J2.kept (t' := s1.toks) fun b ob e => Heap.get?_push_of_some _ e, turn_valsH _ hdt, ⟨_, Heap.get?_push_size _ rfl, rfl, ?_⟩, fun b hb => ?_, q⟩
    · rw [hl] <;> rfl
    · rw [List.mem_singleton.mp hb]
      exact J2.fpOk (Nat.le_refl _) (J2.hok.fresh (Nat.le_refl _))
  show wpAny _ _ (callWith cpos (.builtin "dict.values") [.ref d] [] []) _ X.xe s1
  exact method_meetsIn F.slot_dict_values F.entry_dict_values rfl (PySem.evalArgs_none ⟨rfl, hm.dictOf.typeIs, F.args_dict_values_1 _, _, meets_dict_values (mixKind X.prog X.w) d hs, ⟨vs, hm.dictOf⟩, fin⟩)
end
/-! ### defs and methods there -/
structure DefH (P : Program) (w : World) (K : PySem.W.Frag) (mg : Str → Option Value) (base : Heap) (k : Nat) (x : Str) (ps : List Str) (sp : Sp) : Prop where
  ex : ∃ fd, FnH P w K mg base (L2.CX P w) k (He.ga K x) fd ps sp ∧ Binds K fd ps []
  g : mg x = some (.ref (He.ga K x))
  kp : PySem.W.keepIn K (.ref (He.ga K x)) = true
structure MethH (P : Program) (w : World) (K : PySem.W.Frag) (mg : Str → Option Value) (base : Heap) (k : Nat) (c m : Str) (ps : List Str) (sp : Sp) : Prop where
  ex : ∃ fd, FnH P w K mg base (L2.CX P w) k (He.ma K (He.ga K c) m) fd ps sp ∧ Binds K fd ps []
  cl : Cls K (He.ga K c)
  mt : Meth K (He.ga K c) m (He.ma K (He.ga K c) m)
theorem hotH {CX : CXT} {P : Program} {w : World} {K : PySem.W.Frag} {mg : Str → Option Value} {base : Heap} {N : List Str} {qual : Str} {scope : Scope} {f : Addr} {cd : Value} {A : Around} {outer : List Env} {s : Shared} {H : Hp} {E : XK} {p : Addr × Obj} (h : Hot1 A p) :
    HotC (cxH CX P w K mg base N qual scope f cd A outer s H E p) := ⟨p, h, List.mem_singleton.mpr rfl⟩
theorem huH {k : Nat} {A : Around} (r : RoomH k A) : A.units + 65 < cLine := by
  have := r.un
  omega
section
variable {P : Program} {w : World} {K : PySem.W.Frag} {mg : Str → Option Value} {base : Heap} {x qual : Str} {params : Arguments} {body : List Stmt} {scope : Scope}
theorem mkDefH {N ps : List Str} {k : Nat} {sp : Sp} (F : ∃ fd, FunD K x qual params body scope [] [] (He.ga K x) fd) (g : mg x = some (.ref (He.ga K x)))
    (b : ∀ (kV doc pm : Value) (an : Option Addr) (cdv ct : Value) (us : List Value), us.length = ps.length → bindArgs (PySem.W.fnOf x qual params body scope .none kV doc pm an cdv ct) ⟨us, []⟩ = pure (ps.zip us))
    (S : FnScope N ps scope) (len : ∀ vs H Q E, sp vs H Q E → vs.length = ps.length)
    (hbody : ∀ (cdv : Value) (A : Around) (outer : List Env) (s : Shared) (H : Hp) (vs : List V) (Q : VK) (E : XK) (p : Addr × Obj), HotC (cxH (L2.CX P w) P w K mg base N qual scope (He.ga K x) cdv A outer s H E p) → RoomH k (A.deeper (envOfC qual scope s.heap.objs.size (He.ga K x) cdv)) → sp vs H Q E →
      ∃ t, PSs (cxH (L2.CX P w) P w K mg base N qual scope (He.ga K x) cdv A outer s H E p) body t ∧ t { nx := fun _ H' => Q .non H', rt := Q } (start N vs) H) : DefH P w K mg base (k + 1) x ps sp := by
  obtain ⟨fd, F⟩ := F
  refine ⟨⟨fd, ?_, F.bindsN b⟩, g, F.kp⟩
  obtain ⟨oc, od, dV, kV, doc, pm, an, cdv, ct, osl, rfl, lk, hcd, _, _⟩ := F.ex
  exact fn_ofH lk hcd S len fun A outer s H vs Q E p hot hr hsp => hbody cdv A outer s H vs Q E p (hotH hot) hr hsp
theorem mkMethH {c m : Str} {N ps : List Str} {k : Nat} {sp : Sp} (F : ∃ fd, FunD K x qual params body scope [] [] (He.ma K (He.ga K c) m) fd) (cl : Cls K (He.ga K c)) (mt : Meth K (He.ga K c) m (He.ma K (He.ga K c) m))
    (b : ∀ (kV doc pm : Value) (an : Option Addr) (cdv ct : Value) (us : List Value), us.length = ps.length → bindArgs (PySem.W.fnOf x qual params body scope .none kV doc pm an cdv ct) ⟨us, []⟩ = pure (ps.zip us))
    (S : FnScope N ps scope) (len : ∀ vs H Q E, sp vs H Q E → vs.length = ps.length)
    (hbody : ∀ (cdv : Value) (A : Around) (outer : List Env) (s : Shared) (H : Hp) (vs : List V) (Q : VK) (E : XK) (p : Addr × Obj), HotC (cxH (L2.CX P w) P w K mg base N qual scope (He.ma K (He.ga K c) m) cdv A outer s H E p) → RoomH k (A.deeper (envOfC qual scope s.heap.objs.size (He.ma K (He.ga K c) m) cdv)) → sp vs H Q E →
      ∃ t, PSs (cxH (L2.CX P w) P w K mg base N qual scope (He.ma K (He.ga K c) m) cdv A outer s H E p) body t ∧ t { nx := fun _ H' => Q .non H', rt := Q } (start N vs) H) : MethH P w K mg base (k + 1) c m ps sp := by
  obtain ⟨fd, F⟩ := F
  refine ⟨⟨fd, ?_, F.bindsN b⟩, cl, mt⟩
  obtain ⟨oc, od, dV, kV, doc, pm, an, cdv, ct, osl, rfl, lk, hcd, _, _⟩ := F.ex
  exact fn_ofH lk hcd S len fun A outer s H vs Q E p hot hr hsp => hbody cdv A outer s H vs Q E p (hotH hot) hr hsp
end
section
variable {X : Cx} {k : Nat} {ps : List Str} {sp : Sp} {x m c : Str} {p pos apos : Pos} {e o : Expr} {es : List Expr} {ta : TE} {t : TA}
theorem pe_dH (hot : HotC X) (D : DefH X.prog X.w X.K X.mg X.base k x ps sp) (hr : RoomH k X.A) (ha : PA X (e :: es) t) (hg : Gl X x := by rfl)
    (hdb : (x == ("__debug__" : Str)) = false := by decide) (he : starEach (e :: es) X.env = (false, eval e X.env) :: starEach es X.env := by rfl) (hpl : (backTo pos (starEach es X.env)).any (·.1) = false := by rfl) :
    PE X (.Call (.Name x p) (e :: es) [] pos) (tCallS sp (fun _ => E0) t) := by
  obtain ⟨fd, F, b⟩ := D.ex
  exact pe_callH F hr hot hg D.g D.kp b passAt0 ha hdb he hpl
theorem pe_mH {pl : Sem Bool} {K : PySem.W.Frag} (hot : HotC X) (he : PE X o ta) (D : MethH X.prog X.w K X.mg X.base k c m ps sp) (hr : RoomH k X.A) (ha : PA X (e :: es) t)
    (hst : starEach (e :: es) X.env = (false, eval e X.env) :: starEach es X.env := by rfl) (hpl : (backTo pos (starEach es X.env)).any (·.1) = false := by rfl)
    (ht : eval (.Call (.Attribute o m apos) (e :: es) [] pos) X.env = (do
      let ov ← eval o X.env
      standAt apos.atName
      let (f, first) ← holding [ov] (getMethod ov m pl)
      callWith pos f first (backTo pos (starEach (e :: es) X.env)) (backToKw pos (keywordEach [] X.env))) := by rfl) (hK : X.K = K := by rfl) :
    PE X (.Call (.Attribute o m apos) (e :: es) [] pos) (tM c m sp K ta t) := by
  subst hK
  obtain ⟨fd, F, b⟩ := D.ex
  exact pe_methH he D.cl D.mt F hr hot b passAt0 ha hst hpl ht
end
end Yd
namespace Yd
open PySem PySem.Spec PyProof.Rows L2 L2H HotX
theorem huH1 {k : Nat} {A : Around} (r : RoomH k A) : A.units + 1 < cLine := by
  have := r.un
  omega
/-- a method that lets out exceptions whose context is None -/
structure MethN (P : Program) (w : World) (K : PySem.W.Frag) (mg : Str → Option Value) (base : Heap) (k : Nat) (c m : Str) (ps : List Str) (sp : Sp) : Prop where
  ex : ∃ fd, FnOk P w K mg base (L2N.CX P w) k (He.ma K (He.ga K c) m) fd ps sp ∧ Binds K fd ps []
  cl : Cls K (He.ga K c)
  mt : Meth K (He.ga K c) m (He.ma K (He.ga K c) m)
section
variable {P : Program} {w : World} {K : PySem.W.Frag} {mg : Str → Option Value} {base : Heap} {x qual : Str} {params : Arguments} {body : List Stmt} {scope : Scope}
theorem mkMethN {c m : Str} {N ps : List Str} {k : Nat} {sp : Sp} (F : ∃ fd, FunD K x qual params body scope [] [] (He.ma K (He.ga K c) m) fd) (cl : Cls K (He.ga K c)) (mt : Meth K (He.ga K c) m (He.ma K (He.ga K c) m))
    (b : ∀ (kV doc pm : Value) (an : Option Addr) (cdv ct : Value) (us : List Value), us.length = ps.length → bindArgs (PySem.W.fnOf x qual params body scope .none kV doc pm an cdv ct) ⟨us, []⟩ = pure (ps.zip us))
    (S : FnScope N ps scope) (len : ∀ vs H Q E, sp vs H Q E → vs.length = ps.length)
    (hbody : ∀ (cdv : Value) (A : Around) (outer : List Env) (s : Shared) (H : Hp) (vs : List V) (Q : VK) (E : XK), Room k (A.deeper (envOfC qual scope s.heap.objs.size (He.ma K (He.ga K c) m) cdv)) → sp vs H Q E →
      ∃ t, PSs (cxOf (L2N.CX P w) P w K mg base N qual scope (He.ma K (He.ga K c) m) cdv A outer s H E) body t ∧ t { nx := fun _ H' => Q .non H', rt := Q } (start N vs) H) : MethN P w K mg base (k + 1) c m ps sp := by
  obtain ⟨fd, F⟩ := F
  exact ⟨⟨fd, mkFn F S len hbody, F.bindsN b⟩, cl, mt⟩
end
section
variable {X : Cx} {k : Nat} {ps : List Str} {sp : Sp} {E : L2.St → XK} {m c : Str} {pos apos : Pos} {e o : Expr} {es : List Expr} {ta : TE} {t : TA}
theorem pe_mN {pl : Sem Bool} {K : PySem.W.Frag} (he : PE X o ta) (D : MethN X.prog X.w K X.mg X.base k c m ps sp) (hr : Room k X.A) (hx : ∀ σ, PassesAt (L2N.CX X.prog X.w) X σ (E σ)) (ha : PA X (e :: es) t)
    (hst : starEach (e :: es) X.env = (false, eval e X.env) :: starEach es X.env := by rfl) (hpl : (backTo pos (starEach es X.env)).any (·.1) = false := by rfl)
    (ht : eval (.Call (.Attribute o m apos) (e :: es) [] pos) X.env = (do
      let ov ← eval o X.env
      standAt apos.atName
      let (f, first) ← holding [ov] (getMethod ov m pl)
      callWith pos f first (backTo pos (starEach (e :: es) X.env)) (backToKw pos (keywordEach [] X.env))) := by rfl) (hK : X.K = K := by rfl) :
    PE X (.Call (.Attribute o m apos) (e :: es) [] pos) (tMt c m sp E K ta t) := by
  subst hK
  obtain ⟨fd, F, b⟩ := D.ex
  refine ⟨fun pins s σ H Q I h => ?_⟩
  refine PySem.W.methodCall_KW (pl := pl) (thn (he.run pins s σ H _ I h) fun u s1 ⟨x, H1, I1, rx, a, dx, fs, ex, ea, l, q⟩ => ?_) ht
  subst ex
  obtain rfl : u = Value.ref a := rx
  refine getmeth_ok I1 ea D.cl D.mt l ?_
  refine PySem.W.callWith_K (first := [.ref a]) (h₀ := X.base) I.ok.mod.kin D.mt.kp (thn (ha.run pos pins s1 σ H1 _ I1 q) fun us s2 ⟨vs, H2, I2, r, q2⟩ => ⟨I2.kIn, ?_⟩) hst hpl
  exact run_fnS (us := .ref a :: us) (vs := .ref a :: vs) F hr b (hx σ) I2 (.cons rfl r) q2
end
section
variable {X : Cx} {x : Str} {c : Value} {body suite : List Stmt} {b₀ : Stmt} {np pos pos' : Pos} {tb : WX → TS} {ts : Addr → Value → Option Addr → TS} {Wout : WX}
/-- a try whose suite may raise, as one word -/
theorem ps_try_onlyXT (hs : X.stack = X.env :: X.outer) (hf : X.env.frame = some X.env.locals) (hc : Names X x c) (hpa : ∀ hd : Option Value, PassesOwnAt (model X.prog X.w) (X.A.mark hd) X.A X.env X.xe) (tk : L2.Takes X Wout)
    (hb : ∀ (W : WX) (pn : List (Addr × Obj)) (xe : Value → Shared → Prop), L2N.Takes (X.tr pn xe) W → PSs (X.tr pn xe) body (tb W))
    (hsu : ∀ (a : Addr) (oe : Obj) (cls : Value) (d : Option Addr) (pn : List (Addr × Obj)), L2.Takes (suiteX X a ((a, oe) :: pn)) Wout → HotC (suiteX X a ((a, oe) :: pn)) → PSs (suiteX X a ((a, oe) :: pn)) (b₀ :: suite) (ts a cls d)) :
    PS X (.Try body [.ExceptHandler (some (.Name x np)) none (b₀ :: suite) pos'] [] [] pos) (tTryO X.K c ts Wout tb) := ps_try_onlyX hs hf hc hpa tk (fun W pn xe t1 _ _ => hb W pn xe t1) (fun a oe cls d pn _ _ t1 hot => hsu a oe cls d pn t1 hot)
end
end Yd

set_option Elab.async false
set_option linter.all false
set_option maxRecDepth 100000
set_option maxHeartbeats 4000000
/-! sorted of triples (int, int, text) whose first numbers differ. -/
namespace Yd
open PySem PySem.Spec PyProof.Rows L2 Srt
section
variable {prog : Program} {w : World} {A : Around} {E : Value → Shared → Prop} {s : Shared}
def IsTri (h : Heap) (v : Value) (x : Int) : Prop := ∃ a o t y u z c n, v = .ref a ∧ h.get? a = some o ∧ o.cls = .type "tuple" ∧ o.data = .seq #[.int x t, .int y u, .str z c] n
theorem IsTri.keeps {h h' : Heap} {v : Value} {x : Int} (p : IsTri h v x) (k : ∀ b o, h.get? b = some o → o.cls = .type "tuple" → h'.get? b = some o) : IsTri h' v x := by
  obtain ⟨a, o, t, y, u, z, c, n, e, ho, hc, hd⟩ := p
  exact ⟨a, o, t, y, u, z, c, n, e, k _ _ ho hc, hc, hd⟩
def ltK (k : Value → Int) (v u : Value) : Bool := decide (k v < k u)
theorem swoK (k : Value → Int) : SrtO.Swo (ltK k) := by
  refine ⟨fun x y h => ?_, fun x y z h1 h2 => ?_⟩
  · have a : k x < k y := of_decide_eq_true h
    exact decide_eq_false (by omega)
  · have a : ¬ k y < k x := of_decide_eq_false h1
    have b : ¬ k z < k y := of_decide_eq_false h2
    exact decide_eq_false (by omega)
theorem tri_cmp {vs : List Value} {k : Value → Int} (hp : ∀ v ∈ vs, IsTri s.heap v (k v)) (hu : ∀ v ∈ vs, ∀ u ∈ vs, k v = k u → v = u) : SrtO.Cmp prog w A s (tuples' true) (fun p => p.1 ∈ vs) (SrtO.lt2 (ltK k)) := by
  intro p q hm hm'
  show wpAny (model prog w) A (keyLt' (tuples' true) p.1 q.1) (fun r s' => s' = s ∧ r = decide (k p.1 < k q.1)) (fun _ _ => False) s
  by_cases heq : k p.1 = k q.1
  · have hpq := hu _ hm _ hm' heq
    obtain ⟨a, o, t, y, u, z, c, n, e, ho, hc, hd⟩ := hp _ hm
    rw [← hpq, e]
    refine PySem.W.kat_lt ho hd ho hd ?_
    show PySem.W.KatLex prog w A true (decide (3 < 3)) _ [(.int (k p.1) t, .int (k p.1) t), (.int y u, .int y u), (.str z c, .str z c)] 0 s
    have fin : decide (k (.ref a) < k (.ref a)) = false := decide_eq_false (Int.lt_irrefl _)
    refine PySem.W.kat_cons (SeqAt.EqAt.same _ prog w _ _ (PySem.W.kat_yes (PySem.W.kat_cons (SeqAt.EqAt.same _ prog w _ _ (PySem.W.kat_yes (PySem.W.kat_cons (SeqAt.EqAt.same _ prog w _ _ (PySem.W.kat_yes (PySem.W.kat_nil ⟨rfl, ?_⟩)))))))))
    rw [fin]
    rfl
  · have h1 := hp _ hm
    have h2 := hp _ hm'
    generalize k p.1 = x at *
    generalize k q.1 = x' at *
    obtain ⟨a, o, t, y, u, z, c, n, e, ho, hc, hd⟩ := h1
    obtain ⟨a', o', t', y', u', z', c', n', e', ho', hc', hd'⟩ := h2
    rw [e, e']
    refine PySem.W.kat_lt ho hd ho' hd' ?_
    show PySem.W.KatLex prog w A true (decide (3 < 3)) _ [(.int x t, .int x' t'), (.int y u, .int y' u'), (.str z c, .str z' c')] 0 s
    refine PySem.W.kat_cons (SeqAt.EqAt.int_int x t x' t' prog w _ _ ?_)
    exact PySem.W.kat_go (fun e1 => absurd (by simpa using e1) heq) (fun e1 => PySem.W.kat_no (oneLt_int ⟨rfl, rfl⟩))
theorem firsts_tri {h : Heap} {k : Value → Int} : ∀ {vs : List Value}, (∀ v ∈ vs, IsTri h v (k v)) → ∃ fs : List Value, PySem.W.KatTups h vs fs ∧ fs.length = vs.length ∧ ∀ f ∈ fs, ∃ x t, f = Value.int x t
  | [], _ => ⟨[], PySem.W.KatTups.nil, rfl, fun _ hm => by cases hm⟩
  | v :: vs, hp => by
    obtain ⟨fs, h1, h2, h3⟩ := firsts_tri (vs := vs) fun v' hm => hp v' (List.mem_cons_of_mem _ hm)
    obtain ⟨a, o, t, y, u, z, c, n, e, ho, hc, hd⟩ := hp v List.mem_cons_self
    subst e
    refine ⟨.int (k (.ref a)) t :: fs, PySem.W.KatTups.cons ho hc hd rfl h1, by rw [List.length_cons, List.length_cons, h2], fun f hm => ?_⟩
    rcases List.mem_cons.mp hm with rfl | hm
    · exact ⟨_, t, rfl⟩
    · exact h3 f hm
theorem sorted_tri {l : Addr} {vs : List Value} {k : Value → Int} {Q : Value → Shared → Prop} (hl : s.heap.IsList l vs.toArray) (hz : vs.length ≤ sizeLine) (hp : ∀ v ∈ vs, IsTri s.heap v (k v)) (hu : ∀ v ∈ vs, ∀ u ∈ vs, k v = k u → v = u)
    (h : ∀ (h' : Heap) (d : Addr) (out : List Value), SrtO.Srtd (ltK k) out → out.Perm vs → (∀ b o, s.heap.get? b = some o → h'.get? b = some o) → s.heap.objs.size ≤ d → (∃ n, h'.get? d = some (seqObj "list" out.toArray n)) → Q (.ref d) { s with heap := h' }) :
    wpAny (model prog w) A (call (.builtin "sorted") [.ref l]) Q E s := by
  refine SrtO.sorted_ord (swoK k) hl hz (fun h2 h₁ a ha kk => ?_) fun out hs hb => h _ _ out hs hb.perm (fun b o e => sortedAll_old e) (Nat.le_succ _) (sortedAll_at s.heap vs out.toArray)
  intro h' keep
  have hp' : ∀ v ∈ vs, IsTri h' v (k v) := fun v hm => (hp v hm).keeps fun b o e _ => keep b o (kk b o e).1 (kk b o e).2
  obtain ⟨fs, f1, f2, f3⟩ := firsts_tri hp'
  refine ⟨tuples' true, fun Q E hq => ?_, tri_cmp hp' hu⟩
  refine PySem.W.kat_kind (T := .type "int") f1 (by omega) (fun f hm => ?_) (by rfl) ?_
  · obtain ⟨x, t, rfl⟩ := f3 f hm
    exact PySem.W.Looks.now
  · rw [show (Value.type "int" != Value.type "tuple") = true by first | decide +kernel | rfl | decide]
    exact hq
end
section
variable {X : Cx}
/-- sorted(xs), xs triples (int, int, text) whose first numbers differ -/
def rSort3 (K : PySem.W.Frag) : List V → Hp → VK → Prop := fun vs H Q => ∃ (a : Addr) (xs : List V) (k : V → Int), vs = [.ref a] ∧ SqL K H a xs ∧ (∀ x ∈ xs, ∃ t j z, x = V.ref t ∧ H t = some (.tup [.int (k x), .int j, .str z])) ∧ (∀ x ∈ xs, ∀ y ∈ xs, k x = k y → x = y) ∧
  ∀ (ys : List V) (p : Addr), ys.Perm xs → (ys.Pairwise fun x y => k x ≤ k y) → H p = none → Q (.ref p) (upd H p (.lst ys))
theorem cr_sort3 : CallR X (.builtin "sorted") (rSort3 X.K) := by
  intro pins s σ H vs us Q I r h
  obtain ⟨a, xs, k, rfl, hs, hx, hu, q⟩ := h
  obtain ⟨its, rv, hl, hz⟩ := I.list hs
  obtain ⟨u, rfl, ru⟩ := vals1 r
  obtain rfl : u = Value.ref a := ru
  obtain ⟨e1, e2⟩ := refs_back rv fun x m => by
    obtain ⟨t, _, _, e, _⟩ := hx x m
    exact ⟨t, e⟩
  have mem : ∀ v ∈ its, backV v ∈ xs := fun v hv => by rw [e1]; exact List.mem_map.mpr ⟨_, hv, rfl⟩
  refine sorted_tri (k := fun u => k (backV u)) hl.isList (by rw [← rv.length]; exact hz) (fun v hv => ?_) (fun v hv u hu' e => ?_) fun h' d out h1 h2 kp hd hn => ?_
  · obtain ⟨t, rfl⟩ := e2 v hv
    obtain ⟨t', j, z, e, ht⟩ := hx _ (mem _ hv)
    cases e
    obtain ⟨_, its2, r2, o, ho, hc, n, hd⟩ := I.hok _ _ ht
    cases r2 with
    | cons ri rr =>
      cases rr with
      | cons rj rr =>
        cases rr with
        | cons rz rr =>
          cases rr
          obtain ⟨t1, rfl⟩ := ri
          obtain ⟨t2, rfl⟩ := rj
          obtain ⟨t3, rfl⟩ := rz
          exact ⟨_, o, t1, _, t2, _, t3, n, rfl, ho, hc, hd⟩
  · have e3 := hu _ (mem _ hv) _ (mem _ hu') e
    obtain ⟨t, rfl⟩ := e2 v hv
    obtain ⟨t', rfl⟩ := e2 u hu'
    cases e3
    rfl
  · have h3 : ∀ u ∈ out, ∃ a, u = Value.ref a := fun u hu => e2 u (h2.mem_iff.mp hu)
    obtain ⟨n, hn⟩ := hn
    have hb : (out.map backV).Perm xs := by
      rw [e1]
      exact h2.map _
    refine ⟨.ref d, upd H d (.lst (out.map backV)), I.laid (t' := s.toks) kp hd ⟨?_, out, n, vals_back h3, hn⟩, rfl, q _ d hb ?_ (I.hok.fresh hd)⟩
    · rw [hb.length_eq]
      exact hz
    · exact List.pairwise_map.mpr (h1.imp fun {x y} h => Int.not_lt.mp (of_decide_eq_false (p := k (backV y) < k (backV x)) h))
end
end Yd

set_option Elab.async false
set_option linter.all false
set_option maxRecDepth 100000
set_option maxHeartbeats 4000000
/-! isinstance of an own instance; what turns make of a tree and its pieces. -/
namespace Yd
open PySem PySem.Spec L2
open Bud (Pc T Can frees outs pw)
/-- what isinstance asks of an own class, but for Cls -/
structure InsR (K : PySem.W.Frag) (C : Addr) : Prop where
  ha : PySem.W.findIn K (.ref C) "__class__" = some (some (.builtin "object.__class__"))
  hn : PySem.W.specialIn K (.builtin "object.__class__") "__get__" = some (some (.builtin "getset_descriptor.__get__"))
  htk : PySem.W.takesIn K (.builtin "object.__class__") = some true
  hm : PySem.W.mroIn K C (.type "object") = some true
  me : PySem.W.kitOne K (.ref C) (.ref C) = some true
def insB (K : PySem.W.Frag) (C : Addr) : Bool :=
  He.eqO (PySem.W.findIn K (.ref C) "__class__") (some (some (.builtin "object.__class__"))) &&
  (He.eqO (PySem.W.specialIn K (.builtin "object.__class__") "__get__") (some (some (.builtin "getset_descriptor.__get__"))) &&
  (decide (PySem.W.takesIn K (.builtin "object.__class__") = some true) &&
  (decide (PySem.W.mroIn K C (.type "object") = some true) &&
  decide (PySem.W.kitOne K (.ref C) (.ref C) = some true))))
theorem insB_ok {K : PySem.W.Frag} {C : Addr} (h : insB K C = true) : InsR K C := by
  unfold insB at h
  simp only [Bool.and_eq_true] at h
  obtain ⟨h5, h6, h7, h8, h9⟩ := h
  exact ⟨He.eqO_ok h5, He.eqO_ok h6, of_decide_eq_true h7, of_decide_eq_true h8, of_decide_eq_true h9⟩
/-- a yard is a Yard -/
theorem ty_yard {K : PySem.W.Frag} {H : Hp} {x dx : Addr} {fs : List (Str × V)} (c : Cls K (He.ga K "Yard")) (i : InsR K (He.ga K "Yard")) (h : H x = some (.ins (He.ga K "Yard") dx fs)) : TyX K H (.ref x) (.ref (He.ga K "Yard")) := .base (.ins h c i.ha i.hn i.htk i.hm)
open Classical in
/-- the tree of these pieces -/
noncomputable def treeOf (k : Nat) (D : List Pc) : T k := if h : ∃ t : T k, Can t ∧ D.Perm (outs t 0) then choose h else .free
theorem treeOf_eq {k : Nat} {t : T k} {D : List Pc} (hc : Can t) (h : D.Perm (outs t 0)) : treeOf k D = t := by
  have hx : ∃ t : T k, Can t ∧ D.Perm (outs t 0) := ⟨t, hc, h⟩
  unfold treeOf
  rw [dif_pos hx]
  obtain ⟨h1, h2⟩ := Classical.choose_spec hx
  exact Bud.tree_uniq h1 hc (h2.symm.trans h)
end Yd

set_option Elab.async false
set_option linter.all false
set_option maxRecDepth 100000
set_option maxHeartbeats 4000000
/-! min and max of whole numbers with default=1. -/
namespace Yd
open PySem PySem.Spec L2
theorem foldl_min_mem : ∀ (ns : List Int) (n : Int), ns.foldl min n ∈ n :: ns ∧ ∀ z ∈ n :: ns, ns.foldl min n ≤ z
  | [], n => ⟨List.mem_cons_self, fun z hz => by rw [List.mem_singleton.mp hz]; exact Int.le_refl _⟩
  | m :: ns, n => by
    obtain ⟨h1, h2⟩ := foldl_min_mem ns (min n m)
    rw [List.foldl_cons]
    have h0 := h2 _ List.mem_cons_self
    refine ⟨?_, fun z hz => ?_⟩
    · rcases List.mem_cons.mp h1 with e | h
      · rw [e]
        by_cases c : n ≤ m
        · rw [Int.min_eq_left c]; exact List.mem_cons_self
        · rw [Int.min_eq_right (by omega)]; exact List.mem_cons_of_mem _ List.mem_cons_self
      · exact List.mem_cons_of_mem _ (List.mem_cons_of_mem _ h)
    · rcases List.mem_cons.mp hz with rfl | hz
      · omega
      · rcases List.mem_cons.mp hz with rfl | hz
        · omega
        · exact h2 z (List.mem_cons_of_mem _ hz)
theorem foldl_max_mem : ∀ (ns : List Int) (n : Int), ns.foldl max n ∈ n :: ns ∧ ∀ z ∈ n :: ns, z ≤ ns.foldl max n
  | [], n => ⟨List.mem_cons_self, fun z hz => by rw [List.mem_singleton.mp hz]; exact Int.le_refl _⟩
  | m :: ns, n => by
    obtain ⟨h1, h2⟩ := foldl_max_mem ns (max n m)
    rw [List.foldl_cons]
    have h0 := h2 _ List.mem_cons_self
    refine ⟨?_, fun z hz => ?_⟩
    · rcases List.mem_cons.mp h1 with e | h
      · rw [e]
        by_cases c : m ≤ n
        · rw [Int.max_eq_left c]; exact List.mem_cons_self
        · rw [Int.max_eq_right (by omega)]; exact List.mem_cons_of_mem _ List.mem_cons_self
      · exact List.mem_cons_of_mem _ (List.mem_cons_of_mem _ h)
    · rcases List.mem_cons.mp hz with rfl | hz
      · omega
      · rcases List.mem_cons.mp hz with rfl | hz
        · omega
        · exact h2 z (List.mem_cons_of_mem _ hz)
theorem alike_ints (ns : List Int) : PySem.W.AlikeAll (ns.map PyData.int) := by
  refine ⟨fun x hx y hy => ?_, fun x hx => ?_⟩
  · obtain ⟨i, _, rfl⟩ := List.mem_map.mp hx
    obtain ⟨j, _, rfl⟩ := List.mem_map.mp hy
    rfl
  · obtain ⟨i, _, rfl⟩ := List.mem_map.mp hx
    intro h
    cases h
theorem reads_zs (h : Heap) : ∀ {vs : List Value} {xs : List Int}, PyProof.Rows.IntsAre vs xs → ReadsAll h vs (xs.map PyData.int) []
  | _, _, .nil => .nil
  | _, _, .cons n t r => .cons (.int n t) (reads_zs h r)
theorem depth_zs : ∀ ns : List Int, PyData.depthAll (ns.map PyData.int) ≤ 0
  | [] => by simp [PyData.depthAll]
  | n :: ns => by
    have := depth_zs ns
    simp only [List.map_cons, PyData.depthAll, PyData.depth]
    omega
/-- min(xs, default=d) -/
def rMinD (K : PySem.W.Frag) : List V → List V → Hp → VK → Prop := fun vs zs H Q => ∃ (a : Addr) (ns : List Int) (d : Int), vs = [V.ref a] ∧ zs = [.int d] ∧ SqL K H a (ns.map V.int) ∧ (ns = [] → Q (.int d) H) ∧ (∀ m, m ∈ ns → (∀ z ∈ ns, m ≤ z) → Q (.int m) H)
def rMaxD (K : PySem.W.Frag) : List V → List V → Hp → VK → Prop := fun vs zs H Q => ∃ (a : Addr) (ns : List Int) (d : Int), vs = [V.ref a] ∧ zs = [.int d] ∧ SqL K H a (ns.map V.int) ∧ (ns = [] → Q (.int d) H) ∧ (∀ m, m ∈ ns → (∀ z ∈ ns, z ≤ m) → Q (.int m) H)
theorem cr_minD {X : Cx} (hc : X.calm = true) (hu : X.A.units + 64 < cLine) : CallRK X (.builtin "min") [Str.ofString "default"] (rMinD X.K) := by
  intro pins s σ H vs zs us ws Q I r rz h
  obtain ⟨a, ns, d, rfl, rfl, hs, q0, q⟩ := h
  obtain ⟨its, rv, hl, _⟩ := I.list hs
  rw [Vals.ref1 r]
  obtain ⟨w1, rfl, t, rfl⟩ := vals1 rz
  have hd := depth_zs ns
  refine PySem.W.min_list_default (I.ok.hd hc) hl.isList (xs := ns.map PyData.int) (reads_zs _ rv.ints) (alike_ints ns) (by omega) (fun e h' tk hk => ?_) (fun y ys i v h' tk bs e hi hr hk => ?_)
  · exact ⟨.int _, H, I.kept hk, ⟨_, rfl⟩, q0 (List.map_eq_nil_iff.mp e)⟩
  · cases ns with
    | nil => cases e
    | cons n ns =>
      rw [List.map_cons] at e
      injection e with e1 e2
      subst e1 e2
      rw [PySem.W.minD_ints] at hr
      cases hr
      obtain ⟨h1, h2⟩ := foldl_min_mem ns n
      exact ⟨.int _, H, I.kept hk, ⟨_, rfl⟩, q _ h1 h2⟩
theorem cr_maxD {X : Cx} (hc : X.calm = true) (hu : X.A.units + 64 < cLine) : CallRK X (.builtin "max") [Str.ofString "default"] (rMaxD X.K) := by
  intro pins s σ H vs zs us ws Q I r rz h
  obtain ⟨a, ns, d, rfl, rfl, hs, q0, q⟩ := h
  obtain ⟨its, rv, hl, _⟩ := I.list hs
  rw [Vals.ref1 r]
  obtain ⟨w1, rfl, t, rfl⟩ := vals1 rz
  have hd := depth_zs ns
  refine PySem.W.max_list_default (I.ok.hd hc) hl.isList (xs := ns.map PyData.int) (reads_zs _ rv.ints) (alike_ints ns) (by omega) (fun e h' tk hk => ?_) (fun y ys i v h' tk bs e hi hr hk => ?_)
  · exact ⟨.int _, H, I.kept hk, ⟨_, rfl⟩, q0 (List.map_eq_nil_iff.mp e)⟩
  · cases ns with
    | nil => cases e
    | cons n ns =>
      rw [List.map_cons] at e
      injection e with e1 e2
      subst e1 e2
      rw [PySem.W.maxD_ints] at hr
      cases hr
      obtain ⟨h1, h2⟩ := foldl_max_mem ns n
      exact ⟨.int _, H, I.kept hk, ⟨_, rfl⟩, q _ h1 h2⟩
end Yd
namespace Yd
open PySem L2
open PyProof.Rows (envOfC)
/-! ### the text by places -/
def top (i : Nat) : Stmt := PySem.Challenge.pw_buddyyard_k11_whole_many_at_once.main.body.getD i (.Pass ⟨0, 0, 0, 0⟩)
abbrev s_is_size : Stmt := top 8
theorem sc_is_size : FnScope ["number", "size"] ["number"] (defScope s_is_size) := ⟨rfl, rfl, rfl, by decide +kernel, rfl, by decide +kernel, by decide +kernel⟩
theorem bd_is_size : ∀ (kV doc pm : Value) (an : Option Addr) (cdv ct : Value) (us : List Value), us.length = 1 → bindArgs (PySem.W.fnOf "is_size" "is_size" (defArgs s_is_size) (defBody s_is_size) (defScope s_is_size) .none kV doc pm an cdv ct) ⟨us, []⟩ = pure ((["number"] : List Str).zip us) := fun _ _ _ _ _ _ us hl => match us, hl with | [_], _ => rfl
abbrev s_size_for : Stmt := top 9
theorem sc_size_for : FnScope ["want", "size"] ["want"] (defScope s_size_for) := ⟨rfl, rfl, rfl, by decide +kernel, rfl, by decide +kernel, by decide +kernel⟩
theorem bd_size_for : ∀ (kV doc pm : Value) (an : Option Addr) (cdv ct : Value) (us : List Value), us.length = 1 → bindArgs (PySem.W.fnOf "size_for" "size_for" (defArgs s_size_for) (defBody s_size_for) (defScope s_size_for) .none kV doc pm an cdv ct) ⟨us, []⟩ = pure ((["want"] : List Str).zip us) := fun _ _ _ _ _ _ us hl => match us, hl with | [_], _ => rfl
abbrev s_twin_of : Stmt := top 10
theorem sc_twin_of : FnScope ["at", "size"] ["at", "size"] (defScope s_twin_of) := ⟨rfl, rfl, rfl, by decide +kernel, rfl, by decide +kernel, by decide +kernel⟩
theorem bd_twin_of : ∀ (kV doc pm : Value) (an : Option Addr) (cdv ct : Value) (us : List Value), us.length = 2 → bindArgs (PySem.W.fnOf "twin_of" "twin_of" (defArgs s_twin_of) (defBody s_twin_of) (defScope s_twin_of) .none kV doc pm an cdv ct) ⟨us, []⟩ = pure ((["at", "size"] : List Str).zip us) := fun _ _ _ _ _ _ us hl => match us, hl with | [_, _], _ => rfl
abbrev s_by_size : Stmt := top 12
theorem sc_by_size : FnScope ["wants", "order", "place", "pair"] ["wants"] (defScope s_by_size) := ⟨rfl, rfl, rfl, by decide +kernel, rfl, by decide +kernel, by decide +kernel⟩
theorem bd_by_size : ∀ (kV doc pm : Value) (an : Option Addr) (cdv ct : Value) (us : List Value), us.length = 1 → bindArgs (PySem.W.fnOf "by_size" "by_size" (defArgs s_by_size) (defBody s_by_size) (defScope s_by_size) .none kV doc pm an cdv ct) ⟨us, []⟩ = pure ((["wants"] : List Str).zip us) := fun _ _ _ _ _ _ us hl => match us, hl with | [_], _ => rfl
abbrev s_give_all : Stmt := top 13
theorem sc_give_all : FnScope ["yard", "wants", "want", "found", "place", "at"] ["yard", "wants"] (defScope s_give_all) := ⟨rfl, rfl, rfl, by decide +kernel, rfl, by decide +kernel, by decide +kernel⟩
theorem bd_give_all : ∀ (kV doc pm : Value) (an : Option Addr) (cdv ct : Value) (us : List Value), us.length = 2 → bindArgs (PySem.W.fnOf "give_all" "give_all" (defArgs s_give_all) (defBody s_give_all) (defScope s_give_all) .none kV doc pm an cdv ct) ⟨us, []⟩ = pure ((["yard", "wants"] : List Str).zip us) := fun _ _ _ _ _ _ us hl => match us, hl with | [_, _], _ => rfl
abbrev s_best_of : Stmt := top 15
theorem sc_best_of : FnScope ["spare", "want", "found", "piece"] ["spare", "want"] (defScope s_best_of) := ⟨rfl, rfl, rfl, by decide +kernel, rfl, by decide +kernel, by decide +kernel⟩
theorem bd_best_of : ∀ (kV doc pm : Value) (an : Option Addr) (cdv ct : Value) (us : List Value), us.length = 2 → bindArgs (PySem.W.fnOf "best_of" "best_of" (defArgs s_best_of) (defBody s_best_of) (defScope s_best_of) .none kV doc pm an cdv ct) ⟨us, []⟩ = pure ((["spare", "want"] : List Str).zip us) := fun _ _ _ _ _ _ us hl => match us, hl with | [_, _], _ => rfl
abbrev s_without : Stmt := top 16
theorem sc_without : FnScope ["spare", "piece", "one"] ["spare", "piece"] (defScope s_without) := ⟨rfl, rfl, rfl, by decide +kernel, rfl, by decide +kernel, by decide +kernel⟩
theorem bd_without : ∀ (kV doc pm : Value) (an : Option Addr) (cdv ct : Value) (us : List Value), us.length = 2 → bindArgs (PySem.W.fnOf "without" "without" (defArgs s_without) (defBody s_without) (defScope s_without) .none kV doc pm an cdv ct) ⟨us, []⟩ = pure ((["spare", "piece"] : List Str).zip us) := fun _ _ _ _ _ _ us hl => match us, hl with | [_, _], _ => rfl
abbrev s_cut_down : Stmt := top 17
theorem sc_cut_down : FnScope ["spare", "at", "size", "want", "left"] ["spare", "at", "size", "want"] (defScope s_cut_down) := ⟨rfl, rfl, rfl, by decide +kernel, rfl, by decide +kernel, by decide +kernel⟩
theorem bd_cut_down : ∀ (kV doc pm : Value) (an : Option Addr) (cdv ct : Value) (us : List Value), us.length = 4 → bindArgs (PySem.W.fnOf "cut_down" "cut_down" (defArgs s_cut_down) (defBody s_cut_down) (defScope s_cut_down) .none kV doc pm an cdv ct) ⟨us, []⟩ = pure ((["spare", "at", "size", "want"] : List Str).zip us) := fun _ _ _ _ _ _ us hl => match us, hl with | [_, _, _, _], _ => rfl
abbrev s_put_back : Stmt := top 18
theorem sc_put_back : FnScope ["spare", "at", "size", "left", "other"] ["spare", "at", "size"] (defScope s_put_back) := ⟨rfl, rfl, rfl, by decide +kernel, rfl, by decide +kernel, by decide +kernel⟩
theorem bd_put_back : ∀ (kV doc pm : Value) (an : Option Addr) (cdv ct : Value) (us : List Value), us.length = 3 → bindArgs (PySem.W.fnOf "put_back" "put_back" (defArgs s_put_back) (defBody s_put_back) (defScope s_put_back) .none kV doc pm an cdv ct) ⟨us, []⟩ = pure ((["spare", "at", "size"] : List Str).zip us) := fun _ _ _ _ _ _ us hl => match us, hl with | [_, _, _], _ => rfl
abbrev s_grown : Stmt := top 19
theorem sc_grown : FnScope ["spare", "at", "size", "due", "left", "other"] ["spare", "at", "size", "due"] (defScope s_grown) := ⟨rfl, rfl, rfl, by decide +kernel, rfl, by decide +kernel, by decide +kernel⟩
theorem bd_grown : ∀ (kV doc pm : Value) (an : Option Addr) (cdv ct : Value) (us : List Value), us.length = 4 → bindArgs (PySem.W.fnOf "grown" "grown" (defArgs s_grown) (defBody s_grown) (defScope s_grown) .none kV doc pm an cdv ct) ⟨us, []⟩ = pure ((["spare", "at", "size", "due"] : List Str).zip us) := fun _ _ _ _ _ _ us hl => match us, hl with | [_, _, _, _], _ => rfl
abbrev s_Yard_init : Stmt := inClass (top 21) 0
theorem sc_Yard_init : FnScope ["self", "cells"] ["self", "cells"] (defScope s_Yard_init) := ⟨rfl, rfl, rfl, by decide +kernel, rfl, by decide +kernel, by decide +kernel⟩
theorem bd_Yard_init : ∀ (kV doc pm : Value) (an : Option Addr) (cdv ct : Value) (us : List Value), us.length = 2 → bindArgs (PySem.W.fnOf "__init__" "Yard.__init__" (defArgs s_Yard_init) (defBody s_Yard_init) (defScope s_Yard_init) .none kV doc pm an cdv ct) ⟨us, []⟩ = pure ((["self", "cells"] : List Str).zip us) := fun _ _ _ _ _ _ us hl => match us, hl with | [_, _], _ => rfl
abbrev s_Yard_free : Stmt := inClass (top 21) 1
theorem sc_Yard_free : FnScope ["self"] ["self"] (defScope s_Yard_free) := ⟨rfl, rfl, rfl, by decide +kernel, rfl, by decide +kernel, by decide +kernel⟩
theorem bd_Yard_free : ∀ (kV doc pm : Value) (an : Option Addr) (cdv ct : Value) (us : List Value), us.length = 1 → bindArgs (PySem.W.fnOf "free" "Yard.free" (defArgs s_Yard_free) (defBody s_Yard_free) (defScope s_Yard_free) .none kV doc pm an cdv ct) ⟨us, []⟩ = pure ((["self"] : List Str).zip us) := fun _ _ _ _ _ _ us hl => match us, hl with | [_], _ => rfl
abbrev s_Yard_out : Stmt := inClass (top 21) 2
theorem sc_Yard_out : FnScope ["self", "at"] ["self"] (defScope s_Yard_out) := ⟨rfl, rfl, rfl, by decide +kernel, rfl, by decide +kernel, by decide +kernel⟩
theorem bd_Yard_out : ∀ (kV doc pm : Value) (an : Option Addr) (cdv ct : Value) (us : List Value), us.length = 1 → bindArgs (PySem.W.fnOf "out" "Yard.out" (defArgs s_Yard_out) (defBody s_Yard_out) (defScope s_Yard_out) .none kV doc pm an cdv ct) ⟨us, []⟩ = pure ((["self"] : List Str).zip us) := fun _ _ _ _ _ _ us hl => match us, hl with | [_], _ => rfl
abbrev s_Yard_owner : Stmt := inClass (top 21) 3
theorem sc_Yard_owner : FnScope ["self", "cell", "piece"] ["self", "cell"] (defScope s_Yard_owner) := ⟨rfl, rfl, rfl, by decide +kernel, rfl, by decide +kernel, by decide +kernel⟩
theorem bd_Yard_owner : ∀ (kV doc pm : Value) (an : Option Addr) (cdv ct : Value) (us : List Value), us.length = 2 → bindArgs (PySem.W.fnOf "owner" "Yard.owner" (defArgs s_Yard_owner) (defBody s_Yard_owner) (defScope s_Yard_owner) .none kV doc pm an cdv ct) ⟨us, []⟩ = pure ((["self", "cell"] : List Str).zip us) := fun _ _ _ _ _ _ us hl => match us, hl with | [_, _], _ => rfl
abbrev s_Yard_give : Stmt := inClass (top 21) 4
theorem sc_Yard_give : FnScope ["self", "want", "piece", "at", "left"] ["self", "want"] (defScope s_Yard_give) := ⟨rfl, rfl, rfl, by decide +kernel, rfl, by decide +kernel, by decide +kernel⟩
theorem bd_Yard_give : ∀ (kV doc pm : Value) (an : Option Addr) (cdv ct : Value) (us : List Value), us.length = 2 → bindArgs (PySem.W.fnOf "give" "Yard.give" (defArgs s_Yard_give) (defBody s_Yard_give) (defScope s_Yard_give) .none kV doc pm an cdv ct) ⟨us, []⟩ = pure ((["self", "want"] : List Str).zip us) := fun _ _ _ _ _ _ us hl => match us, hl with | [_, _], _ => rfl
abbrev s_Yard_take_back : Stmt := inClass (top 21) 5
theorem sc_Yard_take_back : FnScope ["self", "at", "size"] ["self", "at"] (defScope s_Yard_take_back) := ⟨rfl, rfl, rfl, by decide +kernel, rfl, by decide +kernel, by decide +kernel⟩
theorem bd_Yard_take_back : ∀ (kV doc pm : Value) (an : Option Addr) (cdv ct : Value) (us : List Value), us.length = 2 → bindArgs (PySem.W.fnOf "take_back" "Yard.take_back" (defArgs s_Yard_take_back) (defBody s_Yard_take_back) (defScope s_Yard_take_back) .none kV doc pm an cdv ct) ⟨us, []⟩ = pure ((["self", "at"] : List Str).zip us) := fun _ _ _ _ _ _ us hl => match us, hl with | [_, _], _ => rfl
abbrev s_Yard_resize : Stmt := inClass (top 21) 6
theorem sc_Yard_resize : FnScope ["self", "at", "want", "due", "size", "left"] ["self", "at", "want"] (defScope s_Yard_resize) := ⟨rfl, rfl, rfl, by decide +kernel, rfl, by decide +kernel, by decide +kernel⟩
theorem bd_Yard_resize : ∀ (kV doc pm : Value) (an : Option Addr) (cdv ct : Value) (us : List Value), us.length = 3 → bindArgs (PySem.W.fnOf "resize" "Yard.resize" (defArgs s_Yard_resize) (defBody s_Yard_resize) (defScope s_Yard_resize) .none kV doc pm an cdv ct) ⟨us, []⟩ = pure ((["self", "at", "want"] : List Str).zip us) := fun _ _ _ _ _ _ us hl => match us, hl with | [_, _, _], _ => rfl
abbrev s__law_whole : Stmt := top 23
theorem sc__law_whole : FnScope ["_law_found"] ["_law_found"] (defScope s__law_whole) := ⟨rfl, rfl, rfl, by decide +kernel, rfl, by decide +kernel, by decide +kernel⟩
theorem bd__law_whole : ∀ (kV doc pm : Value) (an : Option Addr) (cdv ct : Value) (us : List Value), us.length = 1 → bindArgs (PySem.W.fnOf "_law_whole" "_law_whole" (defArgs s__law_whole) (defBody s__law_whole) (defScope s__law_whole) .none kV doc pm an cdv ct) ⟨us, []⟩ = pure ((["_law_found"] : List Str).zip us) := fun _ _ _ _ _ _ us hl => match us, hl with | [_], _ => rfl
abbrev s__law_cell_at : Stmt := top 24
theorem sc__law_cell_at : FnScope ["_law_script", "_law_k"] ["_law_script", "_law_k"] (defScope s__law_cell_at) := ⟨rfl, rfl, rfl, by decide +kernel, rfl, by decide +kernel, by decide +kernel⟩
theorem bd__law_cell_at : ∀ (kV doc pm : Value) (an : Option Addr) (cdv ct : Value) (us : List Value), us.length = 2 → bindArgs (PySem.W.fnOf "_law_cell_at" "_law_cell_at" (defArgs s__law_cell_at) (defBody s__law_cell_at) (defScope s__law_cell_at) .none kV doc pm an cdv ct) ⟨us, []⟩ = pure ((["_law_script", "_law_k"] : List Str).zip us) := fun _ _ _ _ _ _ us hl => match us, hl with | [_, _], _ => rfl
abbrev s__law_doubled : Stmt := top 25
theorem sc__law_doubled : FnScope ["_law_times", "_law_size", "_law_k"] ["_law_times"] (defScope s__law_doubled) := ⟨rfl, rfl, rfl, by decide +kernel, rfl, by decide +kernel, by decide +kernel⟩
theorem bd__law_doubled : ∀ (kV doc pm : Value) (an : Option Addr) (cdv ct : Value) (us : List Value), us.length = 1 → bindArgs (PySem.W.fnOf "_law_doubled" "_law_doubled" (defArgs s__law_doubled) (defBody s__law_doubled) (defScope s__law_doubled) .none kV doc pm an cdv ct) ⟨us, []⟩ = pure ((["_law_times"] : List Str).zip us) := fun _ _ _ _ _ _ us hl => match us, hl with | [_], _ => rfl
abbrev s__law_fitting : Stmt := top 26
theorem sc__law_fitting : FnScope ["_law_want_here", "_law_size"] ["_law_want_here"] (defScope s__law_fitting) := ⟨rfl, rfl, rfl, by decide +kernel, rfl, by decide +kernel, by decide +kernel⟩
theorem bd__law_fitting : ∀ (kV doc pm : Value) (an : Option Addr) (cdv ct : Value) (us : List Value), us.length = 1 → bindArgs (PySem.W.fnOf "_law_fitting" "_law_fitting" (defArgs s__law_fitting) (defBody s__law_fitting) (defScope s__law_fitting) .none kV doc pm an cdv ct) ⟨us, []⟩ = pure ((["_law_want_here"] : List Str).zip us) := fun _ _ _ _ _ _ us hl => match us, hl with | [_], _ => rfl
abbrev s__law_yard_size : Stmt := top 27
theorem sc__law_yard_size : FnScope ["_law_script", "_law_way", "_law_cell"] ["_law_script"] (defScope s__law_yard_size) := ⟨rfl, rfl, rfl, by decide +kernel, rfl, by decide +kernel, by decide +kernel⟩
theorem bd__law_yard_size : ∀ (kV doc pm : Value) (an : Option Addr) (cdv ct : Value) (us : List Value), us.length = 1 → bindArgs (PySem.W.fnOf "_law_yard_size" "_law_yard_size" (defArgs s__law_yard_size) (defBody s__law_yard_size) (defScope s__law_yard_size) .none kV doc pm an cdv ct) ⟨us, []⟩ = pure ((["_law_script"] : List Str).zip us) := fun _ _ _ _ _ _ us hl => match us, hl with | [_], _ => rfl
abbrev s__law_want : Stmt := top 28
theorem sc__law_want : FnScope ["_law_cell", "_law_cells", "_law_way", "_law_rest"] ["_law_cell", "_law_cells"] (defScope s__law_want) := ⟨rfl, rfl, rfl, by decide +kernel, rfl, by decide +kernel, by decide +kernel⟩
theorem bd__law_want : ∀ (kV doc pm : Value) (an : Option Addr) (cdv ct : Value) (us : List Value), us.length = 2 → bindArgs (PySem.W.fnOf "_law_want" "_law_want" (defArgs s__law_want) (defBody s__law_want) (defScope s__law_want) .none kV doc pm an cdv ct) ⟨us, []⟩ = pure ((["_law_cell", "_law_cells"] : List Str).zip us) := fun _ _ _ _ _ _ us hl => match us, hl with | [_, _], _ => rfl
abbrev s__law_done : Stmt := top 29
theorem sc__law_done : FnScope ["_law_yard", "_law_held", "_law_cell", "_law_cells", "_law_rest", "_law_want_here", "_law_at", "_law_piece", "_law_left", "_law_size", "_law_one"] ["_law_yard", "_law_held", "_law_cell", "_law_cells"] (defScope s__law_done) := ⟨rfl, rfl, rfl, by decide +kernel, rfl, by decide +kernel, by decide +kernel⟩
theorem bd__law_done : ∀ (kV doc pm : Value) (an : Option Addr) (cdv ct : Value) (us : List Value), us.length = 4 → bindArgs (PySem.W.fnOf "_law_done" "_law_done" (defArgs s__law_done) (defBody s__law_done) (defScope s__law_done) .none kV doc pm an cdv ct) ⟨us, []⟩ = pure ((["_law_yard", "_law_held", "_law_cell", "_law_cells"] : List Str).zip us) := fun _ _ _ _ _ _ us hl => match us, hl with | [_, _, _, _], _ => rfl
abbrev s__law_touched : Stmt := top 30
theorem sc__law_touched : FnScope ["_law_held", "_law_size", "_law_covered", "_law_piece"] ["_law_held", "_law_size"] (defScope s__law_touched) := ⟨rfl, rfl, rfl, by decide +kernel, rfl, by decide +kernel, by decide +kernel⟩
theorem bd__law_touched : ∀ (kV doc pm : Value) (an : Option Addr) (cdv ct : Value) (us : List Value), us.length = 2 → bindArgs (PySem.W.fnOf "_law_touched" "_law_touched" (defArgs s__law_touched) (defBody s__law_touched) (defScope s__law_touched) .none kV doc pm an cdv ct) ⟨us, []⟩ = pure ((["_law_held", "_law_size"] : List Str).zip us) := fun _ _ _ _ _ _ us hl => match us, hl with | [_, _], _ => rfl
abbrev s__law_due : Stmt := top 31
theorem sc__law_due : FnScope ["_law_held", "_law_wants", "_law_cells", "_law_fitting_here", "_law_size", "_law_needed", "_law_want_here", "_law_part"] ["_law_held", "_law_wants", "_law_cells"] (defScope s__law_due) := ⟨rfl, rfl, rfl, by decide +kernel, rfl, by decide +kernel, by decide +kernel⟩
theorem bd__law_due : ∀ (kV doc pm : Value) (an : Option Addr) (cdv ct : Value) (us : List Value), us.length = 3 → bindArgs (PySem.W.fnOf "_law_due" "_law_due" (defArgs s__law_due) (defBody s__law_due) (defScope s__law_due) .none kV doc pm an cdv ct) ⟨us, []⟩ = pure ((["_law_held", "_law_wants", "_law_cells"] : List Str).zip us) := fun _ _ _ _ _ _ us hl => match us, hl with | [_, _, _], _ => rfl
abbrev s__law_told : Stmt := top 32
theorem sc__law_told : FnScope ["_law_yard", "_law_wants", "_law_places"] ["_law_yard", "_law_wants"] (defScope s__law_told) := ⟨rfl, rfl, rfl, by decide +kernel, rfl, by decide +kernel, by decide +kernel⟩
theorem bd__law_told : ∀ (kV doc pm : Value) (an : Option Addr) (cdv ct : Value) (us : List Value), us.length = 2 → bindArgs (PySem.W.fnOf "_law_told" "_law_told" (defArgs s__law_told) (defBody s__law_told) (defScope s__law_told) .none kV doc pm an cdv ct) ⟨us, []⟩ = pure ((["_law_yard", "_law_wants"] : List Str).zip us) := fun _ _ _ _ _ _ us hl => match us, hl with | [_, _], _ => rfl
abbrev s__law_halves : Stmt := top 33
theorem sc__law_halves : FnScope ["_law_cells", "_law_row", "_law_wants", "_law_cell", "_law_place", "_law_half", "_law_at"] ["_law_cells", "_law_row"] (defScope s__law_halves) := ⟨rfl, rfl, rfl, by decide +kernel, rfl, by decide +kernel, by decide +kernel⟩
theorem bd__law_halves : ∀ (kV doc pm : Value) (an : Option Addr) (cdv ct : Value) (us : List Value), us.length = 2 → bindArgs (PySem.W.fnOf "_law_halves" "_law_halves" (defArgs s__law_halves) (defBody s__law_halves) (defScope s__law_halves) .none kV doc pm an cdv ct) ⟨us, []⟩ = pure ((["_law_cells", "_law_row"] : List Str).zip us) := fun _ _ _ _ _ _ us hl => match us, hl with | [_, _], _ => rfl
abbrev s__law_wishes : Stmt := top 34
theorem sc__law_wishes : FnScope ["_law_script", "_law_held", "_law_cells", "_law_draw", "_law_behind_here", "_law_wants", "_law_k", "_law_cell", "_law_want_here"] ["_law_script", "_law_held", "_law_cells"] (defScope s__law_wishes) := ⟨rfl, rfl, rfl, by decide +kernel, rfl, by decide +kernel, by decide +kernel⟩
theorem bd__law_wishes : ∀ (kV doc pm : Value) (an : Option Addr) (cdv ct : Value) (us : List Value), us.length = 3 → bindArgs (PySem.W.fnOf "_law_wishes" "_law_wishes" (defArgs s__law_wishes) (defBody s__law_wishes) (defScope s__law_wishes) .none kV doc pm an cdv ct) ⟨us, []⟩ = pure ((["_law_script", "_law_held", "_law_cells"] : List Str).zip us) := fun _ _ _ _ _ _ us hl => match us, hl with | [_, _, _], _ => rfl
abbrev s__law_in_turn : Stmt := top 35
theorem sc__law_in_turn : FnScope ["_law_wants", "_law_order", "_law_places", "_law_behind_here", "_law_pair", "_law_k", "_law_want_here"] ["_law_wants"] (defScope s__law_in_turn) := ⟨rfl, rfl, rfl, by decide +kernel, rfl, by decide +kernel, by decide +kernel⟩
theorem bd__law_in_turn : ∀ (kV doc pm : Value) (an : Option Addr) (cdv ct : Value) (us : List Value), us.length = 1 → bindArgs (PySem.W.fnOf "_law_in_turn" "_law_in_turn" (defArgs s__law_in_turn) (defBody s__law_in_turn) (defScope s__law_in_turn) .none kV doc pm an cdv ct) ⟨us, []⟩ = pure ((["_law_wants"] : List Str).zip us) := fun _ _ _ _ _ _ us hl => match us, hl with | [_], _ => rfl
abbrev s__law_owner : Stmt := top 36
theorem sc__law_owner : FnScope ["_law_held", "_law_cell", "_law_piece"] ["_law_held", "_law_cell"] (defScope s__law_owner) := ⟨rfl, rfl, rfl, by decide +kernel, rfl, by decide +kernel, by decide +kernel⟩
theorem bd__law_owner : ∀ (kV doc pm : Value) (an : Option Addr) (cdv ct : Value) (us : List Value), us.length = 2 → bindArgs (PySem.W.fnOf "_law_owner" "_law_owner" (defArgs s__law_owner) (defBody s__law_owner) (defScope s__law_owner) .none kV doc pm an cdv ct) ⟨us, []⟩ = pure ((["_law_held", "_law_cell"] : List Str).zip us) := fun _ _ _ _ _ _ us hl => match us, hl with | [_, _], _ => rfl
abbrev s__law_owners : Stmt := top 37
theorem sc__law_owners : FnScope ["_law_yard", "_law_held", "_law_cells", "_law_wants", "_law_cell"] ["_law_yard", "_law_held", "_law_cells", "_law_wants"] (defScope s__law_owners) := ⟨rfl, rfl, rfl, by decide +kernel, rfl, by decide +kernel, by decide +kernel⟩
theorem bd__law_owners : ∀ (kV doc pm : Value) (an : Option Addr) (cdv ct : Value) (us : List Value), us.length = 4 → bindArgs (PySem.W.fnOf "_law_owners" "_law_owners" (defArgs s__law_owners) (defBody s__law_owners) (defScope s__law_owners) .none kV doc pm an cdv ct) ⟨us, []⟩ = pure ((["_law_yard", "_law_held", "_law_cells", "_law_wants"] : List Str).zip us) := fun _ _ _ _ _ _ us hl => match us, hl with | [_, _, _, _], _ => rfl
abbrev s__law_behind : Stmt := top 38
theorem sc__law_behind : FnScope ["_law_yard", "_law_places", "_law_held", "_law_kept", "_law_piece", "_law_one"] ["_law_yard", "_law_places", "_law_held"] (defScope s__law_behind) := ⟨rfl, rfl, rfl, by decide +kernel, rfl, by decide +kernel, by decide +kernel⟩
theorem bd__law_behind : ∀ (kV doc pm : Value) (an : Option Addr) (cdv ct : Value) (us : List Value), us.length = 3 → bindArgs (PySem.W.fnOf "_law_behind" "_law_behind" (defArgs s__law_behind) (defBody s__law_behind) (defScope s__law_behind) .none kV doc pm an cdv ct) ⟨us, []⟩ = pure ((["_law_yard", "_law_places", "_law_held"] : List Str).zip us) := fun _ _ _ _ _ _ us hl => match us, hl with | [_, _, _], _ => rfl
abbrev s_law : Stmt := top 39
theorem sc_law : FnScope ["_law_script", "_law_cells", "_law_yard", "_law_held", "_law_cell", "_law_wants", "_law_due_here", "_law_before", "_law_handed", "_law_told_here", "_law_k", "_law_more", "_law_copies"] ["_law_script"] (defScope s_law) := ⟨rfl, rfl, rfl, by decide +kernel, rfl, by decide +kernel, by decide +kernel⟩
theorem bd_law : ∀ (kV doc pm : Value) (an : Option Addr) (cdv ct : Value) (us : List Value), us.length = 1 → bindArgs (PySem.W.fnOf "law" "law" (defArgs s_law) (defBody s_law) (defScope s_law) .none kV doc pm an cdv ct) ⟨us, []⟩ = pure ((["_law_script"] : List Str).zip us) := fun _ _ _ _ _ _ us hl => match us, hl with | [_], _ => rfl
/-! ### what the top has written -/
structure Txt (K : PySem.W.Frag) (mg : Str → Option Value) : Prop where
  n_ValueError : mg "ValueError" = none
  n_bool : mg "bool" = none
  n_int : mg "int" = none
  n_isinstance : mg "isinstance" = none
  n_len : mg "len" = none
  n_list : mg "list" = none
  n_max : mg "max" = none
  n_min : mg "min" = none
  n_range : mg "range" = none
  n_set : mg "set" = none
  n_sorted : mg "sorted" = none
  n_sum : mg "sum" = none
  g_is_size : mg "is_size" = some (.ref (He.ga K "is_size"))
  g_size_for : mg "size_for" = some (.ref (He.ga K "size_for"))
  g_twin_of : mg "twin_of" = some (.ref (He.ga K "twin_of"))
  g_best_of : mg "best_of" = some (.ref (He.ga K "best_of"))
  g_without : mg "without" = some (.ref (He.ga K "without"))
  g_cut_down : mg "cut_down" = some (.ref (He.ga K "cut_down"))
  g_put_back : mg "put_back" = some (.ref (He.ga K "put_back"))
  g_grown : mg "grown" = some (.ref (He.ga K "grown"))
  m_Yard_free : Meth K (He.ga K "Yard") "free" (He.ma K (He.ga K "Yard") "free")
  m_Yard_out : Meth K (He.ga K "Yard") "out" (He.ma K (He.ga K "Yard") "out")
  m_Yard_owner : Meth K (He.ga K "Yard") "owner" (He.ma K (He.ga K "Yard") "owner")
  m_Yard_give : Meth K (He.ga K "Yard") "give" (He.ma K (He.ga K "Yard") "give")
  m_Yard_take_back : Meth K (He.ga K "Yard") "take_back" (He.ma K (He.ga K "Yard") "take_back")
  m_Yard_resize : Meth K (He.ga K "Yard") "resize" (He.ma K (He.ga K "Yard") "resize")
  g_by_size : mg "by_size" = some (.ref (He.ga K "by_size"))
  g_give_all : mg "give_all" = some (.ref (He.ga K "give_all"))
  g__law_whole : mg "_law_whole" = some (.ref (He.ga K "_law_whole"))
  g__law_cell_at : mg "_law_cell_at" = some (.ref (He.ga K "_law_cell_at"))
  g__law_doubled : mg "_law_doubled" = some (.ref (He.ga K "_law_doubled"))
  g__law_fitting : mg "_law_fitting" = some (.ref (He.ga K "_law_fitting"))
  g__law_yard_size : mg "_law_yard_size" = some (.ref (He.ga K "_law_yard_size"))
  g__law_want : mg "_law_want" = some (.ref (He.ga K "_law_want"))
  g__law_done : mg "_law_done" = some (.ref (He.ga K "_law_done"))
  g__law_touched : mg "_law_touched" = some (.ref (He.ga K "_law_touched"))
  g__law_due : mg "_law_due" = some (.ref (He.ga K "_law_due"))
  g__law_told : mg "_law_told" = some (.ref (He.ga K "_law_told"))
  g__law_halves : mg "_law_halves" = some (.ref (He.ga K "_law_halves"))
  g__law_wishes : mg "_law_wishes" = some (.ref (He.ga K "_law_wishes"))
  g__law_in_turn : mg "_law_in_turn" = some (.ref (He.ga K "_law_in_turn"))
  g__law_owner : mg "_law_owner" = some (.ref (He.ga K "_law_owner"))
  g__law_owners : mg "_law_owners" = some (.ref (He.ga K "_law_owners"))
  g__law_behind : mg "_law_behind" = some (.ref (He.ga K "_law_behind"))
  g_law : mg "law" = some (.ref (He.ga K "law"))
  g_YardError : mg "YardError" = some (.ref (He.ga K "YardError"))
  g_NoYard : mg "NoYard" = some (.ref (He.ga K "NoYard"))
  g_NoWish : mg "NoWish" = some (.ref (He.ga K "NoWish"))
  g_NoRoom : mg "NoRoom" = some (.ref (He.ga K "NoRoom"))
  g_NotOut : mg "NotOut" = some (.ref (He.ga K "NotOut"))
  g_Yard : mg "Yard" = some (.ref (He.ga K "Yard"))
  cl : Cls K (He.ga K "Yard")
  a_cells : NoAttr K (He.ga K "Yard") "cells"
  a_spare : NoAttr K (He.ga K "Yard") "spare"
  a_given : NoAttr K (He.ga K "Yard") "given"
  mkr : Mk K (He.ga K "Yard") (He.ma K (He.ga K "Yard") "__init__")
  x_YardError : PySem.W.excIn K (He.ga K "YardError") He.veBase "ValueError.__new__" = true ∧ PySem.W.keepIn K (.ref (He.ga K "YardError")) = true ∧ PySem.W.subIn K (.ref (He.ga K "YardError")) (.type "BaseException") = some true ∧ PySem.W.typeIn K (.ref (He.ga K "YardError")) = some (.type "type")
  x_NoYard : PySem.W.excIn K (He.ga K "NoYard") He.veBase "ValueError.__new__" = true ∧ PySem.W.keepIn K (.ref (He.ga K "NoYard")) = true ∧ PySem.W.subIn K (.ref (He.ga K "NoYard")) (.type "BaseException") = some true ∧ PySem.W.typeIn K (.ref (He.ga K "NoYard")) = some (.type "type")
  x_NoWish : PySem.W.excIn K (He.ga K "NoWish") He.veBase "ValueError.__new__" = true ∧ PySem.W.keepIn K (.ref (He.ga K "NoWish")) = true ∧ PySem.W.subIn K (.ref (He.ga K "NoWish")) (.type "BaseException") = some true ∧ PySem.W.typeIn K (.ref (He.ga K "NoWish")) = some (.type "type")
  x_NoRoom : PySem.W.excIn K (He.ga K "NoRoom") He.veBase "ValueError.__new__" = true ∧ PySem.W.keepIn K (.ref (He.ga K "NoRoom")) = true ∧ PySem.W.subIn K (.ref (He.ga K "NoRoom")) (.type "BaseException") = some true ∧ PySem.W.typeIn K (.ref (He.ga K "NoRoom")) = some (.type "type")
  x_NotOut : PySem.W.excIn K (He.ga K "NotOut") He.veBase "ValueError.__new__" = true ∧ PySem.W.keepIn K (.ref (He.ga K "NotOut")) = true ∧ PySem.W.subIn K (.ref (He.ga K "NotOut")) (.type "BaseException") = some true ∧ PySem.W.typeIn K (.ref (He.ga K "NotOut")) = some (.type "type")
  e_NoYard_NoRoom : PySem.W.exmOne K (.ref (He.ga K "NoYard")) (.ref (He.ga K "NoRoom")) = some false
  e_NoWish_NoRoom : PySem.W.exmOne K (.ref (He.ga K "NoWish")) (.ref (He.ga K "NoRoom")) = some false
  e_NoRoom_NoRoom : PySem.W.exmOne K (.ref (He.ga K "NoRoom")) (.ref (He.ga K "NoRoom")) = some true
  e_NotOut_NoRoom : PySem.W.exmOne K (.ref (He.ga K "NotOut")) (.ref (He.ga K "NoRoom")) = some false
  e_NoYard_NoWish : PySem.W.exmOne K (.ref (He.ga K "NoYard")) (.ref (He.ga K "NoWish")) = some false
  e_NoWish_NoWish : PySem.W.exmOne K (.ref (He.ga K "NoWish")) (.ref (He.ga K "NoWish")) = some true
  e_NoRoom_NoWish : PySem.W.exmOne K (.ref (He.ga K "NoRoom")) (.ref (He.ga K "NoWish")) = some false
  e_NotOut_NoWish : PySem.W.exmOne K (.ref (He.ga K "NotOut")) (.ref (He.ga K "NoWish")) = some false
  e_NoYard_YardError : PySem.W.exmOne K (.ref (He.ga K "NoYard")) (.ref (He.ga K "YardError")) = some true
  e_NoWish_YardError : PySem.W.exmOne K (.ref (He.ga K "NoWish")) (.ref (He.ga K "YardError")) = some true
  e_NoRoom_YardError : PySem.W.exmOne K (.ref (He.ga K "NoRoom")) (.ref (He.ga K "YardError")) = some true
  e_NotOut_YardError : PySem.W.exmOne K (.ref (He.ga K "NotOut")) (.ref (He.ga K "YardError")) = some true
  c_MOST : ∃ t, mg "MOST" = some (.int 1152921504606846976 t)
  F_is_size : ∃ fd, FunD K "is_size" "is_size" (defArgs s_is_size) (defBody s_is_size) (defScope s_is_size) [] [] (He.ga K "is_size") fd
  F_size_for : ∃ fd, FunD K "size_for" "size_for" (defArgs s_size_for) (defBody s_size_for) (defScope s_size_for) [] [] (He.ga K "size_for") fd
  F_twin_of : ∃ fd, FunD K "twin_of" "twin_of" (defArgs s_twin_of) (defBody s_twin_of) (defScope s_twin_of) [] [] (He.ga K "twin_of") fd
  F_best_of : ∃ fd, FunD K "best_of" "best_of" (defArgs s_best_of) (defBody s_best_of) (defScope s_best_of) [] [] (He.ga K "best_of") fd
  F_without : ∃ fd, FunD K "without" "without" (defArgs s_without) (defBody s_without) (defScope s_without) [] [] (He.ga K "without") fd
  F_cut_down : ∃ fd, FunD K "cut_down" "cut_down" (defArgs s_cut_down) (defBody s_cut_down) (defScope s_cut_down) [] [] (He.ga K "cut_down") fd
  F_put_back : ∃ fd, FunD K "put_back" "put_back" (defArgs s_put_back) (defBody s_put_back) (defScope s_put_back) [] [] (He.ga K "put_back") fd
  F_grown : ∃ fd, FunD K "grown" "grown" (defArgs s_grown) (defBody s_grown) (defScope s_grown) [] [] (He.ga K "grown") fd
  F_Yard_init : ∃ fd, FunD K "__init__" "Yard.__init__" (defArgs s_Yard_init) (defBody s_Yard_init) (defScope s_Yard_init) [] [] (He.ma K (He.ga K "Yard") "__init__") fd
  F_Yard_free : ∃ fd, FunD K "free" "Yard.free" (defArgs s_Yard_free) (defBody s_Yard_free) (defScope s_Yard_free) [] [] (He.ma K (He.ga K "Yard") "free") fd
  F_Yard_out : ∃ fd, FunD K "out" "Yard.out" (defArgs s_Yard_out) (defBody s_Yard_out) (defScope s_Yard_out) [] [] (He.ma K (He.ga K "Yard") "out") fd
  F_Yard_owner : ∃ fd, FunD K "owner" "Yard.owner" (defArgs s_Yard_owner) (defBody s_Yard_owner) (defScope s_Yard_owner) [] [] (He.ma K (He.ga K "Yard") "owner") fd
  F_Yard_give : ∃ fd, FunD K "give" "Yard.give" (defArgs s_Yard_give) (defBody s_Yard_give) (defScope s_Yard_give) [] [] (He.ma K (He.ga K "Yard") "give") fd
  F_Yard_take_back : ∃ fd, FunD K "take_back" "Yard.take_back" (defArgs s_Yard_take_back) (defBody s_Yard_take_back) (defScope s_Yard_take_back) [] [] (He.ma K (He.ga K "Yard") "take_back") fd
  F_Yard_resize : ∃ fd, FunD K "resize" "Yard.resize" (defArgs s_Yard_resize) (defBody s_Yard_resize) (defScope s_Yard_resize) [] [] (He.ma K (He.ga K "Yard") "resize") fd
  F_by_size : ∃ fd, FunD K "by_size" "by_size" (defArgs s_by_size) (defBody s_by_size) (defScope s_by_size) [] [] (He.ga K "by_size") fd
  F_give_all : ∃ fd, FunD K "give_all" "give_all" (defArgs s_give_all) (defBody s_give_all) (defScope s_give_all) [] [] (He.ga K "give_all") fd
  F__law_whole : ∃ fd, FunD K "_law_whole" "_law_whole" (defArgs s__law_whole) (defBody s__law_whole) (defScope s__law_whole) [] [] (He.ga K "_law_whole") fd
  F__law_cell_at : ∃ fd, FunD K "_law_cell_at" "_law_cell_at" (defArgs s__law_cell_at) (defBody s__law_cell_at) (defScope s__law_cell_at) [] [] (He.ga K "_law_cell_at") fd
  F__law_doubled : ∃ fd, FunD K "_law_doubled" "_law_doubled" (defArgs s__law_doubled) (defBody s__law_doubled) (defScope s__law_doubled) [] [] (He.ga K "_law_doubled") fd
  F__law_fitting : ∃ fd, FunD K "_law_fitting" "_law_fitting" (defArgs s__law_fitting) (defBody s__law_fitting) (defScope s__law_fitting) [] [] (He.ga K "_law_fitting") fd
  F__law_yard_size : ∃ fd, FunD K "_law_yard_size" "_law_yard_size" (defArgs s__law_yard_size) (defBody s__law_yard_size) (defScope s__law_yard_size) [] [] (He.ga K "_law_yard_size") fd
  F__law_want : ∃ fd, FunD K "_law_want" "_law_want" (defArgs s__law_want) (defBody s__law_want) (defScope s__law_want) [] [] (He.ga K "_law_want") fd
  F__law_done : ∃ fd, FunD K "_law_done" "_law_done" (defArgs s__law_done) (defBody s__law_done) (defScope s__law_done) [] [] (He.ga K "_law_done") fd
  F__law_touched : ∃ fd, FunD K "_law_touched" "_law_touched" (defArgs s__law_touched) (defBody s__law_touched) (defScope s__law_touched) [] [] (He.ga K "_law_touched") fd
  F__law_due : ∃ fd, FunD K "_law_due" "_law_due" (defArgs s__law_due) (defBody s__law_due) (defScope s__law_due) [] [] (He.ga K "_law_due") fd
  F__law_told : ∃ fd, FunD K "_law_told" "_law_told" (defArgs s__law_told) (defBody s__law_told) (defScope s__law_told) [] [] (He.ga K "_law_told") fd
  F__law_halves : ∃ fd, FunD K "_law_halves" "_law_halves" (defArgs s__law_halves) (defBody s__law_halves) (defScope s__law_halves) [] [] (He.ga K "_law_halves") fd
  F__law_wishes : ∃ fd, FunD K "_law_wishes" "_law_wishes" (defArgs s__law_wishes) (defBody s__law_wishes) (defScope s__law_wishes) [] [] (He.ga K "_law_wishes") fd
  F__law_in_turn : ∃ fd, FunD K "_law_in_turn" "_law_in_turn" (defArgs s__law_in_turn) (defBody s__law_in_turn) (defScope s__law_in_turn) [] [] (He.ga K "_law_in_turn") fd
  F__law_owner : ∃ fd, FunD K "_law_owner" "_law_owner" (defArgs s__law_owner) (defBody s__law_owner) (defScope s__law_owner) [] [] (He.ga K "_law_owner") fd
  F__law_owners : ∃ fd, FunD K "_law_owners" "_law_owners" (defArgs s__law_owners) (defBody s__law_owners) (defScope s__law_owners) [] [] (He.ga K "_law_owners") fd
  F__law_behind : ∃ fd, FunD K "_law_behind" "_law_behind" (defArgs s__law_behind) (defBody s__law_behind) (defScope s__law_behind) [] [] (He.ga K "_law_behind") fd
  F_law : ∃ fd, FunD K "law" "law" (defArgs s_law) (defBody s_law) (defScope s_law) [] [] (He.ga K "law") fd
section
variable {P : Program} {w : World} {K : PySem.W.Frag} {mg : Str → Option Value} {base : Heap}
def spLaw (K : PySem.W.Frag) : Sp := fun vs H Q _ => ∃ (a : Addr) (ns : List Int), vs = [.ref a] ∧ SqL K H a (ns.map V.int) ∧ ns.length ≤ 63 ∧ ∀ H', Q (.bl true) H'
abbrev lawLevel : Nat := 8
/-! #### is_size -/
/-- is_size(number) -/
def spIsSize : Sp := fun vs H Q _ => ∃ n : Int, vs = [.int n] ∧ Q (.bl (isSz n)) H
theorem ok_is_size (T : Txt K mg) : DefOk P w K mg base 1 "is_size" ["number"] spIsSize := by
  refine mkDef T.F_is_size T.g_is_size bd_is_size sc_is_size (fun vs H Q E h => ?_) (fun cdv A outer s H vs Q E hr h => ?_)
  · obtain ⟨n, rfl, _⟩ := h
    rfl
  · obtain ⟨n, rfl, k⟩ := h
    obtain ⟨t, hM⟩ := T.c_MOST
    refine ⟨_, pss_cons (ps_if (PW.pt (pw_or (pt_cmpR op_lt (pv 0) pe_int (nomark _)) (pw_or1 (pt_cmpR op_gt (pv 0) (pe_glob (v := .int 1152921504606846976) rfl hM ⟨_, rfl⟩) (nomark _))))) (pss_one (ps_ret pe_bl)) pss_nil)
      (pss_cons (ps_set (i := 1) sc_is_size.nd rfl (Or.inl rfl) pe_int)
      (pss_cons (ps_while (passes_of rfl) (pt_cmpR op_lt (pv 1) (pv 0) (nomark _)) (pss_one (ps_set (i := 1) sc_is_size.nd rfl (Or.inl rfl) (pe_op op_mul (pv 1) pe_int))))
      (pss_one (ps_ret (pe_cmpR op_eq (pv 1) (pv 0) (nomark _)))))), ?_⟩
    refine ⟨_, rfl, _, _, rfl, rfl, _, rfl, ?_⟩
    refine ite2 (fun c => ?_) (fun c => ?_)
    · have c' : n < 1 := by simpa using c
      rw [isSz_low c'] at k
      exact iteT k
    · have c1 : ¬ n < 1 := by simpa using c
      refine ⟨_, rfl, _, _, rfl, rfl, _, rfl, ?_⟩
      refine ite2 (fun c => ?_) (fun c => ?_)
      · have c' : 1152921504606846976 < n := by simpa using c
        rw [isSz_high c'] at k
        exact k
      · have c2 : ¬ 1152921504606846976 < n := by simpa using c
        refine while_n (Bud.fe n) (fun i σ H' => H' = H ∧ σ = [some (.int n), some (.int (Bud.pw i))]) ⟨rfl, rfl⟩ ?_
        rintro i σ H' hi ⟨rfl, rfl⟩
        refine ⟨_, rfl, _, rfl, _, _, rfl, rfl, _, rfl, ?_⟩
        refine ite2 (fun c => ?_) (fun c => ?_)
        · have c' : Bud.pw i < n := by simpa using c
          have hlt : i < Bud.fe n := by
            rcases Nat.lt_or_ge i (Bud.fe n) with q | q
            · exact q
            · have := Bud.pw_le q
              have := Bud.fit_ge n
              unfold Bud.fit at this
              omega
          refine ⟨_, wh_step hlt, ?_⟩
          refine ⟨_, rfl, _, _, rfl, rfl, .inr ⟨by decide, by decide⟩, rfl, ?_⟩
          rw [Bud.pw_succ, Int.mul_comm 2]
          rfl
        · have c' : ¬ Bud.pw i < n := by simpa using c
          have e : i = Bud.fe n := by
            have := Bud.fe_le (w := n) (n := i) (by omega)
            omega
          subst e
          refine ⟨_, rfl, _, rfl, rfl, ?_⟩
          have ed : decide (V.int (Bud.pw (Bud.fe n)) = V.int n) = isSz n := by
            rw [← isSz_fit (by omega) (by omega)]
            exact decide_eq_decide.mpr ⟨fun q => V.int.inj q, fun q => congrArg V.int q⟩
          show Q (V.bl (decide (V.int (Bud.pw (Bud.fe n)) = V.int n))) _
          rw [ed]
          exact k
/-! #### size_for -/
/-- size_for(want) -/
def spSizeFor (K : PySem.W.Frag) : Sp := fun vs H Q E => ∃ n : Int, vs = [.int n] ∧ (1 ≤ n ∧ n ≤ 1152921504606846976 → Q (.int (Bud.fit n)) H) ∧ (¬ (1 ≤ n ∧ n ≤ 1152921504606846976) → E (.ref (He.ga K "NoWish")) none H)
theorem ok_size_for (T : Txt K mg) : DefOk P w K mg base 1 "size_for" ["want"] (spSizeFor K) := by
  refine mkDef T.F_size_for T.g_size_for bd_size_for sc_size_for (fun vs H Q E h => ?_) (fun cdv A outer s H vs Q E hr h => ?_)
  · obtain ⟨n, rfl, _⟩ := h
    rfl
  · obtain ⟨n, rfl, k1, k2⟩ := h
    obtain ⟨t, hM⟩ := T.c_MOST
    refine ⟨_, pss_cons (ps_if (PW.pt (pw_or (pt_cmpR op_lt (pv 0) pe_int (nomark _)) (pw_or1 (pt_cmpR op_gt (pv 0) (pe_glob (v := .int 1152921504606846976) rfl hM ⟨_, rfl⟩) (nomark _)))))
        (pss_one (ps_raise rfl (takes_of rfl rfl rfl rfl) (pmk_own PySem.F.excBase_ValueError T.x_NoWish.1 T.g_NoWish T.x_NoWish.2.1 (raises_own T.x_NoWish.2.2.1 T.x_NoWish.2.2.2) rfl))) pss_nil)
      (pss_cons (ps_set (i := 1) sc_size_for.nd rfl (Or.inl rfl) pe_int)
      (pss_cons (ps_while (passes_of rfl) (pt_cmpR op_lt (pv 1) (pv 0) (nomark _)) (pss_one (ps_set (i := 1) sc_size_for.nd rfl (Or.inl rfl) (pe_op op_mul (pv 1) pe_int))))
      (pss_one (ps_ret (pv 1))))), ?_⟩
    refine ⟨_, rfl, _, _, rfl, rfl, _, rfl, ?_⟩
    refine ite2 (fun c => ?_) (fun c => ?_)
    · have c' : n < 1 := by simpa using c
      exact iteT (k2 (by omega))
    · have c1 : ¬ n < 1 := by simpa using c
      refine ⟨_, rfl, _, _, rfl, rfl, _, rfl, ?_⟩
      refine ite2 (fun c => ?_) (fun c => ?_)
      · have c' : 1152921504606846976 < n := by simpa using c
        exact k2 (by omega)
      · have c2 : ¬ 1152921504606846976 < n := by simpa using c
        refine while_n (Bud.fe n) (fun i σ H' => H' = H ∧ σ = [some (.int n), some (.int (Bud.pw i))]) ⟨rfl, rfl⟩ ?_
        rintro i σ H' hi ⟨rfl, rfl⟩
        refine ⟨_, rfl, _, rfl, _, _, rfl, rfl, _, rfl, ?_⟩
        refine ite2 (fun c => ?_) (fun c => ?_)
        · have c' : Bud.pw i < n := by simpa using c
          have hlt : i < Bud.fe n := by
            rcases Nat.lt_or_ge i (Bud.fe n) with q | q
            · exact q
            · have := Bud.pw_le q
              have := Bud.fit_ge n
              unfold Bud.fit at this
              omega
          refine ⟨_, wh_step hlt, ?_⟩
          refine ⟨_, rfl, _, _, rfl, rfl, .inr ⟨by decide, by decide⟩, rfl, ?_⟩
          rw [Bud.pw_succ, Int.mul_comm 2]
          rfl
        · have c' : ¬ Bud.pw i < n := by simpa using c
          have e : i = Bud.fe n := by
            have := Bud.fe_le (w := n) (n := i) (by omega)
            omega
          subst e
          exact ⟨_, rfl, k1 (by omega)⟩
/-! #### twin_of -/
/-- twin_of(at, size) -/
def spTwin : Sp := fun vs H Q _ => ∃ a s : Int, vs = [.int a, .int s] ∧ 0 < s ∧ s ≤ Bud.pw 61 ∧ Q (.int (Bud.twin a s)) H
theorem ok_twin_of (T : Txt K mg) : DefOk P w K mg base 1 "twin_of" ["at", "size"] spTwin := by
  refine mkDef T.F_twin_of T.g_twin_of bd_twin_of sc_twin_of (fun vs H Q E h => ?_) (fun cdv A outer s H vs Q E hr h => ?_)
  · obtain ⟨a, s, rfl, _⟩ := h
    rfl
  · obtain ⟨a, s, rfl, h0, h1, k⟩ := h
    refine ⟨_, pss_cons (ps_if (pt_cmpR op_eq (pe_op op_mod (pe_op op_fdivW (pv 0) (pv 1)) pe_int) pe_int (nomark _)) (pss_one (ps_ret (pe_op op_add (pv 0) (pv 1)))) pss_nil)
      (pss_one (ps_ret (pe_op op_sub (pv 0) (pv 1)))), ?_⟩
    have hs : s.natAbs < 2 ^ 62 := by
      have e : Bud.pw 61 = 2305843009213693952 := by decide +kernel
      rw [e] at h1
      omega
    refine ⟨_, rfl, _, rfl, _, _, rfl, rfl, wide_div h0 hs (by decide) (by decide), _, _, rfl, rfl, (by show (0 : Int) < 2; decide), rfl, _, rfl, ?_⟩
    unfold Bud.twin at k
    refine ite2 (fun c => ?_) (fun c => ?_)
    · have c' : a / s % 2 = 0 := by simpa using c
      rw [if_pos c'] at k
      exact ⟨_, rfl, _, rfl, _, _, rfl, rfl, k⟩
    · have c' : ¬ a / s % 2 = 0 := by simpa using c
      rw [if_neg c'] at k
      exact ⟨_, rfl, _, rfl, _, _, rfl, rfl, k⟩
theorem okH_twin_of (T : Txt K mg) : DefH P w K mg base 1 "twin_of" ["at", "size"] spTwin := by
  refine mkDefH T.F_twin_of T.g_twin_of bd_twin_of sc_twin_of (fun vs H Q E h => ?_) (fun cdv A outer s H vs Q E pp hot hr h => ?_)
  · obtain ⟨a, s, rfl, _⟩ := h
    rfl
  · obtain ⟨a, s, rfl, h0, h1, k⟩ := h
    refine ⟨_, pss_cons (ps_if (pt_cmpR op_eq (pe_op op_mod (pe_op op_fdivW (pv 0) (pv 1)) pe_int) pe_int (nomark _)) (pss_one (ps_ret (pe_op op_add (pv 0) (pv 1)))) pss_nil)
      (pss_one (ps_ret (pe_op op_sub (pv 0) (pv 1)))), ?_⟩
    have hs : s.natAbs < 2 ^ 62 := by
      have e : Bud.pw 61 = 2305843009213693952 := by decide +kernel
      rw [e] at h1
      omega
    refine ⟨_, rfl, _, rfl, _, _, rfl, rfl, wide_div h0 hs (by decide) (by decide), _, _, rfl, rfl, (by show (0 : Int) < 2; decide), rfl, _, rfl, ?_⟩
    unfold Bud.twin at k
    refine ite2 (fun c => ?_) (fun c => ?_)
    · have c' : a / s % 2 = 0 := by simpa using c
      rw [if_pos c'] at k
      exact ⟨_, rfl, _, rfl, _, _, rfl, rfl, k⟩
    · have c' : ¬ a / s % 2 = 0 := by simpa using c
      rw [if_neg c'] at k
      exact ⟨_, rfl, _, rfl, _, _, rfl, rfl, k⟩
/-! #### best_of -/
/-- the smallest that is large enough -/
def spBest (K : PySem.W.Frag) : Sp := fun vs H Q _ => ∃ (l : Addr) (xs : List V) (L : List Bud.Pc) (w : Int), vs = [.ref l, .int w] ∧ SqL K H l xs ∧ Prs H xs L ∧
  (∀ x p, Bud.bestOf L w = some p → IsPr H x p → Q x H) ∧ (Bud.bestOf L w = none → Q .non H)
/-- what a slot holds that may be a pair -/
def OptPr (H : Hp) (v : V) : Option Bud.Pc → Prop
  | none => v = .non
  | some p => IsPr H v p
theorem fold_take {L : List Bud.Pc} {i : Nat} {p : Bud.Pc} {w : Int} (h : L[i]? = some p) : (L.take (i + 1)).foldl (Bud.better w) none = Bud.better w ((L.take i).foldl (Bud.better w) none) p := by
  rw [List.take_add_one, h, List.foldl_append]
  rfl
theorem ok_best_of (T : Txt K mg) : DefOk P w K mg base 1 "best_of" ["spare", "want"] (spBest K) := by
  refine mkDef T.F_best_of T.g_best_of bd_best_of sc_best_of (fun vs H Q E h => ?_) (fun cdv A outer s H vs Q E hr h => ?_)
  · obtain ⟨l, xs, L, w, rfl, _⟩ := h
    rfl
  · obtain ⟨l, xs, L, w, rfl, hl, hp, k1, k2⟩ := h
    have nd := sc_best_of.nd
    refine ⟨_, pss_cons (ps_set (i := 2) nd rfl (Or.inl rfl) pe_non)
      (pss_cons (ps_for (passes_of rfl) rfl (pi_list (pv 0)) (pg_name (i := 3) nd rfl (Or.inl rfl))
        (pss_one (ps_if (PW.pt (pw_and (pt_cmpR op_ge (pe_ix ix_tup (pv 3) pe_int (fun _ _ => rfl)) (pv 1) (nomark _)) (pw_and1 (PW.pt (pw_or (pt_cmpR op_isN (pv 2) pe_non (nomark _)) (pw_or1 (pt_cmpR op_lt (pe_ix ix_tup (pv 3) pe_int (fun _ _ => rfl)) (pe_ix ix_tup (pv 2) pe_int (fun _ _ => rfl)) (nomark _))))))))
          (pss_one (ps_set (i := 2) nd rfl (Or.inl rfl) (pv 3))) pss_nil)))
      (pss_one (ps_ret (pv 2)))), ?_⟩
    refine ⟨_, rfl, l, rfl, ⟨_, hl⟩, for_list (K := K) (a := l) (xs := xs) (fun i σ H' => H' = H ∧ ∃ (f : V) (y : Option V), σ = [some (.ref l), some (.int w), some f, y] ∧ OptPr H f ((L.take i).foldl (Bud.better w) none))
      ⟨rfl, .non, none, rfl, rfl⟩ (fun i σ H' _ h => by rw [h.1]; exact hl) ?_ ?_⟩
    · rintro i x σ H' hi ⟨rfl, f, y, rfl, ho⟩
      obtain ⟨p, hpi, hx⟩ := hp.get hi
      obtain ⟨t, rfl, et⟩ := id hx
      have ft := fold_take (w := w) hpi
      refine ⟨_, rfl, t, _, 1, _, rfl, rfl, SqT.of et, rfl, _, rfl, _, _, rfl, rfl, _, rfl, ?_⟩
      refine ite2 (fun c => ?_) (fun c => ?_)
      · have c' : w ≤ p.2 := by simpa using c
        cases e : (L.take i).foldl (Bud.better w) none with
        | none =>
          rw [e] at ho ft
          cases (show f = V.non from ho)
          have eb : Bud.better w none p = some p := by unfold Bud.better; rw [if_pos c']
          rw [eb] at ft
          refine ⟨_, rfl, rfl, _, rfl, iteT (iteT ?_)⟩
          exact ⟨_, rfl, rfl, .ref t, _, rfl, by rw [ft]; exact hx⟩
        | some q =>
          rw [e] at ho ft
          obtain ⟨u, rfl, eu⟩ := (show IsPr H' f q from ho)
          refine ⟨_, rfl, rfl, _, rfl, iteF ?_⟩
          refine ⟨_, rfl, t, _, 1, _, rfl, rfl, SqT.of et, rfl, _, rfl, u, _, 1, _, rfl, rfl, SqT.of eu, rfl, _, _, rfl, rfl, _, rfl, ?_⟩
          refine ite2 (fun d => ?_) (fun d => ?_)
          · have d' : p.2 < q.2 := by simpa using d
            have eb : Bud.better w (some q) p = some p := by unfold Bud.better; rw [if_pos c']; exact if_pos d'
            rw [eb] at ft
            exact ⟨_, rfl, rfl, .ref t, _, rfl, by rw [ft]; exact hx⟩
          · have d' : ¬ p.2 < q.2 := by simpa using d
            have eb : Bud.better w (some q) p = some q := by unfold Bud.better; rw [if_pos c']; exact if_neg d'
            rw [eb] at ft
            exact ⟨rfl, .ref u, _, rfl, by rw [ft]; exact ho⟩
      · have c' : ¬ w ≤ p.2 := by simpa using c
        have eb : ∀ f, Bud.better w f p = f := fun f => by unfold Bud.better; rw [if_neg c']
        rw [eb] at ft
        exact ⟨rfl, f, _, rfl, by rw [ft]; exact ho⟩
    · rintro σ H' ⟨rfl, f, y, rfl, ho⟩
      rw [hp.length, List.take_length] at ho
      refine ⟨_, rfl, ?_⟩
      cases e : Bud.bestOf L w with
      | none =>
        have e' : L.foldl (Bud.better w) none = none := e
        rw [e'] at ho
        cases (show f = V.non from ho)
        exact k2 e
      | some q =>
        have e' : L.foldl (Bud.better w) none = some q := e
        rw [e'] at ho
        exact k1 f q e ho
/-! #### without -/
/-- the free pieces but one -/
def spWithout (K : PySem.W.Frag) : Sp := fun vs H Q _ => ∃ (l : Addr) (xs : List V) (L : List Bud.Pc) (x : V) (p : Bud.Pc), vs = [.ref l, x] ∧ SqL K H l xs ∧ Prs H xs L ∧ IsPr H x p ∧ L.length ≤ 1000000 ∧
  ∀ (q : Addr) (ys : List V), H q = none → Prs H ys (Bud.without L p) → Q (.ref q) (upd H q (.lst ys))
theorem without_take {L : List Bud.Pc} {i : Nat} {q p : Bud.Pc} (h : L[i]? = some q) : Bud.without (L.take (i + 1)) p = Bud.without (L.take i) p ++ (if q = p then [] else [q]) := by
  unfold Bud.without
  rw [List.take_add_one, h, List.filter_append]
  congr 1
  by_cases e : q = p
  · rw [if_pos e]
    show List.filter _ [q] = []
    rw [List.filter_cons_of_neg (by simpa using e)]
    rfl
  · rw [if_neg e]
    show List.filter _ [q] = [q]
    rw [List.filter_cons_of_pos (by simpa using e)]
    rfl
theorem ok_without (T : Txt K mg) : DefOk P w K mg base 1 "without" ["spare", "piece"] (spWithout K) := by
  refine mkDef T.F_without T.g_without bd_without sc_without (fun vs H Q E h => ?_) (fun cdv A outer s H vs Q E hr h => ?_)
  · obtain ⟨l, xs, L, x, p, rfl, _⟩ := h
    rfl
  · obtain ⟨l, xs, L, x, p, rfl, hl, hp, hx, hlen, k⟩ := h
    have nd := sc_without.nd
    refine ⟨_, pss_one (ps_ret (pe_lc (own := [("one", 2)]) (g := gName 2) (by rfl) nd (pi_list (pv 0)) (blkOk_by (own := [("one", 2)]) (N := ["spare", "piece", "one"]) (sc := defScope s_without) (by decide +kernel)) (fun _ _ _ _ _ => pg_name (i := 2) nd rfl (Or.inl rfl))
      (fun _ _ _ _ _ => pts_one (pt_cmpR (op_neP hr.units) (pv 2) (pv 1) (nomark _))) (fun _ _ _ _ _ => pv 2))), ?_⟩
    refine ⟨_, rfl, l, rfl, ⟨_, hl⟩, fun D hD => ?_⟩
    refine lc_list (K := K) (a := l) (xs := xs) (fun i H' => ∃ ys, H' = upd H D (.lst ys) ∧ Prs H ys (Bud.without (L.take i) p)) ⟨[], rfl, .nil⟩ (fun i H' _ ⟨ys, e, _⟩ => by rw [e]; exact (same_new hD).seq hl) ?_ ?_
    · rintro i y H' hi ⟨ys, rfl, hys⟩
      obtain ⟨q, hq, hy⟩ := hp.get hi
      have kt : TupKept H (upd H D (.lst ys)) := tups_upd hD
      refine ⟨rfl, _, rfl, _, rfl, q, p, hy.kept kt, hx.kept kt, _, rfl, ?_⟩
      have hw := without_take (p := p) hq
      refine ite2 (fun c => ?_) (fun c => ?_)
      · have c' : ¬ q = p := by simpa using c
        rw [if_neg c'] at hw
        have hlt : ys.length < sizeLine := by
          have h1 := hys.length
          have h2 : (Bud.without (L.take i) p).length ≤ L.length := Nat.le_trans (List.length_filter_le _ _) (by rw [List.length_take]; omega)
          rw [sizeLine_eq]
          omega
        refine ⟨_, rfl, ys, upd_same, hlt, ys ++ [y], by rw [upd_upd], ?_⟩
        rw [hw]
        exact hys.append (.cons hy .nil)
      · have c' : q = p := by simpa using c
        rw [if_pos c', List.append_nil] at hw
        exact ⟨ys, rfl, by rw [hw]; exact hys⟩
    · rintro H' ⟨ys, rfl, hys⟩
      rw [hp.length, List.take_length] at hys
      exact k D ys hD hys
/-! #### cut_down -/
/-- the height to which size pw m is halved for a wish w -/
def cutE (w : Int) (m : Nat) : Nat := min (Bud.fe w) m
theorem cut_go {w : Int} {m i : Nat} (hi : i < m - cutE w m) : w ≤ Bud.pw (m - i - 1) := by
  have h1 : Bud.fe w ≤ m - i - 1 := by unfold cutE at hi; omega
  have h2 := Bud.fit_ge w
  have h3 := Bud.pw_le h1
  unfold Bud.fit at h2
  omega
theorem cut_stop {w : Int} {m : Nat} (hw : 1 ≤ w) : Bud.pw (cutE w m) / 2 < w := by
  rcases Nat.lt_or_ge m (Bud.fe w) with q | q
  · have e : cutE w m = m := by unfold cutE; omega
    rw [e]
    have := (Bud.fe_spec w).2 m q
    have := Bud.pw_pos m
    omega
  · have e : cutE w m = Bud.fe w := by unfold cutE; omega
    rw [e]
    cases e2 : Bud.fe w with
    | zero => show (1 : Int) / 2 < w; omega
    | succ n =>
      have h := (Bud.fe_spec w).2 n (by omega)
      rw [Bud.pw_succ, Int.mul_ediv_cancel_left _ (by decide)]
      exact h
theorem ups_rev (a : Int) (j d : Nat) : (Bud.ups a j (d + 1)).reverse = (Bud.ups a (j + 1) d).reverse ++ [(a + Bud.pw j, Bud.pw j)] := by
  rw [Bud.ups_cons, List.reverse_cons]
theorem ups_length (a : Int) (j : Nat) : ∀ d, (Bud.ups a j d).length = d
  | 0 => rfl
  | d + 1 => by
    show (Bud.ups a j d ++ [_]).length = d + 1
    rw [List.length_append, ups_length a j d]
    rfl
theorem pw_half' {n : Nat} (h : 0 < n) : Bud.pw n / 2 = Bud.pw (n - 1) := by
  obtain ⟨m, rfl⟩ : ∃ m, n = m + 1 := ⟨n - 1, by omega⟩
  rw [Bud.pw_succ, Int.mul_ediv_cancel_left _ (by decide)]
  rfl
/-- halved as long as half is enough -/
def spCut (K : PySem.W.Frag) : Sp := fun vs H Q _ => ∃ (l : Addr) (xs : List V) (L : List Bud.Pc) (a w : Int) (m : Nat), vs = [.ref l, .int a, .int (Bud.pw m), .int w] ∧ SqL K H l xs ∧ Prs H xs L ∧ L.length ≤ 1000000 ∧ m ≤ 60 ∧ 1 ≤ w ∧
  ∀ (H' : Hp) (q r : Addr) (ys : List V) (M : List Bud.Pc), Same H H' → H q = none → H r = none → H' q = some (.tup [.ref r, .int (Bud.pw (cutE w m))]) → H' r = some (.lst ys) → Prs H' ys M → M.Perm (L ++ Bud.ups a (cutE w m) (m - cutE w m)) → Bud.Srt M → Q (.ref q) H'
theorem ok_cut_down (T : Txt K mg) : DefOk P w K mg base 1 "cut_down" ["spare", "at", "size", "want"] (spCut K) := by
  refine mkDef T.F_cut_down T.g_cut_down bd_cut_down sc_cut_down (fun vs H Q E h => ?_) (fun cdv A outer s H vs Q E hr h => ?_)
  · obtain ⟨l, xs, L, a, w, m, rfl, _⟩ := h
    rfl
  · obtain ⟨l, xs, L, a, w, m, rfl, hl, hp, hlen, hm, hw, k⟩ := h
    have nd := sc_cut_down.nd
    refine ⟨_, pss_cons (ps_set (i := 4) nd rfl (Or.inl rfl) (pe_callTy call_list_of (by rfl) T.n_list (by decide +kernel) (pa_cons (pv 0) pa_nil)))
      (pss_cons (ps_while (passes_of rfl) (pt_cmpR op_ge (pe_op op_fdiv (pv 2) pe_int) (pv 3) (nomark _))
        (pss_cons (ps_set (i := 2) nd rfl (Or.inl rfl) (pe_op op_fdiv (pv 2) pe_int))
        (pss_one (ps_expr (pe_bm PySem.F.plainAttrs_list PySem.F.slot_list_append PySem.F.type_list_append mt_append (pv 4) (pa_cons (pe_tup (pa_cons (pe_op op_add (pv 1) (pv 2)) (pa_cons (pv 2) pa_nil))) pa_nil))))))
      (pss_one (ps_ret (pe_tup (pa_cons (pe_callB cr_sortPs (by rfl) T.n_sorted (by decide +kernel) (pa_cons (pv 4) pa_nil)) (pa_cons (pv 2) pa_nil)))))), ?_⟩
    refine ⟨_, rfl, l, _, rfl, .inl hl, fun D hD => ?_⟩
    refine while_n (m - cutE w m) (fun i σ H' => Same H H' ∧ ∃ ys, σ = [some (.ref l), some (.int a), some (.int (Bud.pw (m - i))), some (.int w), some (.ref D)] ∧ H' D = some (.lst ys) ∧ Prs H' ys (L ++ (Bud.ups a (m - i) i).reverse))
      ⟨same_new hD, xs, rfl, upd_same, by
        show Prs _ xs (L ++ [])
        rw [List.append_nil]
        exact hp.kept (tups_upd hD)⟩ ?_
    rintro i σ H1 hi ⟨s1, ys, rfl, hDl, hys⟩
    refine ⟨_, rfl, _, _, rfl, rfl, ⟨by decide, by decide⟩, _, rfl, _, _, rfl, rfl, _, rfl, ?_⟩
    rcases Nat.lt_or_ge i (m - cutE w m) with q | q
    · have hpos : 0 < m - i := by omega
      have e1 : decide (w ≤ Bud.pw (m - i) / 2) = true := decide_eq_true (by rw [pw_half' hpos]; exact cut_go q)
      show if decide (w ≤ Bud.pw (m - i) / 2) = true then _ else _
      rw [e1]
      refine iteT ⟨_, wh_step q, ?_⟩
      refine ⟨_, rfl, _, _, rfl, rfl, ⟨by decide, by decide⟩, ?_⟩
      have ylen : ys.length < sizeLine := by
        have h1 := hys.length
        rw [List.length_append, List.length_reverse, ups_length] at h1
        rw [sizeLine_eq]
        omega
      refine ⟨_, rfl, .inl ⟨rfl, _, SqL.of hDl⟩, _, rfl, _, rfl, _, _, rfl, rfl, _, rfl, (by show 2 ≤ sizeLine; decide), fun t ht => ?_⟩
      have ntD : D ≠ t := ne_of_none hDl ht
      refine ⟨D, _, _, rfl, rfl, by rw [upd_ne ntD]; exact hDl, ylen, ?_⟩
      have kt : TupKept H1 (upd H1 t (.tup [V.int (a + Bud.pw (m - i) / 2), V.int (Bud.pw (m - i) / 2)])) := tups_upd ht
      have kt2 : TupKept (upd H1 t (.tup [V.int (a + Bud.pw (m - i) / 2), V.int (Bud.pw (m - i) / 2)])) (upd (upd H1 t (.tup [V.int (a + Bud.pw (m - i) / 2), V.int (Bud.pw (m - i) / 2)])) D (.lst (ys ++ [V.ref t]))) :=
        tups_put (by rw [upd_ne ntD]; exact hDl) (fun xs z => by cases z)
      refine ⟨fun b o e => ?_, ys ++ [.ref t], ?_, upd_same, ?_⟩
      · have nb : b ≠ D := fun z => by
          rw [z, hD] at e
          cases e
        rw [upd_ne nb, upd_ne (ne_of_none (s1 _ _ e) ht)]
        exact s1 _ _ e
      · show [some (V.ref l), some (V.int a), some (V.int (Bud.pw (m - i) / 2)), some (V.int w), some (V.ref D)] = _
        rw [pw_half' hpos, show m - i - 1 = m - (i + 1) by omega]
      · have e3 : (Bud.ups a (m - (i + 1)) (i + 1)).reverse = (Bud.ups a (m - i) i).reverse ++ [(a + Bud.pw (m - (i + 1)), Bud.pw (m - (i + 1)))] := by
          rw [ups_rev, show m - (i + 1) + 1 = m - i by omega]
        rw [e3, ← List.append_assoc]
        refine Prs.append ((hys.kept kt).kept kt2) (.cons ⟨t, rfl, ?_⟩ .nil)
        refine kt2 _ _ ?_
        rw [upd_same, pw_half' hpos, show m - i - 1 = m - (i + 1) by omega]
    · have e : i = m - cutE w m := by omega
      have hle : cutE w m ≤ m := Nat.min_le_right _ _
      have e0 : m - i = cutE w m := by omega
      have e1 : decide (w ≤ Bud.pw (m - i) / 2) = false := decide_eq_false (by rw [e0]; have := cut_stop (m := m) hw; omega)
      show if decide (w ≤ Bud.pw (m - i) / 2) = true then _ else _
      rw [e1]
      refine iteF ?_
      refine ⟨_, rfl, D, _, _, rfl, SqL.of hDl, hys, fun zs M r hperm hsrt hzs hr => ?_⟩
      refine ⟨_, rfl, (by show 2 ≤ sizeLine; decide), fun q hq => ?_⟩
      have nrq : r ≠ q := ne_of_none upd_same hq
      have hq1 : H1 q = none := by
        rw [upd_ne nrq.symm] at hq
        exact hq
      refine k _ q r zs M (fun b o e => ?_) (s1.free hq1) (s1.free hr) ?_ ?_ ?_ ?_ hsrt
      · rw [upd_ne (ne_of_none (s1 _ _ e) hq1), upd_ne (ne_of_none (s1 _ _ e) hr)]
        exact s1 _ _ e
      · rw [upd_same, e0]
      · rw [upd_ne nrq, upd_same]
      · exact (hzs.kept (tups_upd hr)).kept (tups_upd hq)
      · refine hperm.trans ?_
        rw [e0, show i = m - cutE w m from e]
        exact List.Perm.append_left _ (List.reverse_perm _)
/-! #### put_back -/
/-- the free pieces with one more, joined -/
def spBack (K : PySem.W.Frag) : Sp := fun vs H Q _ => ∃ (l : Addr) (xs : List V) (L : List Bud.Pc) (a s : Int), vs = [.ref l, .int a, .int s] ∧ SqL K H l xs ∧ Prs H xs L ∧ L.length ≤ 1000000 ∧ (0 < s ∧ s ≤ Bud.pw 60) ∧ (∀ p ∈ L, 0 < p.2 ∧ p.2 ≤ Bud.pw 60) ∧
  ∀ (H' : Hp) (r : Addr) (ys : List V) (M : List Bud.Pc), Same H H' → H r = none → H' r = some (.lst ys) → Prs H' ys M → M.Perm ((Bud.pb L a s).2 :: (Bud.pb L a s).1) → Bud.Srt M → Q (.ref r) H'
theorem min_if (a b : Int) : (if b < a then b else a) = min a b := by
  by_cases h : b < a
  · rw [if_pos h]; omega
  · rw [if_neg h]; omega
theorem ok_put_back (T : Txt K mg) : DefOk P w K mg base 2 "put_back" ["spare", "at", "size"] (spBack K) := by
  refine mkDef T.F_put_back T.g_put_back bd_put_back sc_put_back (fun vs H Q E h => ?_) (fun cdv A outer s H vs Q E hr h => ?_)
  · obtain ⟨l, xs, L, a, s, rfl, _⟩ := h
    rfl
  · obtain ⟨l, xs, L, a, s, rfl, hl, hp, hlen, hs, hall, k⟩ := h
    have nd := sc_put_back.nd
    have hr1 : Room 1 _ := hr
    have hu := hu65 hr
    refine ⟨_, pss_cons (ps_set (i := 3) nd rfl (Or.inl rfl) (pe_callTy call_list_of (by rfl) T.n_list (by decide +kernel) (pa_cons (pv 0) pa_nil)))
      (pss_cons (ps_set (i := 4) nd rfl (Or.inl rfl) (pe_tup (pa_cons (pe_cd (ok_twin_of T) hr1 (pa_cons (pv 1) (pa_cons (pv 2) pa_nil))) (pa_cons (pv 2) pa_nil))))
      (pss_cons (ps_while (passes_of rfl) (pt_cmpR (op_inP hu) (pv 4) (pv 3) (by rfl))
        (pss_cons (ps_expr (pe_bm PySem.F.plainAttrs_list PySem.F.slot_list_remove PySem.F.type_list_remove (mt_removeP hu) (pv 3) (pa_cons (pv 4) pa_nil)))
        (pss_cons (ps_set (i := 1) nd rfl (Or.inl rfl) (pe_callB (call_min2 rfl) (by rfl) T.n_min (by decide +kernel) (pa_cons (pv 1) (pa_cons (pe_ix ix_tup (pv 4) pe_int (fun _ _ => rfl)) pa_nil))))
        (pss_cons (ps_set (i := 2) nd rfl (Or.inl rfl) (pe_op op_mul (pv 2) pe_int))
        (pss_one (ps_set (i := 4) nd rfl (Or.inl rfl) (pe_tup (pa_cons (pe_cd (ok_twin_of T) hr1 (pa_cons (pv 1) (pa_cons (pv 2) pa_nil))) (pa_cons (pv 2) pa_nil)))))))))
      (pss_cons (ps_expr (pe_bm PySem.F.plainAttrs_list PySem.F.slot_list_append PySem.F.type_list_append mt_append (pv 3) (pa_cons (pe_tup (pa_cons (pv 1) (pa_cons (pv 2) pa_nil))) pa_nil)))
      (pss_one (ps_ret (pe_callB cr_sortPs (by rfl) T.n_sorted (by decide +kernel) (pa_cons (pv 3) pa_nil))))))), ?_⟩
    have e61 := pw61
    have e60 := pw60
    have hs61 : s ≤ Bud.pw 61 := by omega
    refine ⟨_, rfl, l, _, rfl, .inl hl, fun D hD => ?_⟩
    refine ⟨_, rfl, _, rfl, a, s, rfl, hs.1, hs61, _, rfl, (by show 2 ≤ sizeLine; decide), fun t0 ht0 => ?_⟩
    have nDt0 : D ≠ t0 := ne_of_none upd_same ht0
    have ht0' : H t0 = none := by
      rw [upd_ne nDt0.symm] at ht0
      exact ht0
    -- behind i turns
    refine while_n L.length (fun i σ H' => Same H H' ∧ ∃ (ys : List V) (Li : List Bud.Pc) (ai si : Int) (t : Addr), σ = [some (.ref l), some (.int ai), some (.int si), some (.ref D), some (.ref t)] ∧ H' D = some (.lst ys) ∧ Prs H' ys Li ∧
        H' t = some (.tup [.int (Bud.twin ai si), .int si]) ∧ Li.length + i = L.length ∧ 0 < si ∧ si ≤ Bud.pw 61 ∧ (∀ p ∈ Li, 0 < p.2 ∧ p.2 ≤ Bud.pw 60) ∧ Bud.pb Li ai si = Bud.pb L a s)
      ⟨fun b o e => ?_, xs, L, a, s, t0, rfl, ?_, ?_, upd_same, rfl, hs.1, hs61, hall, rfl⟩ ?_
    · rw [upd_ne (ne_of_none e ht0'), upd_ne (ne_of_none e hD)]
      exact e
    · rw [upd_ne nDt0, upd_same]
    · exact (hp.kept (tups_upd hD)).kept (tups_upd ht0)
    rintro i σ H1 hi ⟨s1, ys, Li, ai, si, t, rfl, hDl, hys, ht, hlen2, hsi, hsi2, hall2, hpb⟩
    have hx : IsPr H1 (.ref t) (Bud.twin ai si, si) := ⟨t, rfl, ht⟩
    refine ⟨_, rfl, _, rfl, D, ys, Li, (Bud.twin ai si, si), rfl, SqL.of hDl, hys, hx, _, rfl, ?_⟩
    have ntD : t ≠ D := ne_of ht hDl (by intro z; cases z)
    refine ite2 (fun c => ?_) (fun c => ?_)
    · have c' : (Bud.twin ai si, si) ∈ Li := by simpa using c
      have hli : i < L.length := by
        have := List.length_pos_of_mem c'
        omega
      have hsz := (hall2 _ c').2
      simp only at hsz
      refine ⟨_, wh_step hli, ?_⟩
      refine ⟨_, rfl, .inl ⟨rfl, _, SqL.of hDl⟩, _, rfl, D, _, ys, Li, _, rfl, rfl, hDl, hys, hx, c', fun ys' hys' => ?_⟩
      have k2 : TupKept H1 (upd H1 D (.lst ys')) := tups_put hDl (fun xs z => by cases z)
      have ht2 := k2 _ _ ht
      refine ⟨_, rfl, _, rfl, t, _, 0, _, rfl, rfl, SqT.of ht2, rfl, _, _, rfl, ?_⟩
      refine ⟨_, rfl, _, _, rfl, rfl, .inr ⟨by decide, by decide⟩, ?_⟩
      refine ⟨_, rfl, _, rfl, _, _, rfl, (by show 0 < si * 2; omega), (by show si * 2 ≤ Bud.pw 61; omega), _, rfl, (by show 2 ≤ sizeLine; decide), fun t' ht' => ?_⟩
      have nD' : D ≠ t' := ne_of_none upd_same ht'
      refine ⟨fun b o e => ?_, ys', _, _, _, t', rfl, ?_, hys'.kept (k2.trans (tups_upd ht')), upd_same, ?_, (by show 0 < si * 2; omega), (by show si * 2 ≤ Bud.pw 61; omega), fun p hp => hall2 p (List.mem_of_mem_erase hp), ?_⟩
      · have nb : b ≠ D := fun z => by
          rw [z, hD] at e
          cases e
        have ht1 : H1 t' = none := by
          rw [upd_ne nD'.symm] at ht'
          exact ht'
        rw [upd_ne (ne_of_none (s1 _ _ e) ht1), upd_ne nb]
        exact s1 _ _ e
      · rw [upd_ne nD', upd_same]
      · have := List.length_erase_of_mem c'
        have := List.length_pos_of_mem c'
        omega
      · rw [← hpb, Bud.pb_in c']
        show Bud.pb _ (if Bud.twin ai si < ai then Bud.twin ai si else ai) (si * 2) = _
        rw [min_if]
    · have c' : ¬ (Bud.twin ai si, si) ∈ Li := by simpa using c
      have hpb2 : Bud.pb L a s = (Li, (ai, si)) := by rw [← hpb, Bud.pb_out c']
      have ylen : ys.length < sizeLine := by
        have h1 := hys.length
        rw [sizeLine_eq]
        omega
      refine ⟨_, rfl, .inl ⟨rfl, _, SqL.of hDl⟩, _, rfl, _, rfl, (by show 2 ≤ sizeLine; decide), fun t1 ht1 => ?_⟩
      have ntD1 : D ≠ t1 := ne_of_none hDl ht1
      have hDl1 : ∀ o, (upd H1 t1 o) D = some (.lst ys) := fun o => by rw [upd_ne ntD1]; exact hDl
      refine ⟨D, _, _, rfl, rfl, hDl1 _, ylen, ?_⟩
      have k3 : TupKept H1 (upd (upd H1 t1 (.tup [V.int ai, V.int si])) D (.lst (ys ++ [V.ref t1]))) := (tups_upd ht1).trans (tups_put (hDl1 _) (fun xs z => by cases z))
      refine ⟨_, rfl, D, _, Li ++ [(ai, si)], rfl, SqL.of upd_same, (hys.kept k3).append (.cons ⟨t1, rfl, ?_⟩ .nil), fun zs M r hperm hsrt hzs hr => ?_⟩
      · rw [upd_ne ntD1.symm, upd_same]
      · have nDr : D ≠ r := ne_of_none upd_same hr
        have hr1' : (upd H1 t1 (.tup [V.int ai, V.int si])) r = none := by
          rw [upd_ne nDr.symm] at hr
          exact hr
        have ntr : t1 ≠ r := ne_of_none upd_same hr1'
        have hr0 : H1 r = none := by
          rw [upd_ne ntr.symm] at hr1'
          exact hr1'
        refine k _ r zs M (fun b o e => ?_) (s1.free hr0) upd_same (hzs.kept (tups_upd hr)) ?_ hsrt
        · have nb : b ≠ D := fun z => by
            rw [z, hD] at e
            cases e
          rw [upd_ne (ne_of_none (s1 _ _ e) hr0), upd_ne nb, upd_ne (ne_of_none (s1 _ _ e) ht1)]
          exact s1 _ _ e
        · rw [hpb2]
          exact hperm.trans List.perm_append_comm
theorem okH_put_back (T : Txt K mg) : DefH P w K mg base 2 "put_back" ["spare", "at", "size"] (spBack K) := by
  refine mkDefH T.F_put_back T.g_put_back bd_put_back sc_put_back (fun vs H Q E h => ?_) (fun cdv A outer s H vs Q E pp hot hr h => ?_)
  · obtain ⟨l, xs, L, a, s, rfl, _⟩ := h
    rfl
  · obtain ⟨l, xs, L, a, s, rfl, hl, hp, hlen, hs, hall, k⟩ := h
    have nd := sc_put_back.nd
    have hr1 : L2H.RoomH 1 _ := hr
    have hu := huH hr
    refine ⟨_, pss_cons (ps_set (i := 3) nd rfl (Or.inl rfl) (pe_callTy call_list_of (by rfl) T.n_list (by decide +kernel) (pa_cons (pv 0) pa_nil)))
      (pss_cons (ps_set (i := 4) nd rfl (Or.inl rfl) (pe_tup (pa_cons (pe_dH hot (okH_twin_of T) hr1 (pa_cons (pv 1) (pa_cons (pv 2) pa_nil))) (pa_cons (pv 2) pa_nil))))
      (pss_cons (ps_while (passes_of rfl) (pt_cmpR (op_inP hu) (pv 4) (pv 3) (by rfl))
        (pss_cons (ps_expr (pe_bm PySem.F.plainAttrs_list PySem.F.slot_list_remove PySem.F.type_list_remove (mt_removeP hu) (pv 3) (pa_cons (pv 4) pa_nil)))
        (pss_cons (ps_set (i := 1) nd rfl (Or.inl rfl) (pe_callB (call_min2H hot) (by rfl) T.n_min (by decide +kernel) (pa_cons (pv 1) (pa_cons (pe_ix ix_tup (pv 4) pe_int (fun _ _ => rfl)) pa_nil))))
        (pss_cons (ps_set (i := 2) nd rfl (Or.inl rfl) (pe_op op_mul (pv 2) pe_int))
        (pss_one (ps_set (i := 4) nd rfl (Or.inl rfl) (pe_tup (pa_cons (pe_dH hot (okH_twin_of T) hr1 (pa_cons (pv 1) (pa_cons (pv 2) pa_nil))) (pa_cons (pv 2) pa_nil)))))))))
      (pss_cons (ps_expr (pe_bm PySem.F.plainAttrs_list PySem.F.slot_list_append PySem.F.type_list_append mt_append (pv 3) (pa_cons (pe_tup (pa_cons (pv 1) (pa_cons (pv 2) pa_nil))) pa_nil)))
      (pss_one (ps_ret (pe_callB cr_sortPs (by rfl) T.n_sorted (by decide +kernel) (pa_cons (pv 3) pa_nil))))))), ?_⟩
    have e61 := pw61
    have e60 := pw60
    have hs61 : s ≤ Bud.pw 61 := by omega
    refine ⟨_, rfl, l, _, rfl, .inl hl, fun D hD => ?_⟩
    refine ⟨_, rfl, _, rfl, a, s, rfl, hs.1, hs61, _, rfl, (by show 2 ≤ sizeLine; decide), fun t0 ht0 => ?_⟩
    have nDt0 : D ≠ t0 := ne_of_none upd_same ht0
    have ht0' : H t0 = none := by
      rw [upd_ne nDt0.symm] at ht0
      exact ht0
    -- behind i turns
    refine while_n L.length (fun i σ H' => Same H H' ∧ ∃ (ys : List V) (Li : List Bud.Pc) (ai si : Int) (t : Addr), σ = [some (.ref l), some (.int ai), some (.int si), some (.ref D), some (.ref t)] ∧ H' D = some (.lst ys) ∧ Prs H' ys Li ∧
        H' t = some (.tup [.int (Bud.twin ai si), .int si]) ∧ Li.length + i = L.length ∧ 0 < si ∧ si ≤ Bud.pw 61 ∧ (∀ p ∈ Li, 0 < p.2 ∧ p.2 ≤ Bud.pw 60) ∧ Bud.pb Li ai si = Bud.pb L a s)
      ⟨fun b o e => ?_, xs, L, a, s, t0, rfl, ?_, ?_, upd_same, rfl, hs.1, hs61, hall, rfl⟩ ?_
    · rw [upd_ne (ne_of_none e ht0'), upd_ne (ne_of_none e hD)]
      exact e
    · rw [upd_ne nDt0, upd_same]
    · exact (hp.kept (tups_upd hD)).kept (tups_upd ht0)
    rintro i σ H1 hi ⟨s1, ys, Li, ai, si, t, rfl, hDl, hys, ht, hlen2, hsi, hsi2, hall2, hpb⟩
    have hx : IsPr H1 (.ref t) (Bud.twin ai si, si) := ⟨t, rfl, ht⟩
    refine ⟨_, rfl, _, rfl, D, ys, Li, (Bud.twin ai si, si), rfl, SqL.of hDl, hys, hx, _, rfl, ?_⟩
    have ntD : t ≠ D := ne_of ht hDl (by intro z; cases z)
    refine ite2 (fun c => ?_) (fun c => ?_)
    · have c' : (Bud.twin ai si, si) ∈ Li := by simpa using c
      have hli : i < L.length := by
        have := List.length_pos_of_mem c'
        omega
      have hsz := (hall2 _ c').2
      simp only at hsz
      refine ⟨_, wh_step hli, ?_⟩
      refine ⟨_, rfl, .inl ⟨rfl, _, SqL.of hDl⟩, _, rfl, D, _, ys, Li, _, rfl, rfl, hDl, hys, hx, c', fun ys' hys' => ?_⟩
      have k2 : TupKept H1 (upd H1 D (.lst ys')) := tups_put hDl (fun xs z => by cases z)
      have ht2 := k2 _ _ ht
      refine ⟨_, rfl, _, rfl, t, _, 0, _, rfl, rfl, SqT.of ht2, rfl, _, _, rfl, ?_⟩
      refine ⟨_, rfl, _, _, rfl, rfl, .inr ⟨by decide, by decide⟩, ?_⟩
      refine ⟨_, rfl, _, rfl, _, _, rfl, (by show 0 < si * 2; omega), (by show si * 2 ≤ Bud.pw 61; omega), _, rfl, (by show 2 ≤ sizeLine; decide), fun t' ht' => ?_⟩
      have nD' : D ≠ t' := ne_of_none upd_same ht'
      refine ⟨fun b o e => ?_, ys', _, _, _, t', rfl, ?_, hys'.kept (k2.trans (tups_upd ht')), upd_same, ?_, (by show 0 < si * 2; omega), (by show si * 2 ≤ Bud.pw 61; omega), fun p hp => hall2 p (List.mem_of_mem_erase hp), ?_⟩
      · have nb : b ≠ D := fun z => by
          rw [z, hD] at e
          cases e
        have ht1 : H1 t' = none := by
          rw [upd_ne nD'.symm] at ht'
          exact ht'
        rw [upd_ne (ne_of_none (s1 _ _ e) ht1), upd_ne nb]
        exact s1 _ _ e
      · rw [upd_ne nD', upd_same]
      · have := List.length_erase_of_mem c'
        have := List.length_pos_of_mem c'
        omega
      · rw [← hpb, Bud.pb_in c']
        show Bud.pb _ (if Bud.twin ai si < ai then Bud.twin ai si else ai) (si * 2) = _
        rw [min_if]
    · have c' : ¬ (Bud.twin ai si, si) ∈ Li := by simpa using c
      have hpb2 : Bud.pb L a s = (Li, (ai, si)) := by rw [← hpb, Bud.pb_out c']
      have ylen : ys.length < sizeLine := by
        have h1 := hys.length
        rw [sizeLine_eq]
        omega
      refine ⟨_, rfl, .inl ⟨rfl, _, SqL.of hDl⟩, _, rfl, _, rfl, (by show 2 ≤ sizeLine; decide), fun t1 ht1 => ?_⟩
      have ntD1 : D ≠ t1 := ne_of_none hDl ht1
      have hDl1 : ∀ o, (upd H1 t1 o) D = some (.lst ys) := fun o => by rw [upd_ne ntD1]; exact hDl
      refine ⟨D, _, _, rfl, rfl, hDl1 _, ylen, ?_⟩
      have k3 : TupKept H1 (upd (upd H1 t1 (.tup [V.int ai, V.int si])) D (.lst (ys ++ [V.ref t1]))) := (tups_upd ht1).trans (tups_put (hDl1 _) (fun xs z => by cases z))
      refine ⟨_, rfl, D, _, Li ++ [(ai, si)], rfl, SqL.of upd_same, (hys.kept k3).append (.cons ⟨t1, rfl, ?_⟩ .nil), fun zs M r hperm hsrt hzs hr => ?_⟩
      · rw [upd_ne ntD1.symm, upd_same]
      · have nDr : D ≠ r := ne_of_none upd_same hr
        have hr1' : (upd H1 t1 (.tup [V.int ai, V.int si])) r = none := by
          rw [upd_ne nDr.symm] at hr
          exact hr
        have ntr : t1 ≠ r := ne_of_none upd_same hr1'
        have hr0 : H1 r = none := by
          rw [upd_ne ntr.symm] at hr1'
          exact hr1'
        refine k _ r zs M (fun b o e => ?_) (s1.free hr0) upd_same (hzs.kept (tups_upd hr)) ?_ hsrt
        · have nb : b ≠ D := fun z => by
            rw [z, hD] at e
            cases e
          rw [upd_ne (ne_of_none (s1 _ _ e) hr0), upd_ne nb, upd_ne (ne_of_none (s1 _ _ e) ht1)]
          exact s1 _ _ e
        · rw [hpb2]
          exact hperm.trans List.perm_append_comm
/-! #### grown -/
/-- the free pieces without the upper twins that lead to a greater size -/
def spGrown (K : PySem.W.Frag) : Sp := fun vs H Q _ => ∃ (l : Addr) (xs : List V) (L : List Bud.Pc) (a : Int) (j e : Nat), vs = [.ref l, .int a, .int (Bud.pw j), .int (Bud.pw (j + e))] ∧ SqL K H l xs ∧ Prs H xs L ∧ L.length ≤ 1000000 ∧ j + e ≤ 60 ∧
  (∀ G, Bud.grw e L a j = some G → ∀ (H' : Hp) (r : Addr) (ys : List V), Same H H' → H r = none → H' r = some (.lst ys) → Prs H' ys G → Q (.ref r) H') ∧ (Bud.grw e L a j = none → ∀ H', Same H H' → Q .non H')
theorem ok_grown (T : Txt K mg) : DefOk P w K mg base 2 "grown" ["spare", "at", "size", "due"] (spGrown K) := by
  refine mkDef T.F_grown T.g_grown bd_grown sc_grown (fun vs H Q E h => ?_) (fun cdv A outer s H vs Q E hr h => ?_)
  · obtain ⟨l, xs, L, a, j, e, rfl, _⟩ := h
    rfl
  · obtain ⟨l, xs, L, a, j, e, rfl, hl, hp, hlen, hje, k1, k2⟩ := h
    have nd := sc_grown.nd
    have hr1 : Room 1 _ := hr
    have hu := hu65 hr
    refine ⟨_, pss_cons (ps_set (i := 4) nd rfl (Or.inl rfl) (pe_callTy call_list_of (by rfl) T.n_list (by decide +kernel) (pa_cons (pv 0) pa_nil)))
      (pss_cons (ps_while (passes_of rfl) (pt_cmpR op_lt (pv 2) (pv 3) (nomark _))
        (pss_cons (ps_set (i := 5) nd rfl (Or.inl rfl) (pe_tup (pa_cons (pe_op op_add (pv 1) (pv 2)) (pa_cons (pv 2) pa_nil))))
        (pss_cons (ps_if (PW.pt (pw_or (pt_cmpR op_ne (pe_cd (ok_twin_of T) hr1 (pa_cons (pv 1) (pa_cons (pv 2) pa_nil))) (pe_op op_add (pv 1) (pv 2)) (nomark _)) (pw_or1 (pt_cmpR (op_notInP hu) (pv 5) (pv 4) (by rfl))))) (pss_one (ps_ret pe_non)) pss_nil)
        (pss_cons (ps_expr (pe_bm PySem.F.plainAttrs_list PySem.F.slot_list_remove PySem.F.type_list_remove (mt_removeP hu) (pv 4) (pa_cons (pv 5) pa_nil)))
        (pss_one (ps_set (i := 2) nd rfl (Or.inl rfl) (pe_op op_mul (pv 2) pe_int)))))))
      (pss_one (ps_ret (pv 4)))), ?_⟩
    refine ⟨_, rfl, l, _, rfl, .inl hl, fun D hD => ?_⟩
    refine while_n e (fun i σ H' => Same H H' ∧ ∃ (ys : List V) (Li : List Bud.Pc) (o : Option V), σ = [some (.ref l), some (.int a), some (.int (Bud.pw (j + i))), some (.int (Bud.pw (j + e))), some (.ref D), o] ∧ H' D = some (.lst ys) ∧ Prs H' ys Li ∧ Bud.grw (e - i) Li a (j + i) = Bud.grw e L a j)
      ⟨same_new hD, xs, L, none, rfl, upd_same, hp.kept (tups_upd hD), rfl⟩ ?_
    rintro i σ H1 hi ⟨s1, ys, Li, o, rfl, hDl, hys, hg⟩
    refine ⟨_, rfl, _, rfl, _, _, rfl, rfl, _, rfl, ?_⟩
    refine ite2 (fun c => ?_) (fun c => ?_)
    · have c' : j + i < j + e := Bud.pw_lt_iff.mp (by simpa using c)
      have hie : i < e := by omega
      obtain ⟨f, ef⟩ : ∃ f, e - i = f + 1 := ⟨e - i - 1, by omega⟩
      rw [ef] at hg
      have hg' : (if Bud.twin a (Bud.pw (j + i)) = a + Bud.pw (j + i) ∧ (a + Bud.pw (j + i), Bud.pw (j + i)) ∈ Li then Bud.grw f (Li.erase (a + Bud.pw (j + i), Bud.pw (j + i))) a (j + i + 1) else none) = Bud.grw e L a j := hg
      have b1 := Bud.pw_pos (j + i)
      have b2 : Bud.pw (j + i) ≤ Bud.pw 61 := Bud.pw_le (by omega)
      refine ⟨_, wh_step hie, ?_⟩
      refine ⟨_, rfl, _, rfl, _, _, rfl, rfl, _, rfl, (by show 2 ≤ sizeLine; decide), fun t ht => ?_⟩
      have nDt : D ≠ t := ne_of_none hDl ht
      have hDl2 : (upd H1 t (.tup [V.int (a + Bud.pw (j + i)), V.int (Bud.pw (j + i))])) D = some (.lst ys) := by rw [upd_ne nDt]; exact hDl
      have s2 : Same H (upd H1 t (.tup [V.int (a + Bud.pw (j + i)), V.int (Bud.pw (j + i))])) := s1.trans (same_new ht)
      have hx : IsPr (upd H1 t (.tup [V.int (a + Bud.pw (j + i)), V.int (Bud.pw (j + i))])) (.ref t) (a + Bud.pw (j + i), Bud.pw (j + i)) := ⟨t, rfl, upd_same⟩
      have hys2 := hys.kept (tups_upd (o := .tup [V.int (a + Bud.pw (j + i)), V.int (Bud.pw (j + i))]) ht)
      refine ⟨_, rfl, _, rfl, _, _, rfl, b1, b2, _, rfl, _, rfl, _, _, rfl, rfl, rfl, _, rfl, ?_⟩
      refine ite2 (fun c => ?_) (fun c => ?_)
      · have c' : ¬ Bud.twin a (Bud.pw (j + i)) = a + Bud.pw (j + i) := fun q => by
          rw [q] at c
          simp at c
        rw [if_neg (fun q => c' q.1)] at hg'
        exact iteT (k2 hg'.symm _ s2)
      · have c1 : Bud.twin a (Bud.pw (j + i)) = a + Bud.pw (j + i) := by
          refine Classical.byContradiction fun q => c ?_
          have : ¬ V.int (Bud.twin a (Bud.pw (j + i))) = V.int (a + Bud.pw (j + i)) := fun z => q (V.int.inj z)
          show (!decide (V.int (Bud.twin a (Bud.pw (j + i))) = V.int (a + Bud.pw (j + i)))) = true
          rw [decide_eq_false this]
          rfl
        refine ⟨_, rfl, _, rfl, D, ys, Li, _, rfl, SqL.of hDl2, hys2, hx, _, rfl, ?_⟩
        refine ite2 (fun c => ?_) (fun c => ?_)
        · have c' : ¬ (a + Bud.pw (j + i), Bud.pw (j + i)) ∈ Li := by simpa using c
          rw [if_neg (fun q => c' q.2)] at hg'
          exact k2 hg'.symm _ s2
        · have c' : (a + Bud.pw (j + i), Bud.pw (j + i)) ∈ Li := by simpa using c
          rw [if_pos ⟨c1, c'⟩] at hg'
          refine ⟨_, rfl, .inl ⟨rfl, _, SqL.of hDl2⟩, _, rfl, D, _, ys, Li, _, rfl, rfl, hDl2, hys2, hx, c', fun ys' hys' => ?_⟩
          have k3 := tups_put (o := .lst ys') hDl2 (fun xs z => by cases z)
          refine ⟨_, rfl, _, _, rfl, rfl, .inr ⟨by decide, by decide⟩, fun b u hb => ?_, ys', _, some (.ref t), ?_, upd_same, hys'.kept k3, ?_⟩
          · have nb : b ≠ D := fun z => by
              rw [z, hD] at hb
              cases hb
            rw [upd_ne nb]
            exact s2 _ _ hb
          · rw [show j + (i + 1) = j + i + 1 by omega, Bud.pw_succ, Int.mul_comm 2]
            rfl
          · rw [show e - (i + 1) = f by omega, show j + (i + 1) = j + i + 1 by omega]
            exact hg'
    · have c' : ¬ j + i < j + e := fun q => c (by simpa using Bud.pw_lt q)
      have ei : i = e := by omega
      subst ei
      rw [Nat.sub_self] at hg
      exact ⟨_, rfl, k1 Li hg.symm H1 D ys s1 hD hDl hys⟩
/-! #### Yard.__init__ -/
/-- Yard(cells) -/
def spInit (K : PySem.W.Frag) : Sp := fun vs H Q E => ∃ (p dx : Addr) (n : Int), vs = [.ref p, .int n] ∧ H p = some (.ins (He.ga K "Yard") dx []) ∧
  (isSz n = true → ∀ (H' : Hp) (d : Addr), (∀ b o, H b = some o → b ≠ p → H' b = some o) → H d = none → YardAt K H' p d n [(0, n)] [] → Q .non H') ∧
  (isSz n = false → E (.ref (He.ga K "NoYard")) none H)
theorem ok_init (T : Txt K mg) : MakeOk P w K mg base 2 "Yard" ["self", "cells"] (spInit K) := by
  refine mkMake T.F_Yard_init T.mkr T.g_Yard bd_Yard_init sc_Yard_init (fun vs H Q E h => ?_) (fun cdv A outer s H vs Q E hr h => ?_)
  · obtain ⟨p, dx, n, rfl, _⟩ := h
    rfl
  · obtain ⟨p, dx, n, rfl, hp, k1, k2⟩ := h
    have hr1 : Room 1 _ := hr
    refine ⟨_, pss_cons (ps_if (pt_not (pt_val (pe_cd (ok_is_size T) hr1 (pa_cons (pv 1) pa_nil)))) (pss_one (ps_raise rfl (takes_of rfl rfl rfl rfl) (pmk_own PySem.F.excBase_ValueError T.x_NoYard.1 T.g_NoYard T.x_NoYard.2.1 (raises_own T.x_NoYard.2.2.1 T.x_NoYard.2.2.2) rfl))) pss_nil)
      (pss_cons (ps_fld (pv 0) (pv 1) rfl)
      (pss_cons (ps_fld (pv 0) (pe_lst (pa_cons (pe_tup (pa_cons pe_int (pa_cons (pv 1) pa_nil))) pa_nil)) rfl)
      (pss_one (ps_fld (pv 0) pe_dnewK rfl)))), ?_⟩
    refine ⟨_, rfl, n, rfl, _, rfl, ?_⟩
    cases e : isSz n with
    | false => exact iteT (k2 e)
    | true =>
      refine iteF ?_
      refine ⟨_, rfl, _, rfl, p, _, dx, _, rfl, hp, T.cl, T.a_cells, (by show 0 < 1000; decide), ?_⟩
      refine ⟨_, rfl, (by show 2 ≤ sizeLine; decide), fun t ht => ⟨(by show 1 ≤ sizeLine; decide), fun l hl => ?_⟩⟩
      have npt : p ≠ t := ne_of_none upd_same ht
      have hp1 : ∀ o, (upd (upd H p (.ins (He.ga K "Yard") dx (putF "cells" (.int n) []))) t o) p = some (.ins (He.ga K "Yard") dx (putF "cells" (.int n) [])) := fun o => by rw [upd_ne npt, upd_same]
      have npl : p ≠ l := ne_of_none (hp1 _) hl
      have ntl : t ≠ l := ne_of_none upd_same hl
      have ht0 : H t = none := by rw [upd_ne npt.symm] at ht; exact ht
      have hl0 : H l = none := by rw [upd_ne ntl.symm, upd_ne npl.symm] at hl; exact hl
      refine ⟨_, rfl, p, _, dx, _, rfl, (by rw [upd_ne npl]; exact hp1 _), T.cl, T.a_spare, (by show 1 < 1000; decide), fun d hd => ?_⟩
      have npd : p ≠ d := ne_of_none upd_same hd
      rw [upd_ne npd.symm] at hd
      have nld : l ≠ d := ne_of_none upd_same hd
      rw [upd_ne nld.symm] at hd
      have ntd : t ≠ d := ne_of_none upd_same hd
      rw [upd_ne ntd.symm, upd_ne npd.symm] at hd
      refine ⟨_, rfl, p, _, dx, _, rfl, Eq.trans (upd_ne npd) upd_same, T.cl, T.a_given, (by show 2 < 1000; decide), ?_⟩
      refine k1 e _ d (fun b o hb nb => ?_) hd ⟨dx, l, [.ref t], upd_same, ?_, .cons ⟨t, rfl, ?_⟩ .nil, ?_⟩
      · rw [upd_ne nb, upd_ne (ne_of_none hb hd), upd_ne nb, upd_ne (ne_of_none hb hl0), upd_ne (ne_of_none hb ht0), upd_ne nb]
        exact hb
      · rw [upd_ne npl.symm, upd_ne nld, upd_ne npl.symm, upd_same]
      · rw [upd_ne npt.symm, upd_ne ntd, upd_ne npt.symm, upd_ne ntl, upd_same]
      · rw [upd_ne npd.symm, upd_same]
        rfl
theorem rd_yard {σ : St} {H : Hp} {Q : VK} {i k : Nat} (hv : σ[i]? = some (some (V.int (Bud.pw k)))) (hk : k ≤ 60)
    (k0 : ∀ (H' : Hp) (x d : Addr), Same H H' → H x = none → H d = none → YardT K H' x d (.free : Bud.T k) → Q (.ref x) H') : tMkX "Yard" (spInit K) (fun _ => E0) K (tCons (tVar i) tNil) σ H Q := by
  refine ⟨_, hv, fun x dx nx ndx nex => ⟨x, dx, _, rfl, upd_same, fun _ H2 d hk2 nd2 y2 => ⟨rfl, ?_⟩, fun e => absurd e (by rw [isSz_pw hk]; decide)⟩⟩
  refine k0 H2 x d (fun b o hb => hk2 _ _ ?_ (ne_of_none hb nx)) nx (none_upd (none_upd nd2)) (yardT_new hk y2)
  rw [upd_ne (ne_of_none hb nx), upd_ne (ne_of_none hb ndx)]
  exact hb
/-! #### Yard.free -/
/-- the free pieces: a new list -/
def spFree (K : PySem.W.Frag) : Sp := fun vs H Q _ => ∃ (p d : Addr) (c : Int) (L G : List Bud.Pc), vs = [.ref p] ∧ YardAt K H p d c L G ∧
  ∀ (H' : Hp) (q : Addr) (xs : List V), Same H H' → H q = none → H' q = some (.lst xs) → Prs H' xs L → Q (.ref q) H'
theorem ok_free (T : Txt K mg) : MethOk P w K mg base 1 "Yard" "free" ["self"] (spFree K) := by
  refine mkMeth T.F_Yard_free T.cl T.m_Yard_free bd_Yard_free sc_Yard_free (fun vs H Q E h => ?_) (fun cdv A outer s H vs Q E hr h => ?_)
  · obtain ⟨p, d, c, L, G, rfl, _⟩ := h
    rfl
  · obtain ⟨p, d, c, L, G, rfl, ⟨dx, l, xs, h1, h2, h3, h4⟩, k⟩ := h
    refine ⟨_, pss_one (ps_ret (pe_callTy call_list_of (by rfl) T.n_list (by decide +kernel) (pa_cons (pe_fld (pv 0) rfl) pa_nil))), ?_⟩
    refine ⟨_, rfl, p, _, dx, _, _, rfl, h1, T.cl, T.a_spare, yf_spare _ _ _, l, _, rfl, .inl (SqL.of h2), fun q hq => ?_⟩
    exact k _ q xs (same_new hq) hq upd_same (h3.kept (tups_upd hq))
/-! #### Yard.out -/
/-- the pieces that are out, rising: a new list -/
def spOut (K : PySem.W.Frag) : Sp := fun vs H Q _ => ∃ (p d : Addr) (c : Int) (L G : List Bud.Pc), vs = [.ref p] ∧ YardAt K H p d c L G ∧ (G.map (·.1)).Nodup ∧ G.length ≤ 1000000 ∧
  ∀ (H' : Hp) (q : Addr) (xs : List V) (O : List Bud.Pc), Same H H' → H q = none → H' q = some (.lst xs) → Prs H' xs O → O.Perm G → Bud.Srt O → Q (.ref q) H'
/-- the pieces at the places ks -/
def atKeys (G : List Bud.Pc) (ks : List Int) : List Bud.Pc := ks.map fun a => (a, ((G.find? fun p => decide (p.1 = a)).map (·.2)).getD 0)
theorem find_key {G : List Bud.Pc} (nd : (G.map (·.1)).Nodup) {p : Bud.Pc} (hp : p ∈ G) : ((G.find? fun q => decide (q.1 = p.1)).map (·.2)).getD 0 = p.2 := by
  induction G with
  | nil => cases hp
  | cons q G ih =>
    have ⟨n1, n2⟩ := List.nodup_cons.mp nd
    rcases List.mem_cons.mp hp with rfl | hp
    · rw [List.find?_cons_of_pos (by simp)]
      rfl
    · have hne : ¬ q.1 = p.1 := fun e => n1 (by
        show q.1 ∈ G.map (·.1)
        rw [e]
        exact List.mem_map.mpr ⟨_, hp, rfl⟩)
      rw [List.find?_cons_of_neg (by simpa using hne)]
      exact ih n2 hp
theorem atKeys_self {G : List Bud.Pc} (nd : (G.map (·.1)).Nodup) : atKeys G (G.map (·.1)) = G := by
  unfold atKeys
  rw [List.map_map]
  refine (List.map_congr_left fun p hp => ?_).trans (List.map_id _)
  show (p.1, _) = p
  rw [find_key nd hp]
theorem atKeys_srt (G : List Bud.Pc) {ks : List Int} (h : ks.Pairwise (· ≤ ·)) (nd : ks.Nodup) : Bud.Srt (atKeys G ks) := by
  refine List.pairwise_map.mpr ?_
  have h2 := List.Pairwise.and h nd
  refine h2.imp fun {a b} q => ?_
  unfold Bud.lexle
  have := q.1
  have := q.2
  show a < b ∨ _
  left
  omega
theorem ok_out (T : Txt K mg) : MethOk P w K mg base 1 "Yard" "out" ["self"] (spOut K) := by
  refine mkMeth T.F_Yard_out T.cl T.m_Yard_out bd_Yard_out sc_Yard_out (fun vs H Q E h => ?_) (fun cdv A outer s H vs Q E hr h => ?_)
  · obtain ⟨p, d, c, L, G, rfl, _⟩ := h
    rfl
  · obtain ⟨p, d, c, L, G, rfl, ⟨dx, l, xs, h1, h2, h3, h4⟩, nd, hlen, k⟩ := h
    have nN := sc_Yard_out.nd
    refine ⟨_, pss_one (ps_ret (pe_lc (own := [("at", 1)]) (g := gName 1) (tt := tYes) (by rfl) nN (pi_list (pe_callB (cr_sortD rfl) (by rfl) T.n_sorted (by decide +kernel) (pa_cons (pe_fld (pv 0) rfl) pa_nil))) (blkOk_by (own := [("at", 1)]) (N := ["self", "at"]) (sc := defScope s_Yard_out) (by decide +kernel)) (fun _ _ _ _ _ => pg_name (i := 1) nN rfl (Or.inl rfl))
      (fun _ _ _ _ _ => pts_nil) (fun _ _ _ _ _ => pe_tup (pa_cons (pv 1) (pa_cons (pe_dget (by exact hu_of hr) (show PE _ _ (tFld K (tVar 0) "given") from pe_fld (pv 0) rfl) (pv 1) (fun _ _ => rfl)) pa_nil))))), ?_⟩
    refine ⟨_, rfl, p, _, dx, _, _, rfl, h1, T.cl, T.a_given, yf_given _ _ _, d, _, G.map (·.1), rfl, .inl h4, gk_keys G, fun ks r hperm hle hr0 => ?_⟩
    have ndk : ks.Nodup := hperm.nodup_iff.mpr nd
    have s0 : Same H (upd H r (.lst (ks.map V.int))) := same_new hr0
    refine ⟨r, rfl, ⟨_, SqL.of upd_same⟩, fun D hD => ?_⟩
    have nrD : r ≠ D := ne_of_none upd_same hD
    have hD0 : H D = none := by rw [upd_ne nrD.symm] at hD; exact hD
    refine lc_list (K := K) (a := r) (xs := ks.map V.int) (fun i H' => Same H H' ∧ H' r = some (.lst (ks.map V.int)) ∧ ∃ ys, H' D = some (.lst ys) ∧ Prs H' ys (atKeys G (ks.take i)))
      ⟨fun b o e => by rw [upd_ne (ne_of_none e hD0)]; exact s0 b o e, by rw [upd_ne nrD, upd_same], [], upd_same, .nil⟩ (fun i H' _ h => SqL.of h.2.1) ?_ ?_
    · rintro i y H' hi ⟨s1, hr1, ys, hDl, hys⟩
      rw [List.getElem?_map] at hi
      obtain ⟨a, ha, rfl⟩ : ∃ a, ks[i]? = some a ∧ y = V.int a := by
        cases e : ks[i]? with
        | none => rw [e] at hi; cases hi
        | some a => rw [e] at hi; exact ⟨a, rfl, (Option.some.inj hi).symm⟩
      have hmem : a ∈ G.map (·.1) := hperm.mem_iff.mp (List.mem_of_getElem? ha)
      obtain ⟨g, hg, eg⟩ := List.mem_map.mp hmem
      subst eg
      have hv : valV (gk G) (Sum.inl g.1 : Key) = some (.int g.2) := gk_val nd hg
      refine ⟨rfl, ?_⟩
      refine ⟨_, rfl, _, rfl, p, _, dx, _, _, rfl, s1 _ _ h1, T.cl, T.a_given, yf_given _ _ _, _, rfl, d, .int g.2, rfl, ?_, (by show 2 ≤ sizeLine; decide), fun t ht => ?_⟩
      · rw [← hv]
        exact DGet.k (k := Sum.inl g.1) (s1 _ _ h4)
      have nDt : D ≠ t := ne_of_none hDl ht
      have hlt : ys.length < sizeLine := by
        have e1 := hys.length
        have e2 : (atKeys G (ks.take i)).length ≤ G.length := by
          unfold atKeys
          rw [List.length_map, List.length_take]
          have := hperm.length_eq
          rw [List.length_map] at this
          omega
        rw [sizeLine_eq]
        omega
      refine ⟨ys, by rw [upd_ne nDt]; exact hDl, hlt, fun b o e => ?_, ?_, _, upd_same, ?_⟩
      · rw [upd_ne (ne_of_none e hD0), upd_ne (ne_of_none (s1 _ _ e) ht)]
        exact s1 _ _ e
      · rw [upd_ne nrD, upd_ne (ne_of_none hr1 ht)]
        exact hr1
      · have e3 : atKeys G (ks.take (i + 1)) = atKeys G (ks.take i) ++ [(g.1, g.2)] := by
          unfold atKeys
          rw [List.take_add_one, ha, List.map_append]
          show _ ++ [(g.1, _)] = _
          rw [find_key nd hg]
        rw [e3]
        refine Prs.append ((hys.kept (tups_upd ht)).kept (tups_put (by rw [upd_ne nDt]; exact hDl) (fun xs z => by cases z))) (.cons ⟨t, rfl, ?_⟩ .nil)
        rw [upd_ne nDt.symm, upd_same]
    · rintro H' ⟨s1, hr1, ys, hDl, hys⟩
      rw [List.length_map, List.take_length] at hys
      refine k H' D ys _ s1 hD0 hDl hys ?_ (atKeys_srt G hle ndk)
      have e4 : (atKeys G ks).Perm (atKeys G (G.map (·.1))) := hperm.map _
      rw [atKeys_self nd] at e4
      exact e4
/-! ### what a yard tells, read at once -/
theorem rd_out {σ : St} {H : Hp} {Q : VK} {i : Nat} {p d : Addr} {k : Nat} {t : Bud.T k} (hv : σ[i]? = some (some (V.ref p))) (y : YardT K H p d t) (hlen : (Bud.outs t 0).length ≤ 1000)
    (k0 : ∀ (H' : Hp) (q : Addr) (xs : List V), Same H H' → H q = none → H' q = some (.lst xs) → Prs H' xs (Bud.outs t 0) → Q (.ref q) H') : tM "Yard" "out" (spOut K) K (tVar i) tNil σ H Q := by
  obtain ⟨G, hG, nd, ya⟩ := y.raw
  obtain ⟨dx, fs, ef, nm, _⟩ := ya.at_
  exact ⟨_, hv, p, dx, fs, rfl, ef, nm.out, p, d, _, _, G, rfl, ya, nd, by rw [hG.length_eq]; omega, fun H' q xs O s nq eq pq perm srt => by
    have e : O = Bud.outs t 0 := Bud.srt_uniq srt (Bud.srt_outs t (Bud.zdvd k)) (perm.trans hG)
    subst e
    exact k0 H' q xs s nq eq pq⟩
theorem rd_free {σ : St} {H : Hp} {Q : VK} {i : Nat} {p d : Addr} {k : Nat} {t : Bud.T k} (hv : σ[i]? = some (some (V.ref p))) (y : YardT K H p d t)
    (k0 : ∀ (H' : Hp) (q : Addr) (xs : List V), Same H H' → H q = none → H' q = some (.lst xs) → Prs H' xs (Bud.frees t 0) → Q (.ref q) H') : tM "Yard" "free" (spFree K) K (tVar i) tNil σ H Q := by
  obtain ⟨G, hG, nd, ya⟩ := y.raw
  obtain ⟨dx, fs, ef, nm, _⟩ := ya.at_
  exact ⟨_, hv, p, dx, fs, rfl, ef, nm.free, p, d, _, _, G, rfl, ya, fun H' q xs s nq eq pq => k0 H' q xs s nq eq pq⟩
theorem rd_LL {σ : St} {H : Hp} {Q : VK} {i j : Nat} {p d : Addr} {k : Nat} {t : Bud.T k} (hv : σ[i]? = some (some (V.ref p))) (hv2 : σ[j]? = some (some (V.ref p))) (y : YardT K H p d t) (hlen : (Bud.outs t 0).length ≤ 1000)
    (k0 : ∀ (H' : Hp) (l : Addr), Same H H' → H l = none → IsLL K H' (.ref l) (Bud.outs t 0) (Bud.frees t 0) → Q (.ref l) H') : tLst (tCons (tM "Yard" "out" (spOut K) K (tVar i) tNil) (tCons (tM "Yard" "free" (spFree K) K (tVar j) tNil) tNil)) σ H Q := by
  refine rd_out hv y hlen fun H1 q1 xs s1 n1 e1 p1 => ?_
  refine rd_free hv2 (y.same s1) fun H2 q2 ys s2 n2 e2 p2 => ?_
  refine ⟨(by show 2 ≤ sizeLine; decide), fun l hl => ?_⟩
  have s3 : Same H2 (upd H2 l (.lst [.ref q1, .ref q2])) := same_new hl
  exact k0 _ l ((s1.trans s2).trans s3) (Same.none (s1.trans s2) hl) ⟨l, q1, q2, xs, ys, rfl, upd_same, s3 _ _ (s2 _ _ e1), s3 _ _ e2, (p1.kept (Same.tups s2)).kept (Same.tups s3), p2.kept (Same.tups s3)⟩
theorem rd_LLc {σ : St} {H : Hp} {Q : VK} {i j : Nat} {p d : Addr} {k : Nat} {t : Bud.T k} (hv : σ[i]? = some (some (V.ref p))) (hv2 : σ[j]? = some (some (V.ref p))) (y : YardT K H p d t) (hlen : (Bud.outs t 0).length ≤ 1000)
    (k0 : ∀ (H' : Hp) (l : Addr), Same H H' → H l = none → IsLL K H' (.ref l) (Bud.outs t 0) (Bud.frees t 0) → Q (.ref l) H') : tLst (tCons (tCB (rListOf K) (tCons (tM "Yard" "out" (spOut K) K (tVar i) tNil) tNil)) (tCons (tCB (rListOf K) (tCons (tM "Yard" "free" (spFree K) K (tVar j) tNil) tNil)) tNil)) σ H Q := by
  refine rd_out hv y hlen fun H1 q1 xs s1 n1 e1 p1 => ?_
  refine ⟨q1, xs, rfl, SqL.of e1, fun r1 hr1 => ?_⟩
  have t1 : Same H1 (upd H1 r1 (.lst xs)) := same_new hr1
  refine rd_free hv2 ((y.same s1).same t1) fun H2 q2 ys s2 n2 e2 p2 => ?_
  refine ⟨q2, ys, rfl, SqL.of e2, fun r2 hr2 => ?_⟩
  have t2 : Same H2 (upd H2 r2 (.lst ys)) := same_new hr2
  refine ⟨(by show 2 ≤ sizeLine; decide), fun l hl => ?_⟩
  have s3 : Same (upd H2 r2 (.lst ys)) (upd (upd H2 r2 (.lst ys)) l (.lst [.ref r1, .ref r2])) := same_new hl
  have sA := t1.trans (s2.trans (t2.trans s3))
  exact k0 _ l (s1.trans sA) (Same.none (s1.trans (t1.trans (s2.trans t2))) hl) ⟨l, r1, r2, xs, ys, rfl, upd_same, s3 _ _ (t2 _ _ (s2 _ _ upd_same)), s3 _ _ upd_same, p1.kept (Same.tups sA), (p2.kept (Same.tups t2)).kept (Same.tups s3)⟩
/-! #### Yard.owner -/
/-- whose cell it is -/
def ownerOf (O : List Bud.Pc) (c : Int) : Option Int := (O.find? fun p => decide (p.1 ≤ c ∧ c < p.1 + p.2)).map (·.1)
def optV : Option Int → V
  | none => .non
  | some i => .int i
theorem ownerOf_take {O : List Bud.Pc} {i : Nat} {p : Bud.Pc} {c : Int} (h : O[i]? = some p) (hn : ∀ q ∈ O.take i, ¬ (q.1 ≤ c ∧ c < q.1 + q.2)) (hp : p.1 ≤ c ∧ c < p.1 + p.2) : ownerOf O c = some p.1 := by
  have e : O = O.take i ++ p :: O.drop (i + 1) := by
    have hl := (List.getElem?_eq_some_iff.mp h).1
    have h1 : O.drop i = p :: O.drop (i + 1) := by
      rw [List.drop_eq_getElem_cons hl]
      congr 1
      rw [List.getElem?_eq_getElem hl] at h
      exact Option.some.inj h
    rw [← h1, List.take_append_drop]
  unfold ownerOf
  rw [e, List.find?_append]
  have h2 : (O.take i).find? (fun p => decide (p.1 ≤ c ∧ c < p.1 + p.2)) = none := List.find?_eq_none.mpr fun q hq => by simpa using hn q hq
  rw [h2, List.find?_cons_of_pos (by simpa using hp)]
  rfl
theorem ownerOf_none {O : List Bud.Pc} {c : Int} (hn : ∀ q ∈ O, ¬ (q.1 ≤ c ∧ c < q.1 + q.2)) : ownerOf O c = none := by
  unfold ownerOf
  rw [List.find?_eq_none.mpr fun q hq => by simpa using hn q hq]
  rfl
def spOwner (K : PySem.W.Frag) : Sp := fun vs H Q _ => ∃ (p d : Addr) (c : Int) (L G : List Bud.Pc) (z : Int), vs = [.ref p, .int z] ∧ YardAt K H p d c L G ∧ (G.map (·.1)).Nodup ∧ G.length ≤ 1000000 ∧
  ∀ (H' : Hp) (O : List Bud.Pc), Same H H' → O.Perm G → Bud.Srt O → Q (optV (ownerOf O z)) H'
theorem ok_owner (T : Txt K mg) : MethOk P w K mg base 2 "Yard" "owner" ["self", "cell"] (spOwner K) := by
  refine mkMeth T.F_Yard_owner T.cl T.m_Yard_owner bd_Yard_owner sc_Yard_owner (fun vs H Q E h => ?_) (fun cdv A outer s H vs Q E hr h => ?_)
  · obtain ⟨p, d, c, L, G, z, rfl, _⟩ := h
    rfl
  · obtain ⟨p, d, c, L, G, z, rfl, y, ndG, hlen, k⟩ := h
    have hr1 : Room 1 _ := hr
    have nd := sc_Yard_owner.nd
    obtain ⟨dx, fs, ef, nm, _⟩ := y.at_
    refine ⟨_, pss_cons (ps_for (passes_of rfl) rfl (pi_list (pe_m0 (pv 0) (ok_out T) hr1)) (pg_name (i := 2) nd rfl (Or.inl rfl))
        (pss_one (ps_if (PW.pt (pw_and (pt_cmpR op_le (pe_p0 (pv 2)) (pv 1) (nomark _)) (pw_and1 (pt_cmpR op_lt (pv 1) (pe_op op_add (pe_p0 (pv 2)) (pe_p1 (pv 2))) (nomark _))))) (pss_one (ps_ret (pe_p0 (pv 2)))) pss_nil)))
      (pss_one (ps_ret pe_non)), ?_⟩
    refine ⟨_, rfl, p, dx, fs, rfl, ef, nm.out, p, d, c, L, G, rfl, y, ndG, hlen, fun H1 q xs O s1 nq eq pq perm srt => ?_⟩
    refine ⟨q, rfl, ⟨_, SqL.of eq⟩, for_list (K := K) (a := q) (xs := xs) (fun i σ H' => H' = H1 ∧ ∃ v, σ = [some (.ref p), some (.int z), v] ∧ ∀ g ∈ O.take i, ¬ (g.1 ≤ z ∧ z < g.1 + g.2))
      ⟨rfl, none, rfl, fun g hg => by cases hg⟩ (fun i σ H' _ h => by rw [h.1]; exact SqL.of eq) ?_ ?_⟩
    · rintro i x σ H' hi ⟨rfl, v, rfl, hn⟩
      obtain ⟨g, hg, hx⟩ := pq.get hi
      have step : ¬ (g.1 ≤ z ∧ z < g.1 + g.2) → ∀ g' ∈ O.take (i + 1), ¬ (g'.1 ≤ z ∧ z < g'.1 + g'.2) := fun hno g' hg' => by
        rw [List.take_add_one, hg] at hg'
        rcases List.mem_append.mp hg' with q | q
        · exact hn g' q
        · rw [List.mem_singleton.mp q]
          exact hno
      refine ⟨_, rfl, g, hx, _, rfl, _, _, rfl, rfl, _, rfl, ?_⟩
      refine ite2 (fun c1 => ?_) (fun c1 => ?_)
      · have c1' : g.1 ≤ z := by simpa using c1
        refine ⟨_, rfl, _, rfl, g, hx, _, rfl, g, hx, _, _, rfl, rfl, _, _, rfl, rfl, _, rfl, ?_⟩
        refine ite2 (fun c2 => ?_) (fun c2 => ?_)
        · have c2' : z < g.1 + g.2 := by simpa using c2
          refine ⟨_, rfl, g, hx, ?_⟩
          have := k H' O s1 perm srt
          rw [ownerOf_take hg hn ⟨c1', c2'⟩] at this
          exact this
        · have c2' : ¬ z < g.1 + g.2 := by simpa using c2
          exact ⟨rfl, _, rfl, step fun q => c2' q.2⟩
      · have c1' : ¬ g.1 ≤ z := by simpa using c1
        exact ⟨rfl, _, rfl, step fun q => c1' q.1⟩
    · rintro σ H' ⟨rfl, v, rfl, hn⟩
      rw [pq.length, List.take_length] at hn
      have := k H' O s1 perm srt
      rw [ownerOf_none hn] at this
      exact this
/-! #### Yard.give -/
/-- a piece is given out -/
def spGive (K : PySem.W.Frag) : Sp := fun vs H Q E => ∃ (p d : Addr) (k : Nat) (t : Bud.T k) (w : Int), vs = [.ref p, .int w] ∧ YardT K H p d t ∧ (Bud.outs t 0).length ≤ 1000 ∧
  (w < 1 → E (.ref (He.ga K "NoWish")) none H) ∧ (1 ≤ w → Bud.bestOf (Bud.frees t 0) w = none → E (.ref (He.ga K "NoRoom")) none H) ∧
  (1 ≤ w → ∀ a S, Bud.bestOf (Bud.frees t 0) w = some (a, S) → ∀ (H' : Hp) (t' : Bud.T k), Kp p d H H' → YardT K H' p d t' → (∀ l, Spare H' p l → H l = none) → (Bud.outs t' 0).Perm ((a, Bud.fit w) :: Bud.outs t 0) → Q (.int a) H')
theorem ok_give (T : Txt K mg) : MethOk P w K mg base 2 "Yard" "give" ["self", "want"] (spGive K) := by
  refine mkMeth T.F_Yard_give T.cl T.m_Yard_give bd_Yard_give sc_Yard_give (fun vs H Q E h => ?_) (fun cdv A outer s H vs Q E hr h => ?_)
  · obtain ⟨p, d, k, t, w, rfl, _⟩ := h
    rfl
  · obtain ⟨p, d, k, t, w, rfl, y, hlen, k1, k2, k3⟩ := h
    have hY := y.has
    obtain ⟨hk, hc, G, hG, dx, l, xs, h1, h2, h3, h4⟩ := id y
    have nd := sc_Yard_give.nd
    have hr1 : Room 1 _ := hr
    have hfl := frees_1000 hk hc hlen
    refine ⟨_, pss_cons (ps_if (pt_cmpR op_lt (pv 1) pe_int (nomark _)) (pss_one (ps_raise rfl (takes_of rfl rfl rfl rfl) (pmk_own PySem.F.excBase_ValueError T.x_NoWish.1 T.g_NoWish T.x_NoWish.2.1 (raises_own T.x_NoWish.2.2.1 T.x_NoWish.2.2.2) rfl))) pss_nil)
      (pss_cons (ps_set (i := 2) nd rfl (Or.inl rfl) (pe_cd (ok_best_of T) hr1 (pa_cons (pe_fld (pv 0) rfl) (pa_cons (pv 1) pa_nil))))
      (pss_cons (ps_if (pt_cmpR op_isN (pv 2) pe_non (nomark _)) (pss_one (ps_raise rfl (takes_of rfl rfl rfl rfl) (pmk_own PySem.F.excBase_ValueError T.x_NoRoom.1 T.g_NoRoom T.x_NoRoom.2.1 (raises_own T.x_NoRoom.2.2.1 T.x_NoRoom.2.2.2) rfl))) pss_nil)
      (pss_cons (ps_set (i := 3) nd rfl (Or.inl rfl) (pe_p0 (pv 2)))
      (pss_cons (ps_set (i := 4) nd rfl (Or.inl rfl) (pe_cd (ok_cut_down T) hr1 (pa_cons (pe_cd (ok_without T) hr1 (pa_cons (pe_fld (pv 0) rfl) (pa_cons (pv 2) pa_nil))) (pa_cons (pv 3) (pa_cons (pe_p1 (pv 2)) (pa_cons (pv 1) pa_nil))))))
      (pss_cons (ps_fld (pv 0) (pe_ix ix_tup (pv 4) pe_int (fun _ _ => rfl)) rfl)
      (pss_cons (ps_dput (hu_of hr) (pe_fld (pv 0) rfl) (pv 3) (pe_ix ix_tup (pv 4) pe_int (fun _ _ => rfl)) rfl)
      (pss_one (ps_ret (pv 3))))))))), ?_⟩
    refine ⟨_, rfl, _, _, rfl, rfl, _, rfl, ?_⟩
    refine ite2 (fun c => ?_) (fun c => ?_)
    · exact k1 (by simpa using c)
    have hw : 1 ≤ w := by
      have : ¬ w < 1 := by simpa using c
      omega
    refine ⟨_, rfl, p, _, dx, _, _, rfl, h1, T.cl, T.a_spare, yf_spare _ _ _, _, rfl, l, xs, Bud.frees t 0, w, rfl, SqL.of h2, h3, fun x b hb hx => ?_, fun hb => ?_⟩
    · obtain ⟨a, S⟩ := b
      obtain ⟨tx, rfl, etx⟩ := id hx
      refine ⟨_, rfl, rfl, _, rfl, iteF ?_⟩
      refine ⟨_, rfl, (a, S), hx, ?_⟩
      have hmem := Bud.best_mem hb
      obtain ⟨_, _, m, hm, eS, _⟩ := Bud.in_frees t (Bud.zdvd k) hmem
      have eS' : S = Bud.pw m := eS
      subst eS'
      refine ⟨_, rfl, p, _, dx, _, _, rfl, h1, T.cl, T.a_spare, yf_spare _ _ _, _, rfl, l, xs, Bud.frees t 0, .ref tx, (a, Bud.pw m), rfl, SqL.of h2, h3, hx, by omega, fun q ys hq hys => ?_⟩
      have s1 : Same H (upd H q (.lst ys)) := same_new hq
      refine ⟨_, rfl, _, rfl, (a, Bud.pw m), hx.kept (tups_upd hq), _, rfl, q, ys, _, a, w, m, rfl, SqL.of upd_same, hys.kept (tups_upd hq), ?_, by omega, hw, fun H2 q2 r zs M s2 nq2 nr hq2 hr2 hzs hperm hsrt => ?_⟩
      · exact Nat.le_trans (List.length_filter_le _ _) (by omega)
      have s02 := s1.trans s2
      have hwm : w ≤ Bud.pw m := (Bud.best_some hb).1
      have ecut : cutE w m = Bud.fe w := by
        have := Bud.fe_le hwm
        unfold cutE
        omega
      rw [ecut] at hq2 hperm
      obtain ⟨t', c', f', e1, e2⟩ := Bud.give_tree hc (Bud.zdvd k) hmem (Bud.fe_le hwm)
      have eM : M = Bud.frees t' 0 := Bud.srt_uniq hsrt (Bud.srt_frees t' (Bud.zdvd k)) (hperm.trans e1.symm)
      have npd : p ≠ d := hY.ne
      have npr : p ≠ r := ne_of (s02 _ _ h1) hr2 (by intro z; cases z)
      have ndr : d ≠ r := ne_of (s02 _ _ h4) hr2 (by intro z; cases z)
      have npq : p ≠ q2 := ne_of (s02 _ _ h1) hq2 (by intro z; cases z)
      refine ⟨_, rfl, q2, _, 0, _, rfl, rfl, SqT.of hq2, rfl, _, rfl, p, _, dx, _, rfl, s02 _ _ h1, T.cl, T.a_spare, yf_len _ _ _, ?_⟩
      rw [yf_put]
      have hq3 : ∀ o, (upd H2 p o) q2 = some (.tup [.ref r, .int (Bud.pw (Bud.fe w))]) := fun o => by rw [upd_ne npq.symm]; exact hq2
      refine ⟨_, rfl, q2, _, 1, _, rfl, rfl, SqT.of (hq3 _), rfl, _, rfl, p, _, dx, _, _, rfl, upd_same, T.cl, T.a_given, yf_given _ _ _, _, rfl, d, _, rfl, DPut.k (k := Sum.inl a) (by rw [upd_ne npd.symm]; exact s02 _ _ h4) ?_, ?_⟩
      · rw [gk_len, hG.length_eq, sizeLine_eq]
        omega
      have hfresh : ∀ g ∈ G, g.1 ≠ a := fun g hg e => by
        have ho : g ∈ Bud.outs t 0 := hG.mem_iff.mp hg
        have hap := Bud.apart t (Bud.zdvd k) g ho _ hmem
        have p1 := (Bud.in_outs t (Bud.zdvd k) ho).pos
        have p2 := Bud.pw_pos m
        unfold Bud.Ahead at hap
        simp only at hap
        omega
      rw [gk_new (gk_none hfresh)]
      refine ⟨_, rfl, k3 hw a _ hb _ t' (fun b o hb' nbp nbd => ?_) ⟨hk, c', G ++ [(a, Bud.fit w)], ?_, dx, r, zs, ?_, ?_, ?_, upd_same⟩ (fun l' hs => by rw [hs.eq (by rw [upd_ne npd, upd_same])]; exact none_upd nr) e2⟩
      · rw [upd_ne nbd, upd_ne nbp]
        exact s02 _ _ hb'
      · refine (List.perm_append_comm (l₁ := G) (l₂ := [(a, Bud.fit w)])).trans ?_
        exact (List.Perm.cons _ hG).trans e2.symm
      · rw [upd_ne npd, upd_same]
      · rw [upd_ne ndr.symm, upd_ne npr.symm]
        exact hr2
      · rw [eM] at hzs
        exact hzs.kept ((tups_put (s02 _ _ h1) (fun xs z => by cases z)).trans (tups_put (by rw [upd_ne npd.symm]; exact s02 _ _ h4) (fun xs z => by cases z)))
    · exact ⟨_, rfl, rfl, _, rfl, iteT (k2 hw hb)⟩
theorem okN_give (T : Txt K mg) : MethN P w K mg base 2 "Yard" "give" ["self", "want"] (spGive K) := by
  refine mkMethN T.F_Yard_give T.cl T.m_Yard_give bd_Yard_give sc_Yard_give (fun vs H Q E h => ?_) (fun cdv A outer s H vs Q E hr h => ?_)
  · obtain ⟨p, d, k, t, w, rfl, _⟩ := h
    rfl
  · obtain ⟨p, d, k, t, w, rfl, y, hlen, k1, k2, k3⟩ := h
    have hY := y.has
    obtain ⟨hk, hc, G, hG, dx, l, xs, h1, h2, h3, h4⟩ := id y
    have nd := sc_Yard_give.nd
    have hr1 : Room 1 _ := hr
    have hfl := frees_1000 hk hc hlen
    refine ⟨_, pss_cons (ps_if (pt_cmpR op_lt (pv 1) pe_int (nomark _)) (pss_one (L2N.ps_raise rfl (L2N.takes_of rfl rfl rfl rfl) (L2N.pmk_own PySem.F.excBase_ValueError T.x_NoWish.1 T.g_NoWish T.x_NoWish.2.1 (raises_own T.x_NoWish.2.2.1 T.x_NoWish.2.2.2) rfl))) pss_nil)
      (pss_cons (ps_set (i := 2) nd rfl (Or.inl rfl) (pe_cd (ok_best_of T) hr1 (pa_cons (pe_fld (pv 0) rfl) (pa_cons (pv 1) pa_nil))))
      (pss_cons (ps_if (pt_cmpR op_isN (pv 2) pe_non (nomark _)) (pss_one (L2N.ps_raise rfl (L2N.takes_of rfl rfl rfl rfl) (L2N.pmk_own PySem.F.excBase_ValueError T.x_NoRoom.1 T.g_NoRoom T.x_NoRoom.2.1 (raises_own T.x_NoRoom.2.2.1 T.x_NoRoom.2.2.2) rfl))) pss_nil)
      (pss_cons (ps_set (i := 3) nd rfl (Or.inl rfl) (pe_p0 (pv 2)))
      (pss_cons (ps_set (i := 4) nd rfl (Or.inl rfl) (pe_cd (ok_cut_down T) hr1 (pa_cons (pe_cd (ok_without T) hr1 (pa_cons (pe_fld (pv 0) rfl) (pa_cons (pv 2) pa_nil))) (pa_cons (pv 3) (pa_cons (pe_p1 (pv 2)) (pa_cons (pv 1) pa_nil))))))
      (pss_cons (ps_fld (pv 0) (pe_ix ix_tup (pv 4) pe_int (fun _ _ => rfl)) rfl)
      (pss_cons (ps_dput (hu_of hr) (pe_fld (pv 0) rfl) (pv 3) (pe_ix ix_tup (pv 4) pe_int (fun _ _ => rfl)) rfl)
      (pss_one (ps_ret (pv 3))))))))), ?_⟩
    refine ⟨_, rfl, _, _, rfl, rfl, _, rfl, ?_⟩
    refine ite2 (fun c => ?_) (fun c => ?_)
    · exact k1 (by simpa using c)
    have hw : 1 ≤ w := by
      have : ¬ w < 1 := by simpa using c
      omega
    refine ⟨_, rfl, p, _, dx, _, _, rfl, h1, T.cl, T.a_spare, yf_spare _ _ _, _, rfl, l, xs, Bud.frees t 0, w, rfl, SqL.of h2, h3, fun x b hb hx => ?_, fun hb => ?_⟩
    · obtain ⟨a, S⟩ := b
      obtain ⟨tx, rfl, etx⟩ := id hx
      refine ⟨_, rfl, rfl, _, rfl, iteF ?_⟩
      refine ⟨_, rfl, (a, S), hx, ?_⟩
      have hmem := Bud.best_mem hb
      obtain ⟨_, _, m, hm, eS, _⟩ := Bud.in_frees t (Bud.zdvd k) hmem
      have eS' : S = Bud.pw m := eS
      subst eS'
      refine ⟨_, rfl, p, _, dx, _, _, rfl, h1, T.cl, T.a_spare, yf_spare _ _ _, _, rfl, l, xs, Bud.frees t 0, .ref tx, (a, Bud.pw m), rfl, SqL.of h2, h3, hx, by omega, fun q ys hq hys => ?_⟩
      have s1 : Same H (upd H q (.lst ys)) := same_new hq
      refine ⟨_, rfl, _, rfl, (a, Bud.pw m), hx.kept (tups_upd hq), _, rfl, q, ys, _, a, w, m, rfl, SqL.of upd_same, hys.kept (tups_upd hq), ?_, by omega, hw, fun H2 q2 r zs M s2 nq2 nr hq2 hr2 hzs hperm hsrt => ?_⟩
      · exact Nat.le_trans (List.length_filter_le _ _) (by omega)
      have s02 := s1.trans s2
      have hwm : w ≤ Bud.pw m := (Bud.best_some hb).1
      have ecut : cutE w m = Bud.fe w := by
        have := Bud.fe_le hwm
        unfold cutE
        omega
      rw [ecut] at hq2 hperm
      obtain ⟨t', c', f', e1, e2⟩ := Bud.give_tree hc (Bud.zdvd k) hmem (Bud.fe_le hwm)
      have eM : M = Bud.frees t' 0 := Bud.srt_uniq hsrt (Bud.srt_frees t' (Bud.zdvd k)) (hperm.trans e1.symm)
      have npd : p ≠ d := hY.ne
      have npr : p ≠ r := ne_of (s02 _ _ h1) hr2 (by intro z; cases z)
      have ndr : d ≠ r := ne_of (s02 _ _ h4) hr2 (by intro z; cases z)
      have npq : p ≠ q2 := ne_of (s02 _ _ h1) hq2 (by intro z; cases z)
      refine ⟨_, rfl, q2, _, 0, _, rfl, rfl, SqT.of hq2, rfl, _, rfl, p, _, dx, _, rfl, s02 _ _ h1, T.cl, T.a_spare, yf_len _ _ _, ?_⟩
      rw [yf_put]
      have hq3 : ∀ o, (upd H2 p o) q2 = some (.tup [.ref r, .int (Bud.pw (Bud.fe w))]) := fun o => by rw [upd_ne npq.symm]; exact hq2
      refine ⟨_, rfl, q2, _, 1, _, rfl, rfl, SqT.of (hq3 _), rfl, _, rfl, p, _, dx, _, _, rfl, upd_same, T.cl, T.a_given, yf_given _ _ _, _, rfl, d, _, rfl, DPut.k (k := Sum.inl a) (by rw [upd_ne npd.symm]; exact s02 _ _ h4) ?_, ?_⟩
      · rw [gk_len, hG.length_eq, sizeLine_eq]
        omega
      have hfresh : ∀ g ∈ G, g.1 ≠ a := fun g hg e => by
        have ho : g ∈ Bud.outs t 0 := hG.mem_iff.mp hg
        have hap := Bud.apart t (Bud.zdvd k) g ho _ hmem
        have p1 := (Bud.in_outs t (Bud.zdvd k) ho).pos
        have p2 := Bud.pw_pos m
        unfold Bud.Ahead at hap
        simp only at hap
        omega
      rw [gk_new (gk_none hfresh)]
      refine ⟨_, rfl, k3 hw a _ hb _ t' (fun b o hb' nbp nbd => ?_) ⟨hk, c', G ++ [(a, Bud.fit w)], ?_, dx, r, zs, ?_, ?_, ?_, upd_same⟩ (fun l' hs => by rw [hs.eq (by rw [upd_ne npd, upd_same])]; exact none_upd nr) e2⟩
      · rw [upd_ne nbd, upd_ne nbp]
        exact s02 _ _ hb'
      · refine (List.perm_append_comm (l₁ := G) (l₂ := [(a, Bud.fit w)])).trans ?_
        exact (List.Perm.cons _ hG).trans e2.symm
      · rw [upd_ne npd, upd_same]
      · rw [upd_ne ndr.symm, upd_ne npr.symm]
        exact hr2
      · rw [eM] at hzs
        exact hzs.kept ((tups_put (s02 _ _ h1) (fun xs z => by cases z)).trans (tups_put (by rw [upd_ne npd.symm]; exact s02 _ _ h4) (fun xs z => by cases z)))
    · exact ⟨_, rfl, rfl, _, rfl, iteT (k2 hw hb)⟩
/-! #### Yard.take_back -/
/-- a piece comes back -/
def spTake (K : PySem.W.Frag) : Sp := fun vs H Q E => ∃ (p d : Addr) (k : Nat) (t : Bud.T k) (a : Int), vs = [.ref p, .int a] ∧ YardT K H p d t ∧ (Bud.outs t 0).length ≤ 1000 ∧
  ((∀ g ∈ Bud.outs t 0, g.1 ≠ a) → E (.ref (He.ga K "NotOut")) none H) ∧
  (∀ s, (a, s) ∈ Bud.outs t 0 → ∀ (H' : Hp) (t' : Bud.T k), Kp p d H H' → YardT K H' p d t' → (∀ l, Spare H' p l → H l = none) → (Bud.outs t 0).Perm ((a, s) :: Bud.outs t' 0) → Q (.int s) H')
theorem filter_key {G R : List Bud.Pc} {a s : Int} (h : G.Perm ((a, s) :: R)) (nd : (G.map (·.1)).Nodup) : (G.filter fun p => decide (p.1 ≠ a)).Perm R := by
  have h1 := h.filter fun p => decide (p.1 ≠ a)
  rw [List.filter_cons_of_neg (by simp)] at h1
  have nd2 : (((a, s) :: R).map (·.1)).Nodup := (h.map (·.1)).nodup_iff.mp nd
  have ⟨n1, _⟩ := List.nodup_cons.mp nd2
  have e : R.filter (fun p => decide (p.1 ≠ a)) = R := List.filter_eq_self.mpr fun q hq => decide_eq_true fun e => n1 (by
    show a ∈ R.map (·.1)
    rw [← e]
    exact List.mem_map.mpr ⟨_, hq, rfl⟩)
  rw [e] at h1
  exact h1
theorem ok_take_back (T : Txt K mg) : MethOk P w K mg base 3 "Yard" "take_back" ["self", "at"] (spTake K) := by
  refine mkMeth T.F_Yard_take_back T.cl T.m_Yard_take_back bd_Yard_take_back sc_Yard_take_back (fun vs H Q E h => ?_) (fun cdv A outer s H vs Q E hr h => ?_)
  · obtain ⟨p, d, k, t, a, rfl, _⟩ := h
    rfl
  · obtain ⟨p, d, k, t, a, rfl, y, hlen, k1, k2⟩ := h
    have hY := y.has
    obtain ⟨hk, hc, G, hG, dx, l, xs, h1, h2, h3, h4⟩ := id y
    have nd := sc_Yard_take_back.nd
    have hr2 : Room 2 _ := hr
    have hfl := frees_1000 hk hc hlen
    have ndk := keys_nd hG
    refine ⟨_, pss_cons (ps_if (pt_cmp (pc_dnotin (hu_of hr) (pv 1) (pe_fld (pv 0) rfl))) (pss_one (ps_raise rfl (takes_of rfl rfl rfl rfl) (pmk_own PySem.F.excBase_ValueError T.x_NotOut.1 T.g_NotOut T.x_NotOut.2.1 (raises_own T.x_NotOut.2.2.1 T.x_NotOut.2.2.2) rfl))) pss_nil)
      (pss_cons (ps_set (i := 2) nd rfl (Or.inl rfl) (pe_dpop1 (pe_fld (pv 0) rfl) (pv 1) ⟨rfl, rfl, rfl, rfl⟩))
      (pss_cons (ps_fld (pv 0) (pe_cd (ok_put_back T) hr2 (pa_cons (pe_fld (pv 0) rfl) (pa_cons (pv 1) (pa_cons (pv 2) pa_nil)))) rfl)
      (pss_one (ps_ret (pv 2))))), ?_⟩
    refine ⟨_, rfl, _, rfl, p, _, dx, _, _, rfl, h1, T.cl, T.a_given, yf_given _ _ _, d, _, rfl, DGet.k (k := Sum.inl a) h4, _, rfl, ?_⟩
    cases e : valV (gk G) (Sum.inl a : Key) with
    | none =>
      refine iteT (k1 fun g hg e2 => ?_)
      have hg' : (a, g.2) ∈ G := by
        rw [← e2]
        exact hG.mem_iff.mpr hg
      rw [gk_val ndk hg'] at e
      cases e
    | some v =>
      obtain ⟨s, rfl, hs⟩ := gk_some e
      have ho : (a, s) ∈ Bud.outs t 0 := hG.mem_iff.mp hs
      refine iteF ?_
      refine ⟨_, rfl, p, _, dx, _, _, rfl, h1, T.cl, T.a_given, yf_given _ _ _, d, rfl, .inl ⟨_, .inl h4⟩, _, rfl, _, Sum.inl a, _, h4, rfl, e, ?_⟩
      rw [gk_drop]
      have npd : p ≠ d := hY.ne
      have nld : l ≠ d := ne_of h2 h4 (by intro z; cases z)
      obtain ⟨_, _, j, hj, eS, _⟩ := Bud.in_outs t (Bud.zdvd k) ho
      have eS' : s = Bud.pw j := eS
      subst eS'
      have kd : TupKept H (upd H d (.dK (gk (G.filter fun p => decide (p.1 ≠ a))))) := tups_put h4 (fun xs z => by cases z)
      refine ⟨_, rfl, p, _, dx, _, _, rfl, by rw [upd_ne npd]; exact h1, T.cl, T.a_spare, yf_spare _ _ _, _, rfl, _, rfl, l, xs, Bud.frees t 0, a, _, rfl, SqL.of (by rw [upd_ne nld]; exact h2), h3.kept kd, by omega, ⟨Bud.pw_pos j, Bud.pw_le (by omega)⟩, frees_sz hk, fun H1 r ys M s1 nr hr1 hys hperm hsrt => ?_⟩
      have eM : M = Bud.frees (Bud.back t 0 a) 0 := Bud.srt_uniq hsrt (Bud.srt_frees _ (Bud.zdvd k)) (hperm.trans (Bud.back_tree hc ho).symm)
      have hp1 : H1 p = some (.ins (He.ga K "Yard") dx (yf (Bud.pw k) l d)) := s1 _ _ (by rw [upd_ne npd]; exact h1)
      have hd1 : H1 d = some (.dK (gk (G.filter fun p => decide (p.1 ≠ a)))) := s1 _ _ upd_same
      have npr : p ≠ r := ne_of hp1 hr1 (by intro z; cases z)
      refine ⟨_, rfl, p, _, dx, _, rfl, hp1, T.cl, T.a_spare, yf_len _ _ _, ?_⟩
      rw [yf_put]
      refine ⟨_, rfl, k2 _ ho _ (Bud.back t 0 a) (fun b o hb nbp nbd => ?_) ⟨hk, Bud.back_can t 0 a hc, _, filter_key (hG.trans (Bud.back_outs t (Bud.zdvd k) ho)) ndk, dx, r, ys, upd_same, ?_, ?_, ?_⟩ (fun l' hs => by rw [hs.eq upd_same]; exact none_upd nr) (Bud.back_outs t (Bud.zdvd k) ho)⟩
      · rw [upd_ne nbp]
        exact s1 _ _ (by rw [upd_ne nbd]; exact hb)
      · rw [upd_ne npr.symm]
        exact hr1
      · rw [eM] at hys
        exact hys.kept (tups_put hp1 (fun xs z => by cases z))
      · rw [upd_ne npd.symm]
        exact hd1
theorem okH_take_back (T : Txt K mg) : MethH P w K mg base 3 "Yard" "take_back" ["self", "at"] (spTake K) := by
  refine mkMethH T.F_Yard_take_back T.cl T.m_Yard_take_back bd_Yard_take_back sc_Yard_take_back (fun vs H Q E h => ?_) (fun cdv A outer s H vs Q E pp hot hr h => ?_)
  · obtain ⟨p, d, k, t, a, rfl, _⟩ := h
    rfl
  · obtain ⟨p, d, k, t, a, rfl, y, hlen, k1, k2⟩ := h
    have hY := y.has
    obtain ⟨hk, hc, G, hG, dx, l, xs, h1, h2, h3, h4⟩ := id y
    have nd := sc_Yard_take_back.nd
    have hr2 : L2H.RoomH 2 _ := hr
    have hfl := frees_1000 hk hc hlen
    have ndk := keys_nd hG
    refine ⟨_, pss_cons (ps_if (pt_cmp (pc_dnotin (huH1 hr) (pv 1) (pe_fld (pv 0) rfl))) (pss_one (L2H.ps_raiseH hot (takes_of rfl rfl rfl rfl) (L2N.pmk_own PySem.F.excBase_ValueError T.x_NotOut.1 T.g_NotOut T.x_NotOut.2.1 (raises_own T.x_NotOut.2.2.1 T.x_NotOut.2.2.2) rfl))) pss_nil)
      (pss_cons (ps_set (i := 2) nd rfl (Or.inl rfl) (pe_dpop1 (pe_fld (pv 0) rfl) (pv 1) ⟨rfl, rfl, rfl, rfl⟩))
      (pss_cons (ps_fld (pv 0) (pe_dH hot (okH_put_back T) hr2 (pa_cons (pe_fld (pv 0) rfl) (pa_cons (pv 1) (pa_cons (pv 2) pa_nil)))) rfl)
      (pss_one (ps_ret (pv 2))))), ?_⟩
    refine ⟨_, rfl, _, rfl, p, _, dx, _, _, rfl, h1, T.cl, T.a_given, yf_given _ _ _, d, _, rfl, DGet.k (k := Sum.inl a) h4, _, rfl, ?_⟩
    cases e : valV (gk G) (Sum.inl a : Key) with
    | none =>
      refine iteT (k1 fun g hg e2 => ?_)
      have hg' : (a, g.2) ∈ G := by
        rw [← e2]
        exact hG.mem_iff.mpr hg
      rw [gk_val ndk hg'] at e
      cases e
    | some v =>
      obtain ⟨s, rfl, hs⟩ := gk_some e
      have ho : (a, s) ∈ Bud.outs t 0 := hG.mem_iff.mp hs
      refine iteF ?_
      refine ⟨_, rfl, p, _, dx, _, _, rfl, h1, T.cl, T.a_given, yf_given _ _ _, d, rfl, .inl ⟨_, .inl h4⟩, _, rfl, _, Sum.inl a, _, h4, rfl, e, ?_⟩
      rw [gk_drop]
      have npd : p ≠ d := hY.ne
      have nld : l ≠ d := ne_of h2 h4 (by intro z; cases z)
      obtain ⟨_, _, j, hj, eS, _⟩ := Bud.in_outs t (Bud.zdvd k) ho
      have eS' : s = Bud.pw j := eS
      subst eS'
      have kd : TupKept H (upd H d (.dK (gk (G.filter fun p => decide (p.1 ≠ a))))) := tups_put h4 (fun xs z => by cases z)
      refine ⟨_, rfl, p, _, dx, _, _, rfl, by rw [upd_ne npd]; exact h1, T.cl, T.a_spare, yf_spare _ _ _, _, rfl, _, rfl, l, xs, Bud.frees t 0, a, _, rfl, SqL.of (by rw [upd_ne nld]; exact h2), h3.kept kd, by omega, ⟨Bud.pw_pos j, Bud.pw_le (by omega)⟩, frees_sz hk, fun H1 r ys M s1 nr hr1 hys hperm hsrt => ?_⟩
      have eM : M = Bud.frees (Bud.back t 0 a) 0 := Bud.srt_uniq hsrt (Bud.srt_frees _ (Bud.zdvd k)) (hperm.trans (Bud.back_tree hc ho).symm)
      have hp1 : H1 p = some (.ins (He.ga K "Yard") dx (yf (Bud.pw k) l d)) := s1 _ _ (by rw [upd_ne npd]; exact h1)
      have hd1 : H1 d = some (.dK (gk (G.filter fun p => decide (p.1 ≠ a)))) := s1 _ _ upd_same
      have npr : p ≠ r := ne_of hp1 hr1 (by intro z; cases z)
      refine ⟨_, rfl, p, _, dx, _, rfl, hp1, T.cl, T.a_spare, yf_len _ _ _, ?_⟩
      rw [yf_put]
      refine ⟨_, rfl, k2 _ ho _ (Bud.back t 0 a) (fun b o hb nbp nbd => ?_) ⟨hk, Bud.back_can t 0 a hc, _, filter_key (hG.trans (Bud.back_outs t (Bud.zdvd k) ho)) ndk, dx, r, ys, upd_same, ?_, ?_, ?_⟩ (fun l' hs => by rw [hs.eq upd_same]; exact none_upd nr) (Bud.back_outs t (Bud.zdvd k) ho)⟩
      · rw [upd_ne nbp]
        exact s1 _ _ (by rw [upd_ne nbd]; exact hb)
      · rw [upd_ne npr.symm]
        exact hr1
      · rw [eM] at hys
        exact hys.kept (tups_put hp1 (fun xs z => by cases z))
      · rw [upd_ne npd.symm]
        exact hd1
/-! #### Yard.resize -/
/-- another size -/
def spResize (K : PySem.W.Frag) : Sp := fun vs H Q E => ∃ (p d : Addr) (k : Nat) (t : Bud.T k) (a w : Int), vs = [.ref p, .int a, .int w] ∧ YardT K H p d t ∧ (Bud.outs t 0).length ≤ 1000 ∧
  ((∀ g ∈ Bud.outs t 0, g.1 ≠ a) → E (.ref (He.ga K "NotOut")) none H) ∧
  ∀ s, (a, s) ∈ Bud.outs t 0 → (w < 1 → E (.ref (He.ga K "NoWish")) none H) ∧
    (1 ≤ w → ¬ Bud.Fits2 t a s (Bud.fit w) → ∀ H', Same H H' → E (.ref (He.ga K "NoRoom")) none H') ∧
    (1 ≤ w → Bud.Fits2 t a s (Bud.fit w) → ∀ (H' : Hp) (t' : Bud.T k), Kp p d H H' → YardT K H' p d t' → (∀ l, Spare H' p l → H l = none) → (Bud.outs t' 0).Perm ((a, Bud.fit w) :: (Bud.outs t 0).erase (a, s)) → Q (.int (Bud.fit w)) H')
theorem put_key {G : List Bud.Pc} {a s z : Int} (nd : (G.map (·.1)).Nodup) (h : (a, s) ∈ G) : (G.map fun p => if p.1 = a then (p.1, z) else p).Perm ((a, z) :: G.erase (a, s)) := by
  induction G with
  | nil => cases h
  | cons q G ih =>
    have ⟨n1, n2⟩ := List.nodup_cons.mp nd
    rcases List.mem_cons.mp h with e | h
    · rw [← e, List.erase_cons_head, List.map_cons, if_pos rfl]
      refine List.Perm.cons _ ?_
      have e2 : G.map (fun p => if p.1 = a then (p.1, z) else p) = G := (List.map_congr_left fun p hp => if_neg fun q' => n1 (by
        show q.1 ∈ G.map (·.1)
        rw [← e]
        show a ∈ _
        rw [← q']
        exact List.mem_map.mpr ⟨_, hp, rfl⟩)).trans (List.map_id _)
      rw [e2]
    · have hne : ¬ q.1 = a := fun q' => n1 (by
        show q.1 ∈ G.map (·.1)
        rw [q']
        exact List.mem_map.mpr ⟨_, h, rfl⟩)
      have hne2 : ¬ q = (a, s) := fun q' => hne (by rw [q'])
      rw [List.map_cons, if_neg hne, List.erase_cons_tail (by simpa using hne2)]
      exact ((ih n2 h).cons _).trans (List.Perm.swap _ _ _)
theorem ok_resize (T : Txt K mg) : MethOk P w K mg base 3 "Yard" "resize" ["self", "at", "want"] (spResize K) := by
  refine mkMeth T.F_Yard_resize T.cl T.m_Yard_resize bd_Yard_resize sc_Yard_resize (fun vs H Q E h => ?_) (fun cdv A outer s H vs Q E hr h => ?_)
  · obtain ⟨p, d, k, t, a, w, rfl, _⟩ := h
    rfl
  · obtain ⟨p, d, k, t, a, w, rfl, y, hlen, k1, k2⟩ := h
    have hY := y.has
    obtain ⟨hk, hc, G, hG, dx, l, xs, h1, h2, h3, h4⟩ := id y
    have nd := sc_Yard_resize.nd
    have hr1 : Room 1 _ := hr.mono (by decide)
    have hr2 : Room 2 _ := hr
    have hfl := frees_1000 hk hc hlen
    have ndk := keys_nd hG
    have npd : p ≠ d := hY.ne
    refine ⟨_, pss_cons (ps_if (pt_cmp (pc_dnotin (hu_of hr) (pv 1) (pe_fld (pv 0) rfl))) (pss_one (ps_raise rfl (takes_of rfl rfl rfl rfl) (pmk_own PySem.F.excBase_ValueError T.x_NotOut.1 T.g_NotOut T.x_NotOut.2.1 (raises_own T.x_NotOut.2.2.1 T.x_NotOut.2.2.2) rfl))) pss_nil)
      (pss_cons (ps_if (pt_cmpR op_lt (pv 2) pe_int (nomark _)) (pss_one (ps_raise rfl (takes_of rfl rfl rfl rfl) (pmk_own PySem.F.excBase_ValueError T.x_NoWish.1 T.g_NoWish T.x_NoWish.2.1 (raises_own T.x_NoWish.2.2.1 T.x_NoWish.2.2.2) rfl))) pss_nil)
      (pss_cons (ps_if (pt_cmpR op_gt (pv 2) (pe_fld (pv 0) rfl) (nomark _)) (pss_one (ps_raise rfl (takes_of rfl rfl rfl rfl) (pmk_own PySem.F.excBase_ValueError T.x_NoRoom.1 T.g_NoRoom T.x_NoRoom.2.1 (raises_own T.x_NoRoom.2.2.1 T.x_NoRoom.2.2.2) rfl))) pss_nil)
      (pss_cons (ps_set (i := 3) nd rfl (Or.inl rfl) (pe_cd (ok_size_for T) hr1 (pa_cons (pv 2) pa_nil)))
      (pss_cons (ps_set (i := 4) nd rfl (Or.inl rfl) (pe_dget (hu_of hr) (pe_fld (pv 0) rfl) (pv 1) (fun _ _ => rfl)))
      (pss_cons (ps_set (i := 5) nd rfl (Or.inl rfl) (pe_ix ix_tup (pe_cd (ok_cut_down T) hr1 (pa_cons (pe_fld (pv 0) rfl) (pa_cons (pv 1) (pa_cons (pv 4) (pa_cons (pv 2) pa_nil))))) pe_int (fun _ _ => rfl)))
      (C8.pss_cut (ps_if (pt_cmpR op_gt (pv 3) (pv 4) (nomark _)) (pss_one (ps_set (i := 5) nd rfl (Or.inl rfl) (pe_cd (ok_grown T) hr2 (pa_cons (pe_fld (pv 0) rfl) (pa_cons (pv 1) (pa_cons (pv 4) (pa_cons (pv 3) pa_nil))))))) pss_nil)
      (pss_cons (ps_if (pt_cmpR op_isN (pv 5) pe_non (nomark _)) (pss_one (ps_raise rfl (takes_of rfl rfl rfl rfl) (pmk_own PySem.F.excBase_ValueError T.x_NoRoom.1 T.g_NoRoom T.x_NoRoom.2.1 (raises_own T.x_NoRoom.2.2.1 T.x_NoRoom.2.2.2) rfl))) pss_nil)
      (pss_cons (ps_fld (pv 0) (pv 5) rfl)
      (pss_cons (ps_dput (hu_of hr) (pe_fld (pv 0) rfl) (pv 1) (pv 3) rfl)
      (pss_one (ps_ret (pv 3)))))))))))), ?_⟩
    refine ⟨_, rfl, _, rfl, p, _, dx, _, _, rfl, h1, T.cl, T.a_given, yf_given _ _ _, d, _, rfl, DGet.k (k := Sum.inl a) h4, _, rfl, ?_⟩
    cases e : valV (gk G) (Sum.inl a : Key) with
    | none =>
      refine iteT (k1 fun g hg e2 => ?_)
      have hg' : (a, g.2) ∈ G := by
        rw [← e2]
        exact hG.mem_iff.mpr hg
      rw [gk_val ndk hg'] at e
      cases e
    | some v =>
      obtain ⟨s, rfl, hs⟩ := gk_some e
      have ho : (a, s) ∈ Bud.outs t 0 := hG.mem_iff.mp hs
      obtain ⟨q1, q2, q3⟩ := k2 s ho
      refine iteF ?_
      refine ⟨_, rfl, _, _, rfl, rfl, _, rfl, ?_⟩
      refine ite2 (fun c => ?_) (fun c => ?_)
      · exact q1 (by simpa using c)
      have hw : 1 ≤ w := by
        have : ¬ w < 1 := by simpa using c
        omega
      refine ⟨_, rfl, _, rfl, p, _, dx, _, _, rfl, h1, T.cl, T.a_cells, yf_cells _ _ _, _, _, rfl, rfl, _, rfl, ?_⟩
      refine ite2 (fun c => ?_) (fun c => ?_)
      · have c' : Bud.pw k < w := by simpa using c
        refine q2 hw (fun z => ?_) _ (Same.refl _)
        have h0 := (Bud.in_outs t (Bud.zdvd k) ho).1
        have hf := Bud.fit_ge w
        have := z.2.1
        simp only at h0
        omega
      have hwk : w ≤ Bud.pw k := by
        have : ¬ Bud.pw k < w := by simpa using c
        omega
      have hfe := Bud.fe_le hwk
      have hk60 : Bud.pw k ≤ Bud.pw 60 := Bud.pw_le hk
      rw [pw60] at hk60
      refine ⟨_, rfl, w, rfl, fun _ => ?_, fun z => absurd ⟨hw, by omega⟩ z⟩
      refine ⟨_, rfl, p, _, dx, _, _, rfl, h1, T.cl, T.a_given, yf_given _ _ _, _, rfl, d, .int s, rfl, (by rw [← e]; exact DGet.k (k := Sum.inl a) h4), ?_⟩
      obtain ⟨_, _, j, hj, eS, _⟩ := Bud.in_outs t (Bud.zdvd k) ho
      have eS' : s = Bud.pw j := eS
      subst eS'
      refine ⟨_, rfl, p, _, dx, _, _, rfl, h1, T.cl, T.a_spare, yf_spare _ _ _, _, rfl, _, rfl, _, rfl, l, xs, Bud.frees t 0, a, w, j, rfl, SqL.of h2, h3, by omega, by omega, hw, fun H1 q r ys M s1 nq nr hq1 hr1 hys hperm hsrt => ?_⟩
      refine ⟨q, _, 0, _, rfl, rfl, SqT.of hq1, rfl, ?_⟩
      -- the join: the new free pieces, or none
      refine ⟨fun σ H' => Same H H' ∧ ∃ v : V, σ = [some (.ref p), some (.int a), some (.int w), some (.int (Bud.fit w)), some (.int (Bud.pw j)), some v] ∧
        ((v = .non ∧ ¬ Bud.Fits2 t a (Bud.pw j) (Bud.fit w)) ∨ (Bud.Fits2 t a (Bud.pw j) (Bud.fit w) ∧ ∃ (r : Addr) (ys : List V) (t' : Bud.T k), v = .ref r ∧ H r = none ∧ H' r = some (.lst ys) ∧ Prs H' ys (Bud.frees t' 0) ∧ Bud.Can t' ∧ (Bud.outs t' 0).Perm ((a, Bud.fit w) :: (Bud.outs t 0).erase (a, Bud.pw j)))), ?_, ?_⟩
      · refine ⟨_, rfl, _, rfl, _, _, rfl, rfl, _, rfl, ?_⟩
        refine ite2 (fun c => ?_) (fun c => ?_)
        · have c' : j < Bud.fe w := Bud.pw_lt_iff.mp (show Bud.pw j < Bud.fit w from of_decide_eq_true c)
          obtain ⟨e', ee⟩ : ∃ e', Bud.fe w = j + e' := ⟨Bud.fe w - j, by omega⟩
          have efit : Bud.fit w = Bud.pw (j + e') := by unfold Bud.fit; rw [ee]
          have y1 := y.same s1
          obtain ⟨_, _, G1, hG1, dx1, l1, xs1, g1, g2, g3, g4⟩ := id y1
          refine ⟨_, rfl, p, _, dx1, _, _, rfl, g1, T.cl, T.a_spare, yf_spare _ _ _, _, rfl, _, rfl, _, rfl, l1, xs1, Bud.frees t 0, a, j, e', by show [V.ref l1, V.int a, V.int (Bud.pw j), V.int (Bud.fit w)] = _; rw [efit], SqL.of g2, g3, by omega, by omega, fun G' hG' H2 r2 zs s2 nr2 hr2 hzs => ?_, fun hN H2 s2 => ?_⟩
          · rcases Bud.grow_tree (d := e') hc (Bud.zdvd k) (by omega) ho (by omega) with ⟨hf, t', c2, e2, e3⟩ | ⟨hf, e2⟩
            · rw [hG'] at e2
              cases e2
              rw [Bud.fits_iff, ← efit] at hf
              rw [← efit] at e3
              exact ⟨s1.trans s2, _, rfl, .inr ⟨hf, r2, zs, t', rfl, Same.none s1 nr2, hr2, hzs, c2, e3⟩⟩
            · rw [hG'] at e2
              cases e2
          · rcases Bud.grow_tree (d := e') hc (Bud.zdvd k) (by omega) ho (by omega) with ⟨hf, t', c2, e2, e3⟩ | ⟨hf, e2⟩
            · rw [hN] at e2
              cases e2
            · rw [Bud.fits_iff, ← efit] at hf
              exact ⟨s1.trans s2, _, rfl, .inl ⟨rfl, hf⟩⟩
        · have c' : Bud.fe w ≤ j := by
            rcases Nat.lt_or_ge j (Bud.fe w) with q | q
            · exact absurd (decide_eq_true (show Bud.pw j < Bud.fit w from Bud.pw_lt q)) c
            · exact q
          have ecut : cutE w j = Bud.fe w := by unfold cutE; omega
          rw [ecut] at hperm
          obtain ⟨t', c2, e1, e2⟩ := Bud.shrink_tree hc (Bud.zdvd k) ho c'
          have eM : M = Bud.frees t' 0 := Bud.srt_uniq hsrt (Bud.srt_frees t' (Bud.zdvd k)) (hperm.trans e1.symm)
          rw [eM] at hys
          exact ⟨s1, _, rfl, .inr ⟨Bud.fits_small ho c', r, ys, t', rfl, nr, hr1, hys, c2, e2⟩⟩
      · rintro σ H2 ⟨s2, v, rfl, hv⟩
        rcases hv with ⟨rfl, hnf⟩ | ⟨hf, r2, zs, t', rfl, nr2, hr2, hzs, c2, e2⟩
        · exact ⟨_, rfl, rfl, _, rfl, iteT (q2 hw hnf _ s2)⟩
        · refine ⟨_, rfl, rfl, _, rfl, iteF ?_⟩
          have npr : p ≠ r2 := ne_of (s2 _ _ h1) hr2 (by intro z; cases z)
          have ndr : d ≠ r2 := ne_of (s2 _ _ h4) hr2 (by intro z; cases z)
          refine ⟨_, rfl, _, rfl, p, _, dx, _, rfl, s2 _ _ h1, T.cl, T.a_spare, yf_len _ _ _, ?_⟩
          rw [yf_put]
          have hd2 : ∀ o, (upd H2 p o) d = some (.dK (gk G)) := fun o => by rw [upd_ne npd.symm]; exact s2 _ _ h4
          refine ⟨_, rfl, _, rfl, p, _, dx, _, _, rfl, upd_same, T.cl, T.a_given, yf_given _ _ _, _, rfl, d, _, rfl, DPut.k (k := Sum.inl a) (hd2 _) ?_, ?_⟩
          · rw [gk_len, hG.length_eq, sizeLine_eq]
            omega
          rw [gk_old e]
          refine ⟨_, rfl, q3 hw hf _ t' (fun b o hb nbp nbd => ?_) ⟨hk, c2, _, ?_, dx, r2, zs, ?_, ?_, ?_, upd_same⟩ (fun l' hs => by rw [hs.eq (by rw [upd_ne npd, upd_same])]; exact nr2) e2⟩
          · rw [upd_ne nbd, upd_ne nbp]
            exact s2 _ _ hb
          · exact (put_key ndk hs).trans (((hG.erase _).cons _).trans e2.symm)
          · rw [upd_ne npd, upd_same]
          · rw [upd_ne ndr.symm, upd_ne npr.symm]
            exact hr2
          · exact hzs.kept ((tups_put (s2 _ _ h1) (fun xs z => by cases z)).trans (tups_put (hd2 _) (fun xs z => by cases z)))
/-! #### by_size -/
/-- the places of the wishes, the largest size first -/
def spBySize (K : PySem.W.Frag) : Sp := fun vs H Q _ => ∃ (l : Addr) (ws : List Int), vs = [.ref l] ∧ SqL K H l (ws.map V.int) ∧ (∀ w ∈ ws, 1 ≤ w ∧ w ≤ 1152921504606846976) ∧ ws.length ≤ 1000 ∧
  ∀ (H' : Hp) (q : Addr) (M : List Bud.Pc), Same H H' → M.Perm (Bud.ordP ws) → Bud.Srt M → H' q = some (.lst (M.map fun p => V.int p.2)) → Q (.ref q) H'
theorem ok_by_size (T : Txt K mg) : DefOk P w K mg base 2 "by_size" ["wants"] (spBySize K) := by
  refine mkDef T.F_by_size T.g_by_size bd_by_size sc_by_size (fun vs H Q E h => ?_) (fun cdv A outer s H vs Q E hr h => ?_)
  · obtain ⟨l, ws, rfl, _⟩ := h
    rfl
  · obtain ⟨l, ws, rfl, hl, hw, hlen, kQ⟩ := h
    have nd := sc_by_size.nd
    have hr1 : Room 1 _ := hr
    refine ⟨_, (pss_cons (ps_set (i := 1) nd rfl (Or.inl rfl) (pe_lst pa_nil))
      (pss_cons (ps_for (passes_of rfl) rfl (pi_range1 rfl T.n_range (pa_cons (pe_callB call_len_seq (by rfl) T.n_len PySem.boot_len (pa_cons (pv 0) pa_nil)) pa_nil)) (pg_name (i := 2) nd rfl (Or.inl rfl))
        (pss_one (ps_expr (pe_bm PySem.F.plainAttrs_list PySem.F.slot_list_append PySem.F.type_list_append mt_append (pv 1) (pa_cons (pe_tup (pa_cons (pe_op op_sub pe_int (pe_cd (ok_size_for T) hr1 (pa_cons (pe_ix ix_list (pv 0) (pv 2) (fun _ _ => rfl)) pa_nil))) (pa_cons (pv 2) pa_nil))) pa_nil)))))
      (pss_one (ps_ret (pe_lc (own := [("pair", 3)]) (g := gName 3) (tt := tYes) (te := tSel1 (tVar 3)) (by rfl) nd (pi_list (pe_callB cr_sortPs (by rfl) T.n_sorted (by decide +kernel) (pa_cons (pv 1) pa_nil)))
          (blkOk_by (own := [("pair", 3)]) (N := ["wants", "order", "place", "pair"]) (sc := defScope s_by_size) (by decide +kernel)) (fun _ _ _ _ _ => pg_name (i := 3) nd rfl (Or.inl rfl))
          (fun _ _ _ _ _ => pts_nil) (fun _ _ _ _ _ => pe_p1 (pv 3))))))), ?_⟩
    refine ⟨Nat.zero_le _, fun o ho => ?_⟩
    refine ⟨_, rfl, l, _, rfl, .inl ((same_new ho).seq hl), _, rfl, by rw [List.length_map]; omega, by rw [List.length_map]; omega, ?_⟩
    rw [List.length_map, show ((ws.length : Int)).toNat = ws.length from rfl]
    refine for_range (n := ws.length) (fun i σ H' => Same H H' ∧ ∃ v ys, σ = [some (.ref l), some (.ref o), v, none] ∧ H' o = some (.lst ys) ∧ Prs H' ys ((Bud.ordP ws).take i))
      ⟨same_new ho, none, [], rfl, upd_same, .nil⟩ ?_ ?_
    · rintro i σ H1 hi ⟨s1, v, ys, rfl, e1, p1⟩
      have hwi := hw _ (List.getElem_mem hi)
      have eg : ws.getD i 0 = ws[i] := by rw [List.getD_eq_getElem?_getD, List.getElem?_eq_getElem hi]; rfl
      refine ⟨_, rfl, .inl ⟨rfl, _, SqL.of e1⟩, _, rfl, _, rfl, l, _, _, V.int ws[i], rfl, rfl, s1.seq hl, (show atI _ (0 + (i : Int)) = _ by rw [Int.zero_add]; exact atI_nat (by rw [List.getElem?_map, List.getElem?_eq_getElem hi]; rfl)), ws[i], rfl, fun _ => ?_, fun z => absurd hwi z⟩
      refine ⟨_, _, rfl, rfl, _, rfl, (by show 2 ≤ sizeLine; decide), fun t ht => ?_⟩
      have nt : o ≠ t := ne_of_none e1 ht
      refine ⟨o, _, _, rfl, rfl, by rw [upd_ne nt]; exact e1, ?_, ?_⟩
      · have h1 := p1.length
        rw [List.length_take] at h1
        rw [sizeLine_eq]
        omega
      refine ⟨fun b u hb => ?_, _, _, rfl, upd_same, ?_⟩
      · rw [upd_ne (ne_of_none hb ho), upd_ne (ne_of_none (s1 _ _ hb) ht)]
        exact s1 _ _ hb
      · rw [List.take_add_one, Bud.ordP_at hi]
        refine Prs.append ((p1.kept (tups_upd ht)).kept (tups_put (by rw [upd_ne nt]; exact e1) (fun xs z => by cases z))) (.cons ⟨t, rfl, ?_⟩ .nil)
        rw [upd_ne nt.symm, upd_same, eg]
        show some (HO.tup [V.int (0 - Bud.fit ws[i]), V.int (0 + (i : Int))]) = _
        rw [Int.zero_add]
    · rintro σ H1 ⟨s1, v, ys, rfl, e1, p1⟩
      rw [← Bud.ordP_len ws, List.take_length] at p1
      refine ⟨_, rfl, o, ys, _, rfl, SqL.of e1, p1, fun zs M q pM sM hzs hq => ?_⟩
      have s2 : Same H1 (upd H1 q (.lst zs)) := same_new hq
      have hz2 := hzs.kept (Same.tups s2)
      have eq2 : (upd H1 q (.lst zs)) q = some (.lst zs) := upd_same
      generalize upd H1 q (.lst zs) = H2 at *
      have hML : M.length ≤ 1000 := by rw [pM.length_eq, Bud.ordP_len]; exact hlen
      refine ⟨q, rfl, ⟨_, SqL.of eq2⟩, fun C hC => ?_⟩
      refine lc_list (K := K) (a := q) (xs := zs) (fun i H' => H' = upd H2 C (.lst ((M.take i).map fun p => V.int p.2))) rfl (fun i H' _ e => by rw [e]; exact (same_new hC).seq (SqL.of eq2)) ?_ ?_
      · rintro i z H' hi rfl
        obtain ⟨g, hg, hz⟩ := hz2.get hi
        refine ⟨rfl, ?_⟩
        refine ⟨_, rfl, g, hz.kept (tups_upd hC), _, upd_same, ?_, ?_⟩
        · rw [List.length_map, List.length_take, sizeLine_eq]
          omega
        · rw [upd_upd, List.take_add_one, hg, List.map_append]
          rfl
      rintro H' rfl
      rw [hz2.length, List.take_length]
      exact kQ _ C M ((s1.trans s2).trans (same_new hC)) pM sM upd_same
/-! #### give_all -/
def kd (L : List (Nat × Int)) : List (Key × V) := L.map fun p => ((Sum.inl (p.1 : Int) : Key), V.int p.2)
theorem kd_val (i : Nat) : ∀ L : List (Nat × Int), valV (kd L) (Sum.inl (i : Int) : Key) = (L.lookup i).map V.int
  | [] => rfl
  | (j, a) :: L => by
    show valV (((Sum.inl (j : Int) : Key), V.int a) :: kd L) (Sum.inl (i : Int)) = _
    rw [List.lookup_cons]
    by_cases e : i = j
    · subst e
      rw [valV_pos rfl]
      simp
    · rw [valV_neg (fun q => e (by have := Sum.inl.inj q; omega)), kd_val i L]
      have : (i == j) = false := by simpa using e
      rw [this]
theorem kd_new {L : List (Nat × Int)} {i : Nat} {a : Int} (h : ∀ p ∈ L, p.1 ≠ i) : putK (kd L) (Sum.inl (i : Int) : Key) (.int a) = kd (L ++ [(i, a)]) := by
  rw [putK_new _ (by rw [kd_val, Bud.lookup_none_of h]; rfl)]
  unfold kd
  rw [List.map_append]
  rfl
theorem YardT.putD {H : Hp} {p d f : Addr} {k : Nat} {t : Bud.T k} {kvs : List (Key × V)} (y : YardT K H p d t) (hf : H f = some (.dK kvs)) (n : d ≠ f) (o : HO) : YardT K (upd H f o) p d t := by
  obtain ⟨hk, hc, G, hG, dx, l, zs, h1, h2, h3, h4⟩ := y
  have e1 : p ≠ f := ne_of h1 hf (by intro z; cases z)
  have e3 : l ≠ f := ne_of h2 hf (by intro z; cases z)
  exact ⟨hk, hc, G, hG, dx, l, zs, by rw [upd_ne e1]; exact h1, by rw [upd_ne e3]; exact h2, h3.kept (tups_put hf (fun xs z => by cases z)), by rw [upd_ne n]; exact h4⟩
theorem YardT.putX {H : Hp} {p d f : Addr} {k : Nat} {t : Bud.T k} {u : HO} (y : YardT K H p d t) (hf : H f = some u) (n1 : p ≠ f) (n : d ≠ f) (hl : ∀ xs, u ≠ .lst xs) (ht : ∀ xs, u ≠ .tup xs) (o : HO) : YardT K (upd H f o) p d t := by
  obtain ⟨hk, hc, G, hG, dx, l, zs, h1, h2, h3, h4⟩ := y
  have e3 : l ≠ f := fun e => by
    rw [e, hf] at h2
    exact hl _ (Option.some.inj h2)
  exact ⟨hk, hc, G, hG, dx, l, zs, by rw [upd_ne n1]; exact h1, by rw [upd_ne e3]; exact h2, h3.kept (tups_put hf ht), by rw [upd_ne n]; exact h4⟩
/-- the spare list behind is new, or the one ahead -/
def SpNew (H H' : Hp) (p : Addr) : Prop := ∀ l, Spare H' p l → H l = none ∨ Spare H p l
def spGiveAll (K : PySem.W.Frag) : Sp := fun vs H Q E => ∃ (p d : Addr) (k : Nat) (t : Bud.T k) (l : Addr) (ws : List Int) (M : List Bud.Pc), vs = [.ref p, .ref l] ∧ YardT K H p d t ∧ SqL K H l (ws.map V.int) ∧ ws.length ≤ 200 ∧ (Bud.outs t 0).length ≤ 700 ∧ M.Perm (Bud.ordP ws) ∧ Bud.Srt M ∧
  ((∃ w ∈ ws, w < 1) → E (.ref (He.ga K "NoWish")) none H) ∧
  ((∀ w ∈ ws, 1 ≤ w) → (∃ w ∈ ws, Bud.pw k < w) → E (.ref (He.ga K "NoRoom")) none H) ∧
  ((∀ w ∈ ws, 1 ≤ w ∧ w ≤ Bud.pw k) → (∀ as t', Bud.Gives ws t (Bud.ordN M) as t' → ∀ (H' : Hp) (q : Addr), Kp p d H H' → YardT K H' p d t' → H q = none → ¬ Spare H' p q → SpNew H H' p → H' q = some (.lst ((List.range ws.length).map fun i => V.int (Bud.plOf (Bud.ordN M) as i))) → Q (.ref q) H')) ∧
  ((∀ w ∈ ws, 1 ≤ w ∧ w ≤ Bud.pw k) → (∀ as t', ¬ Bud.Gives ws t (Bud.ordN M) as t') → ∀ H', Kp p d H H' → YardT K H' p d t → SpNew H H' p → E (.ref (He.ga K "NoRoom")) none H')
theorem ok_give_all (T : Txt K mg) : DefOk P w K mg base 4 "give_all" ["yard", "wants"] (spGiveAll K) := by
  refine mkDef T.F_give_all T.g_give_all bd_give_all sc_give_all (fun vs H Q E h => ?_) (fun cdv A outer s H vs Q E hr h => ?_)
  · obtain ⟨p, d, k, t, l, ws, M, rfl, _⟩ := h
    rfl
  · obtain ⟨p, d, k, t, l, ws, M, rfl, y, hl, hlen, hout, hM, sM, kW, kR, kQ, kE⟩ := h
    have nd := sc_give_all.nd
    have hr2 : Room 2 _ := hr.mono (by decide)
    have hrH : L2H.RoomH 3 _ := L2H.roomH_of (hr.mono (by decide))
    have hY := y.has
    obtain ⟨dx, fs, ep, nm, ec⟩ := y.at_
    have hk60 := Bud.pw_le y.1
    rw [pw60] at hk60
    refine ⟨_, (pss_cons (ps_for (passes_of rfl) rfl (pi_list (pv 1)) (pg_name (i := 2) nd rfl (Or.inl rfl))
        (pss_one (ps_if (pt_cmpR op_lt (pv 2) pe_int (nomark _)) (pss_one (ps_raise rfl (takes_of rfl rfl rfl rfl) (pmk_own PySem.F.excBase_ValueError T.x_NoWish.1 T.g_NoWish T.x_NoWish.2.1 (raises_own T.x_NoWish.2.2.1 T.x_NoWish.2.2.2) rfl))) pss_nil)))
      (pss_cons (ps_for (passes_of rfl) rfl (pi_list (pv 1)) (pg_name (i := 2) nd rfl (Or.inl rfl))
        (pss_one (ps_if (pt_cmpR op_gt (pv 2) (pe_fld (pv 0) rfl) (nomark _)) (pss_one (ps_raise rfl (takes_of rfl rfl rfl rfl) (pmk_own PySem.F.excBase_ValueError T.x_NoRoom.1 T.g_NoRoom T.x_NoRoom.2.1 (raises_own T.x_NoRoom.2.2.1 T.x_NoRoom.2.2.2) rfl))) pss_nil)))
      (pss_cons (ps_set (i := 3) nd rfl (Or.inr rfl) pe_dnewK)
      (pss_cons (ps_for (passes_of rfl) rfl (pi_list (pe_cd (ok_by_size T) hr2 (pa_cons (pv 1) pa_nil))) (pg_name (i := 4) nd rfl (Or.inl rfl))
        (pss_one (ps_try_onlyXT rfl rfl ⟨rfl, by decide, .inl T.g_NoRoom⟩ (fun hd => L2H.passesAt_of rfl hd) (takes_of rfl rfl rfl rfl)
          (fun W pn xe tk => pss_one (ps_dput (by exact hu_of hr) (pv 3) (pv 4) (by exact (pe_mN (E := WE W) (pv 0) (okN_give T) hr2 (fun σ => L2N.passAt tk σ) (pa_cons (show PE _ _ (tOp (rIxL K) (tVar 1) (tVar 4)) from pe_ix ix_list (pv 1) (pv 4) (fun _ _ => rfl)) pa_nil))) rfl))
          (fun a oe cls d pn tkS hot => pss_cons (ps_lock (L2H.ps_forH (PassesOwnAt.leavingOf (SameStack.mark _ _)) hot (pi_valuesH (pv 3)) (pg_name (i := 5) nd rfl (Or.inl rfl))
              (pss_one (ps_expr (pe_mH hot (pv 0) (okH_take_back T) (by exact ⟨hrH.dp, hrH.un⟩) (pa_cons (pv 5) pa_nil))))))
            (pss_one (L2H.ps_raiseH hot tkS (L2N.pmk_own PySem.F.excBase_ValueError T.x_NoRoom.1 T.g_NoRoom T.x_NoRoom.2.1 (raises_own T.x_NoRoom.2.2.1 T.x_NoRoom.2.2.2) rfl)))))))
      (pss_one (ps_ret (pe_lc (own := [("place", 4)]) (g := gName 4) (tt := tYes) (te := tDGet (tVar 3) (tVar 4)) (by rfl) nd (pi_range1 rfl T.n_range (pa_cons (pe_callB call_len_seq (by rfl) T.n_len PySem.boot_len (pa_cons (pv 1) pa_nil)) pa_nil))
          (blkOk_by (own := [("place", 4)]) (N := ["yard", "wants", "want", "found", "place", "at"]) (sc := defScope s_give_all) (by decide +kernel)) (fun _ _ _ _ _ => pg_name (i := 4) nd rfl (Or.inl rfl))
          (fun _ _ _ _ _ => pts_nil) (fun _ _ _ _ _ => pe_dget (by exact hu_of hr) (pv 3) (pv 4) (fun _ _ => rfl))))))))), ?_⟩
    refine ⟨_, rfl, l, rfl, ⟨_, hl⟩, for_list (K := K) (a := l) (xs := ws.map V.int) (fun i σ H' => H' = H ∧ (∃ v, σ = [some (.ref p), some (.ref l), v, none, none, none]) ∧ ∀ w ∈ ws.take i, 1 ≤ w)
      ⟨rfl, ⟨none, rfl⟩, fun _ h => by cases h⟩ (fun i σ H' _ h => by rw [h.1]; exact hl) ?_ ?_⟩
    · rintro i x σ H' hi ⟨rfl, ⟨v, rfl⟩, hall⟩
      rw [List.getElem?_map] at hi
      obtain ⟨b, hb, rfl⟩ : ∃ b, ws[i]? = some b ∧ x = V.int b := by
        cases e : ws[i]? with
        | none => rw [e] at hi; cases hi
        | some b => rw [e] at hi; exact ⟨b, rfl, (Option.some.inj hi).symm⟩
      have hbm := List.mem_of_getElem? hb
      refine ⟨_, rfl, _, _, rfl, rfl, _, rfl, ?_⟩
      refine ite2 (fun c => kW ⟨b, hbm, of_decide_eq_true c⟩) (fun c => ⟨rfl, ⟨_, rfl⟩, fun w hw => ?_⟩)
      have c' : ¬ b < 1 := fun z => c (decide_eq_true z)
      rw [List.take_add_one, hb] at hw
      rcases List.mem_append.mp hw with hw | hw
      · exact hall w hw
      · rw [List.mem_singleton.mp hw]
        omega
    rintro σ H' ⟨rfl, ⟨v, rfl⟩, hw1⟩
    rw [List.length_map, List.take_length] at hw1
    refine ⟨_, rfl, l, rfl, ⟨_, hl⟩, for_list (K := K) (a := l) (xs := ws.map V.int) (fun i σ H2 => H2 = H' ∧ (∃ v, σ = [some (.ref p), some (.ref l), v, none, none, none]) ∧ ∀ w ∈ ws.take i, w ≤ Bud.pw k)
      ⟨rfl, ⟨v, rfl⟩, fun _ h => by cases h⟩ (fun i σ H' _ h => by rw [h.1]; exact hl) ?_ ?_⟩
    · rintro i x σ H2 hi ⟨rfl, ⟨v, rfl⟩, hall⟩
      rw [List.getElem?_map] at hi
      obtain ⟨b, hb, rfl⟩ : ∃ b, ws[i]? = some b ∧ x = V.int b := by
        cases e : ws[i]? with
        | none => rw [e] at hi; cases hi
        | some b => rw [e] at hi; exact ⟨b, rfl, (Option.some.inj hi).symm⟩
      have hbm := List.mem_of_getElem? hb
      refine ⟨_, rfl, _, rfl, p, _, dx, fs, _, rfl, ep, T.cl, T.a_cells, ec, _, _, rfl, rfl, _, rfl, ?_⟩
      refine ite2 (fun c => kR hw1 ⟨b, hbm, of_decide_eq_true c⟩) (fun c => ⟨rfl, ⟨_, rfl⟩, fun w hw => ?_⟩)
      have c' : ¬ Bud.pw k < b := fun z => c (decide_eq_true z)
      rw [List.take_add_one, hb] at hw
      rcases List.mem_append.mp hw with hw | hw
      · exact hall w hw
      · rw [List.mem_singleton.mp hw]
        omega
    rintro σ H2 ⟨rfl, ⟨v, rfl⟩, hw2⟩
    rw [List.length_map, List.take_length] at hw2
    have hw : ∀ w ∈ ws, 1 ≤ w ∧ w ≤ Bud.pw k := fun w h => ⟨hw1 w h, hw2 w h⟩
    intro f hf
    have s1 : Same H2 (upd H2 f (.dK [])) := same_new hf
    have ndf : d ≠ f := by
      obtain ⟨_, _, e⟩ := hY
      exact ne_of_none e hf
    have npf : p ≠ f := ne_of_none ep hf
    refine ⟨_, rfl, l, ws, rfl, s1.seq hl, fun w hm => ?_, by omega, fun H3 q M' s3 hM' sM' e3 => ?_⟩
    · have := hw w hm
      omega
    have eM : M' = M := Bud.srt_uniq sM' sM (hM'.trans hM.symm)
    subst eM
    have hML : M'.length = ws.length := by rw [hM.length_eq, Bud.ordP_len]
    have lenO : (Bud.ordN M').length = ws.length := by unfold Bud.ordN; rw [List.length_map, hML]
    have ndO : (Bud.ordN M').Nodup := (Bud.ordN_perm hM).nodup_iff.mpr List.nodup_range
    have s13 := s1.trans s3
    have sp3 : SpNew H2 H3 p := fun l' h => .inr (Spare.same s13 hY h)
    refine ⟨q, rfl, ⟨_, SqL.of e3⟩, for_list (K := K) (a := q) (xs := M'.map fun p => V.int p.2) (fun i σ H4 => ∃ (v v4 v5 : Option V) (t1 : Bud.T k) (as1 : List Int), σ = [some (.ref p), some (.ref l), v, some (.ref f), v4, v5] ∧ Kp p d H2 H4 ∧ YardT K H4 p d t1 ∧ H4 q = some (.lst (M'.map fun p => V.int p.2)) ∧ H4 f = some (.dK (kd (((Bud.ordN M').take i).zip as1))) ∧
        Bud.Gives ws t ((Bud.ordN M').take i) as1 t1 ∧ SpNew H2 H4 p)
      ⟨v, none, none, t, [], rfl, Same.kp s13 p d, y.same s13, e3, by rw [List.take_zero]; exact s3 _ _ upd_same, by rw [List.take_zero]; exact .nil t, sp3⟩ (fun i σ H' _ ⟨_, _, _, _, _, _, _, _, e, _⟩ => SqL.of e) ?_ ?_⟩
    · rintro i x σ H4 hi ⟨v, v4, v5, t1, as1, rfl, k4, y4, e4, ef4, g4, sp4⟩
      rw [List.getElem?_map] at hi
      obtain ⟨g, hg, rfl⟩ : ∃ b, M'[i]? = some b ∧ x = V.int b.2 := by
        cases e : M'[i]? with
        | none => rw [e] at hi; cases hi
        | some b => rw [e] at hi; exact ⟨b, rfl, (Option.some.inj hi).symm⟩
      have hil := (List.getElem?_eq_some_iff.mp hg).1
      obtain ⟨b1, b2, b3⟩ := Bud.ordN_back hM (List.mem_of_getElem? hg)
      have eo : (Bud.ordN M')[i]? = some g.2.toNat := by unfold Bud.ordN; rw [List.getElem?_map, hg]; rfl
      rw [b1]
      generalize g.2.toNat = n at *
      have htk : (Bud.ordN M').take (i + 1) = (Bud.ordN M').take i ++ [n] := by
        rw [List.take_add_one, eo]
        rfl
      have hli : ((Bud.ordN M').take i).length = i := by rw [List.length_take]; omega
      have hla : as1.length = i := by rw [g4.len, hli]
      have hlo : (Bud.outs t1 0).length ≤ 700 + i := by
        rw [g4.outs.length_eq, List.length_append, List.length_map, List.length_zip, hla, hli]
        omega
      have hwn := hw (ws[n]) (List.getElem_mem b2)
      have eg : ws.getD n 0 = ws[n] := by rw [List.getD_eq_getElem?_getD, List.getElem?_eq_getElem b2]; rfl
      obtain ⟨dx4, fs4, ep4, nm4, _⟩ := y4.at_
      have hl4 : SqL K H4 l (ws.map V.int) := hY.seq k4 hl
      have hY4 := y4.has
      refine ⟨_, rfl, p, dx4, fs4, rfl, ep4, nm4.give, _, rfl, _, rfl, l, _, _, V.int ws[n], rfl, rfl, hl4, atI_nat (by rw [List.getElem?_map, List.getElem?_eq_getElem b2]; rfl), p, d, k, t1, ws[n], rfl, y4, by omega, fun z => absurd z (by omega), fun _ hb' => ?_, fun _ a' S' hb' H5 t5 k5 y5 sp5 perm5 => ?_⟩
      · refine ⟨true, T.e_NoRoom_NoRoom, fun _ ax _ => ?_, fun z => Bool.noConfusion z⟩
        have hnone : ∀ as t', ¬ Bud.Gives ws t (Bud.ordN M') as t' := fun as t' hg' => by
          obtain ⟨tm, g1, g2⟩ := hg'.split i
          obtain ⟨_, e2⟩ := Bud.Gives.det g1 g4 y.2.1
          subst e2
          have hdr : (Bud.ordN M').drop i = n :: (Bud.ordN M').drop (i + 1) := by
            have h1 := (List.getElem?_eq_some_iff.mp eo).1
            rw [List.drop_eq_getElem_cons h1]
            congr 1
            rw [List.getElem?_eq_getElem h1] at eo
            exact Option.some.inj eo
          rw [hdr] at g2
          generalize as.drop i = ad at g2
          cases g2 with
          | cons hb _ _ _ =>
            rw [eg, hb'] at hb
            cases hb
        refine ⟨f, _, ef4, trivial, fun od => ?_⟩
        have ylk : YardT K (upd H4 f (.frz od (.dK (kd (((Bud.ordN M').take i).zip as1))))) p d t1 := y4.putX ef4 npf ndf (fun _ z => by cases z) (fun _ z => by cases z) _
        have klk : Kp p d H2 (upd H4 f (.frz od (.dK (kd (((Bud.ordN M').take i).zip as1))))) := fun b o hb' nbp nbd => by
          rw [upd_ne (ne_of_none hb' hf)]
          exact k4 _ _ hb' nbp nbd
        have splk : SpNew H2 (upd H4 f (.frz od (.dK (kd (((Bud.ordN M').take i).zip as1))))) p := fun l' h => sp4 l' (h.upd npf)
        have hkdl : (kd (((Bud.ordN M').take i).zip as1)).length = i := by
          unfold kd
          rw [List.length_map, List.length_zip, hla, hli]
          omega
        have houts : (Bud.outs t1 0).Perm ((((((Bud.ordN M').take i).zip as1).drop 0).map fun p => (p.2, Bud.fit (ws.getD p.1 0))) ++ Bud.outs t 0) := g4.outs
        refine ⟨_, rfl, f, od, _, rfl, upd_same, for_it walk_values (fun j σ H5 => ∃ (v5 : Option V) (tj : Bud.T k), σ = [some (.ref p), some (.ref l), v, some (.ref f), some (.int (n : Int)), v5] ∧ Kp p d H2 H5 ∧ YardT K H5 p d tj ∧ SpNew H2 H5 p ∧ H5 f = some (.frz od (.dK (kd (((Bud.ordN M').take i).zip as1)))) ∧
          (Bud.outs tj 0).Perm ((((((Bud.ordN M').take i).zip as1).drop j).map fun p => (p.2, Bud.fit (ws.getD p.1 0))) ++ Bud.outs t 0)) ⟨_, t1, rfl, klk, ylk, splk, upd_same, houts⟩ (fun _ _ _ _ ⟨_, _, _, _, _, _, e, _⟩ => e) ?_ ?_⟩
        · rintro j x σ H5 H6 hj ⟨v5, tj, rfl, k5, y5, sp5, ef5, hpm⟩ ⟨rfl, key, hkey⟩
          obtain ⟨pr, hpr, hx⟩ : ∃ pr : Nat × Int, (((Bud.ordN M').take i).zip as1)[j]? = some pr ∧ x = V.int pr.2 := by
            unfold kd at hkey
            rw [List.getElem?_map] at hkey
            cases e : (((Bud.ordN M').take i).zip as1)[j]? with
            | none => rw [e] at hkey; cases hkey
            | some pr =>
              rw [e] at hkey
              have e2 := Option.some.inj hkey
              exact ⟨pr, rfl, (Prod.mk.inj e2).2.symm⟩
          subst hx
          have hjl := (List.getElem?_eq_some_iff.mp hpr).1
          have hdj : (((Bud.ordN M').take i).zip as1).drop j = pr :: (((Bud.ordN M').take i).zip as1).drop (j + 1) := by
            rw [List.drop_eq_getElem_cons hjl]
            congr 1
            rw [List.getElem?_eq_getElem hjl] at hpr
            exact Option.some.inj hpr
          rw [hdj, List.map_cons, List.cons_append] at hpm
          have hmem : (pr.2, Bud.fit (ws.getD pr.1 0)) ∈ Bud.outs tj 0 := hpm.mem_iff.mpr List.mem_cons_self
          have hlj : (Bud.outs tj 0).length ≤ 1000 := by
            rw [hpm.length_eq, List.length_cons, List.length_append, List.length_map, List.length_drop, List.length_zip, hla, hli]
            omega
          obtain ⟨dx5, fs5, ep5, nm5, _⟩ := y5.at_
          refine ⟨_, rfl, p, dx5, fs5, rfl, ep5, nm5.take, _, rfl, p, d, k, tj, pr.2, rfl, y5, hlj, fun z => absurd rfl (z _ hmem), fun sz hs H7 t7 k7 y7 sp7 perm7 => ?_⟩
          have hY5 := y5.has
          have hsz : sz = Bud.fit (ws.getD pr.1 0) := Bud.key_uniq hs hmem
          subst hsz
          refine ⟨_, t7, rfl, k5.trans k7, y7, fun l' hs' => ?_, ?_, ?_⟩
          · have hn5 := sp7 l' hs'
            refine .inl (k5.free (fun e => ?_) (fun e => ?_) hn5)
            · rw [e, ep5] at hn5
              cases hn5
            · obtain ⟨_, kv5, e5d⟩ := hY5
              rw [e, e5d] at hn5
              cases hn5
          · exact k7 _ _ ef5 npf.symm ndf.symm
          · exact List.Perm.cons_inv (perm7.symm.trans hpm)
        · rintro σ H5 ⟨v5, tj, rfl, k5, y5, sp5, ef5, hpm⟩
          rw [List.drop_eq_nil_of_le (by rw [hkdl, List.length_zip, hla, hli]; omega), List.map_nil, List.nil_append] at hpm
          have et : tj = t := Bud.tree_uniq y5.2.1 y.2.1 hpm
          subst et
          refine ⟨ef5, ?_⟩
          refine kE hw hnone _ (fun b o hb' nbp nbd => ?_) (y5.putX ef5 npf ndf (fun _ z => by cases z) (fun _ z => by cases z) _) (fun l' h => sp5 l' (h.upd npf))
          rw [upd_ne (ne_of_none hb' hf)]
          exact k5 _ _ hb' nbp nbd
      have ef5 : H5 f = some (.dK (kd (((Bud.ordN M').take i).zip as1))) := k5 _ _ ef4 npf.symm ndf.symm
      have hnew : ∀ p ∈ ((Bud.ordN M').take i).zip as1, p.1 ≠ n := fun p hp e => by
        have h1 : n ∈ (Bud.ordN M').take i := by
          rw [← e]
          exact (List.of_mem_zip hp).1
        have h2 : ((Bud.ordN M').take (i + 1)).Nodup := ndO.sublist (List.take_sublist _ _)
        rw [htk] at h2
        exact (List.nodup_append.mp h2).2.2 n h1 n (List.mem_singleton.mpr rfl) rfl
      refine ⟨_, rfl, _, rfl, f, _, rfl, DPut.k (k := (Sum.inl (n : Int) : Key)) ef5 ?_, ?_⟩
      · unfold kd
        rw [List.length_map, List.length_zip, sizeLine_eq]
        omega
      rw [kd_new hnew]
      refine ⟨v, _, v5, t5, as1 ++ [a'], rfl, fun b o hb' nbp nbd => ?_, y5.putD ef5 ndf _, ?_, ?_, ?_, ?_⟩
      · have hne : b ≠ f := ne_of_none hb' hf
        rw [upd_ne hne]
        exact k5 _ _ (k4 _ _ hb' nbp nbd) nbp nbd
      · have hqf : q ≠ f := ne_of e4 ef4 (by intro z; cases z)
        rw [upd_ne hqf]
        exact hY4.lst k5 e4
      · rw [upd_same, htk, Bud.zip_snoc (by rw [hla, hli])]
      · rw [htk]
        exact g4.snoc (by rw [eg]; exact hb') y5.2.1 (by rw [eg]; exact perm5)
      · intro l' hs'
        have hn4 := sp5 l' (hs'.upd npf)
        refine .inl (k4.free (fun e => ?_) (fun e => ?_) hn4)
        · rw [e, ep4] at hn4
          cases hn4
        · obtain ⟨_, kv4, e4d⟩ := hY4
          rw [e, e4d] at hn4
          cases hn4
    · rintro σ H4 ⟨v, v4, v5, t1, as1, rfl, k4, y4, e4, ef4, g4, sp4⟩
      have htk : (Bud.ordN M').take (M'.map fun p => V.int p.2).length = Bud.ordN M' := List.take_of_length_le (by rw [lenO, List.length_map, hML]; exact Nat.le_refl _)
      rw [htk] at ef4 g4
      have lenA : as1.length = ws.length := by rw [g4.len, lenO]
      refine ⟨_, rfl, l, _, rfl, .inl (hY.seq k4 hl), _, rfl, by rw [List.length_map]; omega, by rw [List.length_map]; omega, ?_⟩
      rw [List.length_map, show ((ws.length : Int)).toNat = ws.length from rfl]
      intro C hC
      refine lc_range (lo := 0) (n := ws.length) (fun i H' => H' = upd H4 C (.lst ((List.range i).map fun i => V.int (Bud.plOf (Bud.ordN M') as1 i)))) rfl ?_ ?_
      · rintro i H5 hi rfl
        have hin : i ∈ Bud.ordN M' := (Bud.ordN_perm hM).mem_iff.mpr (List.mem_range.mpr hi)
        obtain ⟨a', ha'⟩ : ∃ a, ((Bud.ordN M').zip as1).lookup i = some a := by
          cases e : ((Bud.ordN M').zip as1).lookup i with
          | some a => exact ⟨a, rfl⟩
          | none =>
            exfalso
            obtain ⟨j, hj, ej⟩ := List.getElem_of_mem hin
            have h1 : (i, as1[j]'(by omega)) ∈ (Bud.ordN M').zip as1 := by
              refine List.mem_of_getElem? (i := j) (List.getElem?_zip_eq_some.mpr ⟨?_, List.getElem?_eq_getElem (by omega)⟩)
              rw [List.getElem?_eq_getElem hj, ej]
            have h2 := List.lookup_eq_none_iff.mp e _ h1
            simp at h2
        refine ⟨rfl, ?_⟩
        refine ⟨_, rfl, _, rfl, f, V.int a', rfl, ?_, _, upd_same, ?_, ?_⟩
        · have hd := DGet.k (k := (Sum.inl (i : Int) : Key)) ((same_new hC (o := .lst ((List.range i).map fun i => V.int (Bud.plOf (Bud.ordN M') as1 i)))) _ _ ef4)
          rw [kd_val, ha'] at hd
          show DGet _ _ (V.int (0 + (i : Int))) _
          rw [Int.zero_add]
          exact hd
        · rw [List.length_map, List.length_range, sizeLine_eq]
          omega
        · rw [upd_upd, List.range_succ, List.map_append]
          congr 3
          show [V.int a'] = [V.int (Bud.plOf (Bud.ordN M') as1 i)]
          unfold Bud.plOf
          rw [ha']
          rfl
      · rintro H5 rfl
        have nCH : H2 C = none := by
          refine k4.free (fun e => ?_) (fun e => ?_) hC
          · subst e
            obtain ⟨dx4, fs4, ep4, _⟩ := y4.at_
            rw [ep4] at hC
            cases hC
          · subst e
            obtain ⟨_, kv4, e4d⟩ := y4.has
            rw [e4d] at hC
            cases hC
        have spC : ∀ l', Spare (upd H4 C (.lst ((List.range ws.length).map fun i => V.int (Bud.plOf (Bud.ordN M') as1 i)))) p l' → Spare H4 p l' := fun l' h => h.upd (fun e => by
          obtain ⟨dx4, fs4, ep4, _⟩ := y4.at_
          rw [e, hC] at ep4
          cases ep4)
        refine kQ hw _ _ g4 _ C (k4.trans (Same.kp (same_new hC) p d)) (y4.same (same_new hC)) nCH (fun z => ?_) (fun l' hs => sp4 l' (spC l' hs)) upd_same
        obtain ⟨_, _, _, _, dx5, l5, zs5, z1, z2, _⟩ := y4
        have := (spC C z).eq z1
        rw [this, z2] at hC
        cases hC
/-! #### _law_whole -/
/-- whether it is a whole number -/
def spWhole : Sp := fun vs H Q _ => ∃ i : Int, vs = [.int i] ∧ Q (.bl true) H
theorem ok_whole (T : Txt K mg) : DefOk P w K mg base 1 "_law_whole" ["_law_found"] spWhole := by
  refine mkDef T.F__law_whole T.g__law_whole bd__law_whole sc__law_whole (fun vs H Q E h => ?_) (fun cdv A outer s H vs Q E hr h => ?_)
  · obtain ⟨i, rfl, _⟩ := h
    rfl
  · obtain ⟨i, rfl, k⟩ := h
    refine ⟨_, pss_one (ps_ret (pe_and (pe_callB call_isi (by rfl) T.n_isinstance (by decide +kernel) (pa_cons (pv 0) (pa_cons (pe_bltn (v := .ty "int") (u := .type "int") (by rfl) T.n_int (by decide +kernel) rfl) pa_nil)))
      (pe_one (pe_not (pe_callB call_isi (by rfl) T.n_isinstance (by decide +kernel) (pa_cons (pv 0) (pa_cons (pe_bltn (v := .ty "bool") (u := .type "bool") (by rfl) T.n_bool (by decide +kernel) rfl) pa_nil))))))), ?_⟩
    refine ⟨_, rfl, _, _, _, _, true, rfl, .ty "int", .base (.int i), kit_ty (by decide +kernel), _, rfl, iteT ?_⟩
    exact ⟨_, rfl, _, _, _, _, false, rfl, .ty "bool", .base (.int i), kit_ty (by decide +kernel), _, rfl, k⟩
/-! #### _law_cell_at -/
def cell (ns : List Int) (k : Nat) : Int := ns.getD k 0
/-- a cell of the script, nought behind its end -/
def spCell (K : PySem.W.Frag) : Sp := fun vs H Q _ => ∃ (a : Addr) (ns : List Int) (j : Nat), vs = [.ref a, .int j] ∧ SqL K H a (ns.map V.int) ∧ Q (.int (cell ns j)) H
theorem ok_cell (T : Txt K mg) : DefOk P w K mg base 1 "_law_cell_at" ["_law_script", "_law_k"] (spCell K) := by
  refine mkDef T.F__law_cell_at T.g__law_cell_at bd__law_cell_at sc__law_cell_at (fun vs H Q E h => ?_) (fun cdv A outer s H vs Q E hr h => ?_)
  · obtain ⟨a, ns, j, rfl, _⟩ := h
    rfl
  · obtain ⟨a, ns, j, rfl, hS, k⟩ := h
    refine ⟨_, pss_cons (ps_if (pt_cmpR op_lt (pv 1) (pe_callB call_len_seq (by rfl) T.n_len PySem.boot_len (pa_cons (pv 0) pa_nil)) (nomark _)) (pss_one (ps_ret (pe_ix ix_list (pv 0) (pv 1) (fun _ _ => rfl)))) pss_nil)
      (pss_one (ps_ret pe_int)), ?_⟩
    refine ⟨_, rfl, _, rfl, a, _, rfl, .inl hS, _, _, rfl, rfl, _, rfl, ?_⟩
    rw [List.length_map]
    refine ite2 (fun c => ?_) (fun c => ?_)
    · have c' : j < ns.length := by simpa using c
      refine ⟨_, rfl, _, rfl, a, _, _, _, rfl, rfl, hS, atI_nat (by rw [List.getElem?_map, List.getElem?_eq_getElem c']; rfl), ?_⟩
      have e : cell ns j = ns[j] := by unfold cell; rw [List.getD_eq_getElem?_getD, List.getElem?_eq_getElem c']; rfl
      rw [← e]
      exact k
    · have c' : ns.length ≤ j := by
        have : ¬ j < ns.length := by simpa using c
        omega
      have e : cell ns j = 0 := by unfold cell; rw [List.getD_eq_getElem?_getD, List.getElem?_eq_none c']; rfl
      rw [e] at k
      exact k
/-! #### _law_doubled -/
/-- 2 ** times -/
def spDoubled : Sp := fun vs H Q _ => ∃ n : Nat, vs = [.int n] ∧ n < 1000 ∧ Q (.int (Bud.pw n)) H
theorem ok_doubled (T : Txt K mg) : DefOk P w K mg base 1 "_law_doubled" ["_law_times"] spDoubled := by
  refine mkDef T.F__law_doubled T.g__law_doubled bd__law_doubled sc__law_doubled (fun vs H Q E h => ?_) (fun cdv A outer s H vs Q E hr h => ?_)
  · obtain ⟨n, rfl, _⟩ := h
    rfl
  · obtain ⟨n, rfl, hn, k⟩ := h
    refine ⟨_, pss_cons (ps_set (i := 1) sc__law_doubled.nd rfl (Or.inl rfl) pe_int)
      (pss_cons (ps_for (passes_of rfl) rfl (pi_range1 rfl T.n_range (pa_cons (pv 0) pa_nil)) (pg_name (i := 2) sc__law_doubled.nd rfl (Or.inl rfl)) (pss_one (ps_set (i := 1) sc__law_doubled.nd rfl (Or.inl rfl) (pe_op op_mul (pv 1) pe_int))))
      (pss_one (ps_ret (pv 1)))), ?_⟩
    refine ⟨_, rfl, _, rfl, by omega, by omega, ?_⟩
    rw [show ((n : Int)).toNat = n from rfl]
    refine for_range (n := n) (fun i σ H' => H' = H ∧ ∃ v, σ = [some (.int n), some (.int (Bud.pw i)), v]) ⟨rfl, none, rfl⟩ ?_ ?_
    · rintro i σ H' hi ⟨rfl, v, rfl⟩
      refine ⟨_, rfl, _, _, rfl, rfl, .inr ⟨by decide, by decide⟩, ?_⟩
      refine ⟨rfl, some (.int (0 + (i : Int))), ?_⟩
      rw [Bud.pw_succ, Int.mul_comm 2]
      rfl
    · rintro σ H' ⟨rfl, v, rfl⟩
      exact ⟨_, rfl, k⟩
/-! #### _law_fitting -/
/-- the fitting size -/
def spFitting : Sp := fun vs H Q _ => ∃ w : Int, vs = [.int w] ∧ Q (.int (Bud.fit w)) H
theorem ok_fitting (T : Txt K mg) : DefOk P w K mg base 1 "_law_fitting" ["_law_want_here"] spFitting := by
  refine mkDef T.F__law_fitting T.g__law_fitting bd__law_fitting sc__law_fitting (fun vs H Q E h => ?_) (fun cdv A outer s H vs Q E hr h => ?_)
  · obtain ⟨n, rfl, _⟩ := h
    rfl
  · obtain ⟨n, rfl, k1⟩ := h
    refine ⟨_, pss_cons (ps_set (i := 1) sc__law_fitting.nd rfl (Or.inl rfl) pe_int)
      (pss_cons (ps_while (passes_of rfl) (pt_cmpR op_lt (pv 1) (pv 0) (nomark _)) (pss_one (ps_set (i := 1) sc__law_fitting.nd rfl (Or.inl rfl) (pe_op op_mul (pv 1) pe_int))))
      (pss_one (ps_ret (pv 1)))), ?_⟩
    refine while_n (Bud.fe n) (fun i σ H' => H' = H ∧ σ = [some (.int n), some (.int (Bud.pw i))]) ⟨rfl, rfl⟩ ?_
    rintro i σ H' hi ⟨rfl, rfl⟩
    refine ⟨_, rfl, _, rfl, _, _, rfl, rfl, _, rfl, ?_⟩
    refine ite2 (fun c => ?_) (fun c => ?_)
    · have c' : Bud.pw i < n := by simpa using c
      have hlt : i < Bud.fe n := by
        rcases Nat.lt_or_ge i (Bud.fe n) with q | q
        · exact q
        · have := Bud.pw_le q
          have := Bud.fit_ge n
          unfold Bud.fit at this
          omega
      refine ⟨_, wh_step hlt, ?_⟩
      refine ⟨_, rfl, _, _, rfl, rfl, .inr ⟨by decide, by decide⟩, rfl, ?_⟩
      rw [Bud.pw_succ, Int.mul_comm 2]
      rfl
    · have c' : ¬ Bud.pw i < n := by simpa using c
      have e : i = Bud.fe n := by
        have := Bud.fe_le (w := n) (n := i) (by omega)
        omega
      subst e
      exact ⟨_, rfl, k1⟩
/-! #### _law_yard_size -/
/-- some size -/
def spYSize (K : PySem.W.Frag) : Sp := fun vs H Q _ => ∃ (a : Addr) (ns : List Int), vs = [.ref a] ∧ SqL K H a (ns.map V.int) ∧ ∀ k : Nat, k ≤ 60 → Q (.int (Bud.pw k)) H
theorem ok_ysize (T : Txt K mg) : DefOk P w K mg base 2 "_law_yard_size" ["_law_script"] (spYSize K) := by
  refine mkDef T.F__law_yard_size T.g__law_yard_size bd__law_yard_size sc__law_yard_size (fun vs H Q E h => ?_) (fun cdv A outer s H vs Q E hr h => ?_)
  · obtain ⟨a, ns, rfl, _⟩ := h
    rfl
  · obtain ⟨a, ns, rfl, hS, k⟩ := h
    have nd := sc__law_yard_size.nd
    have hr1 : Room 1 _ := hr
    refine ⟨_, (pss_cons (ps_set (i := 1) nd rfl (Or.inl rfl) (pe_op op_mod (pe_cd (ok_cell T) hr1 (pa_cons (pv 0) (pa_cons pe_int pa_nil))) pe_int))
      (pss_cons (ps_set (i := 2) nd rfl (Or.inl rfl) (pe_cd (ok_cell T) hr1 (pa_cons (pv 0) (pa_cons pe_int pa_nil))))
      (pss_cons (ps_if (pt_cmpR op_lt (pv 1) pe_int (nomark _)) (pss_one (ps_ret (pe_cd (ok_doubled T) hr1 (pa_cons (pe_op op_mod (pv 2) pe_int) pa_nil)))) pss_nil)
      (pss_cons (ps_if (pt_cmpR op_lt (pv 1) pe_int (nomark _)) (pss_one (ps_ret (pe_cd (ok_doubled T) hr1 (pa_cons (pe_op op_mod (pv 2) pe_int) pa_nil)))) pss_nil)
      (pss_cons (ps_if (pt_cmpR op_lt (pv 1) pe_int (nomark _)) (pss_one (ps_ret (pe_cd (ok_doubled T) hr1 (pa_cons (pe_op op_add pe_int (pe_op op_mod (pv 2) pe_int)) pa_nil)))) pss_nil)
      (pss_one (ps_ret (pe_op op_pow pe_int pe_int)))))))), ?_⟩
    refine ⟨_, rfl, a, ns, 0, rfl, hS, _, _, rfl, rfl, (by show (0 : Int) < 8; decide), ?_⟩
    refine ⟨_, rfl, a, ns, 1, rfl, hS, ?_⟩
    refine ⟨_, rfl, _, _, rfl, rfl, _, rfl, ?_⟩
    refine ite2 (fun _ => ?_) (fun _ => ?_)
    · obtain ⟨n, en, hn⟩ : ∃ n : Nat, cell ns 1 % 8 = (n : Int) ∧ n < 8 := ⟨(cell ns 1 % 8).toNat, by omega, by omega⟩
      exact ⟨_, rfl, _, _, rfl, rfl, (by show (0 : Int) < 8; decide), n, by rw [← en] <;> rfl, by omega, k n (by omega)⟩
    refine ⟨_, rfl, _, _, rfl, rfl, _, rfl, ?_⟩
    refine ite2 (fun _ => ?_) (fun _ => ?_)
    · obtain ⟨n, en, hn⟩ : ∃ n : Nat, cell ns 1 % 61 = (n : Int) ∧ n < 61 := ⟨(cell ns 1 % 61).toNat, by omega, by omega⟩
      exact ⟨_, rfl, _, _, rfl, rfl, (by show (0 : Int) < 61; decide), n, by rw [← en] <;> rfl, by omega, k n (by omega)⟩
    refine ⟨_, rfl, _, _, rfl, rfl, _, rfl, ?_⟩
    refine ite2 (fun _ => ?_) (fun _ => ?_)
    · obtain ⟨n, en, hn⟩ : ∃ n : Nat, 40 + cell ns 1 % 21 = (n : Int) ∧ n ≤ 60 := ⟨(40 + cell ns 1 % 21).toNat, by omega, by omega⟩
      exact ⟨_, rfl, _, _, rfl, rfl, (by show (0 : Int) < 21; decide), _, _, rfl, rfl, n, by rw [← en] <;> rfl, by omega, k n hn⟩
    have e60 : (2 : Int) ^ (60 : Int).toNat = Bud.pw 60 := by decide +kernel
    refine ⟨_, _, rfl, rfl, ⟨by decide, by decide, by decide⟩, ?_⟩
    show Q (V.int ((2 : Int) ^ (60 : Int).toNat)) H
    rw [e60]
    exact k 60 (Nat.le_refl _)
/-! #### _law_want -/
/-- the wish that a cell tells -/
def wantF (c n : Int) : Int :=
  if c % 8 < 3 then 1 + c / 8 % 9 else if c % 8 < 6 then n / Bud.pw (c / 8 % 7).toNat + c / 8 / 7 % 3 - 1 else if c % 8 < 7 then 1 + c / 8 % n else
    if c / 8 % 3 = 0 then 0 else if c / 8 % 3 = 1 then -1 - c / 8 % 10 ^ 30 else n + 1 + c / 8 % 10 ^ 20
def spWant (K : PySem.W.Frag) : Sp := fun vs H Q _ => ∃ (c : Int) (k : Nat), vs = [.int c, .int (Bud.pw k)] ∧ ∀ H', Same H H' → Q (.int (wantF c (Bud.pw k))) H'
theorem ok_want (T : Txt K mg) : DefOk P w K mg base 2 "_law_want" ["_law_cell", "_law_cells"] (spWant K) := by
  refine mkDef T.F__law_want T.g__law_want bd__law_want sc__law_want (fun vs H Q E h => ?_) (fun cdv A outer s H vs Q E hr h => ?_)
  · obtain ⟨c, k, rfl, _⟩ := h
    rfl
  · obtain ⟨c, k, rfl, q⟩ := h
    have nd := sc__law_want.nd
    have hr1 : Room 1 _ := hr
    have hpk := Bud.pw_pos k
    refine ⟨_, (pss_cons (ps_set (i := 2) nd rfl (Or.inl rfl) (pe_op op_mod (pv 0) pe_int))
      (pss_cons (ps_set (i := 3) nd rfl (Or.inl rfl) (pe_op op_fdiv (pv 0) pe_int))
      (pss_cons (ps_if (pt_cmpR op_lt (pv 2) pe_int (nomark _)) (pss_one (ps_ret (pe_op op_add pe_int (pe_op op_mod (pv 3) pe_int)))) pss_nil)
      (pss_cons (ps_if (pt_cmpR op_lt (pv 2) pe_int (nomark _)) (pss_one (ps_ret (pe_op op_sub (pe_op op_add (pe_op op_fdiv (pv 1) (pe_cd (ok_doubled T) hr1 (pa_cons (pe_op op_mod (pv 3) pe_int) pa_nil))) (pe_op op_mod (pe_op op_fdiv (pv 3) pe_int) pe_int)) pe_int))) pss_nil)
      (pss_cons (ps_if (pt_cmpR op_lt (pv 2) pe_int (nomark _)) (pss_one (ps_ret (pe_op op_add pe_int (pe_op op_mod (pv 3) (pv 1))))) pss_nil)
      (pss_one (ps_ret (pe_ix ix_list (pe_lst (pa_cons pe_int (pa_cons (pe_op op_sub (pe_un un_neg pe_int) (pe_op op_mod (pv 3) (pe_op op_pow pe_int pe_int))) (pa_cons (pe_op op_add (pe_op op_add (pv 1) pe_int) (pe_op op_mod (pv 3) (pe_op op_pow pe_int pe_int))) pa_nil)))) (pe_op op_mod (pv 3) pe_int) (fun _ _ => rfl))))))))), ?_⟩
    refine ⟨_, rfl, _, _, rfl, rfl, (by show (0 : Int) < 8; decide), ?_⟩
    refine ⟨_, rfl, _, _, rfl, rfl, ⟨by decide, by decide⟩, ?_⟩
    unfold wantF at q
    refine ⟨_, rfl, _, _, rfl, rfl, _, rfl, ?_⟩
    refine ite2 (fun b => ?_) (fun b => ?_)
    · have b' : c % 8 < 3 := by simpa using b
      rw [if_pos b'] at q
      exact ⟨_, rfl, _, _, rfl, rfl, (by show (0 : Int) < 9; decide), _, _, rfl, rfl, q _ (Same.refl _)⟩
    have b' : ¬ c % 8 < 3 := by simpa using b
    rw [if_neg b'] at q
    refine ⟨_, rfl, _, _, rfl, rfl, _, rfl, ?_⟩
    refine ite2 (fun b => ?_) (fun b => ?_)
    · have b' : c % 8 < 6 := by simpa using b
      rw [if_pos b'] at q
      obtain ⟨n, en, hn⟩ : ∃ n : Nat, c / 8 % 7 = (n : Int) ∧ n < 7 := ⟨(c / 8 % 7).toNat, by omega, by omega⟩
      rw [en] at q
      have h6 : Bud.pw n ≤ Bud.pw 6 := Bud.pw_le (by omega)
      have e6 : Bud.pw 6 = 64 := by decide +kernel
      have h0 := Bud.pw_pos n
      exact ⟨_, rfl, _, rfl, _, _, rfl, rfl, (by show (0 : Int) < 7; decide), n, by rw [← en] <;> rfl, by omega, _, _, rfl, rfl, ⟨h0, by omega⟩, _, rfl, _, _, rfl, rfl, ⟨by decide, by decide⟩, _, _, rfl, rfl, (by show (0 : Int) < 3; decide), _, _, rfl, rfl, _, _, rfl, rfl, q _ (Same.refl _)⟩
    have b' : ¬ c % 8 < 6 := by simpa using b
    rw [if_neg b'] at q
    refine ⟨_, rfl, _, _, rfl, rfl, _, rfl, ?_⟩
    refine ite2 (fun b => ?_) (fun b => ?_)
    · have b' : c % 8 < 7 := by simpa using b
      rw [if_pos b'] at q
      exact ⟨_, rfl, _, rfl, _, _, rfl, rfl, hpk, _, _, rfl, rfl, q _ (Same.refl _)⟩
    have b' : ¬ c % 8 < 7 := by simpa using b
    rw [if_neg b'] at q
    refine ⟨_, rfl, _, rfl, _, _, rfl, rfl, ⟨by decide, by decide, by decide⟩, _, _, rfl, rfl, (by show (0 : Int) < 10 ^ 30; decide), _, _, rfl, rfl, ?_⟩
    refine ⟨_, rfl, _, _, rfl, rfl, _, rfl, _, _, rfl, rfl, ⟨by decide, by decide, by decide⟩, _, _, rfl, rfl, (by show (0 : Int) < 10 ^ 20; decide), _, _, rfl, rfl, ?_⟩
    refine ⟨(by show 3 ≤ sizeLine; decide), fun l hl => ?_⟩
    refine ⟨_, rfl, _, _, rfl, rfl, (by show (0 : Int) < 3; decide), ?_⟩
    have three : c / 8 % 3 = 0 ∨ c / 8 % 3 = 1 ∨ c / 8 % 3 = 2 := by omega
    rcases three with e | e | e
    · rw [if_pos e] at q
      exact ⟨l, _, _, _, rfl, rfl, SqL.of upd_same, by show atI _ (c / 8 % 3) = _; rw [e]; rfl, q _ (same_new hl)⟩
    · rw [if_neg (by omega), if_pos e] at q
      exact ⟨l, _, _, _, rfl, rfl, SqL.of upd_same, by show atI _ (c / 8 % 3) = _; rw [e]; rfl, q _ (same_new hl)⟩
    · rw [if_neg (by omega), if_neg (by omega)] at q
      exact ⟨l, _, _, _, rfl, rfl, SqL.of upd_same, by show atI _ (c / 8 % 3) = _; rw [e]; rfl, q _ (same_new hl)⟩
/-! #### _law_done -/
open Classical in
/-- what a turn makes of the pieces that are held -/
noncomputable def doneF {k : Nat} (t : Bud.T k) (D : List Bud.Pc) (c : Int) : List Bud.Pc :=
  if c % 4 < 2 ∨ D = [] then
    (if 1 ≤ wantF (c / 4) (Bud.pw k) then (match Bud.bestOf (Bud.frees t 0) (wantF (c / 4) (Bud.pw k)) with
      | some p => D ++ [(p.1, Bud.fit (wantF (c / 4) (Bud.pw k)))]
      | none => D) else D)
  else
    if c % 4 = 2 then Bud.without D (D.getD (c / 4 % D.length).toNat (0, 0)) else
    if 1 ≤ wantF (c / 4 / D.length) (Bud.pw k) ∧ Bud.Fits2 t (D.getD (c / 4 % D.length).toNat (0, 0)).1 (D.getD (c / 4 % D.length).toNat (0, 0)).2 (Bud.fit (wantF (c / 4 / D.length) (Bud.pw k))) then
      Bud.without D (D.getD (c / 4 % D.length).toNat (0, 0)) ++ [((D.getD (c / 4 % D.length).toNat (0, 0)).1, Bud.fit (wantF (c / 4 / D.length) (Bud.pw k)))] else D
theorem doneF_len {k : Nat} (t : Bud.T k) (D : List Bud.Pc) (c : Int) : (doneF t D c).length ≤ D.length + 1 := by
  have hw : ∀ p, (Bud.without D p).length ≤ D.length := fun p => List.length_filter_le _ _
  unfold doneF
  split
  · split
    · split
      · rw [List.length_append]; exact Nat.le_refl _
      · omega
    · omega
  · split
    · exact Nat.le_succ_of_le (hw _)
    · split
      · rw [List.length_append]
        exact Nat.succ_le_succ (hw _)
      · omega
theorem without_perm {L : List Bud.Pc} {p : Bud.Pc} (hn : L.Nodup) (hp : p ∈ L) : L.Perm (p :: Bud.without L p) := by
  obtain ⟨A, B, rfl⟩ := List.append_of_mem hp
  rw [Bud.without_mid hn]
  exact List.perm_middle
def spDone (K : PySem.W.Frag) : Sp := fun vs H Q _ => ∃ (p d : Addr) (k : Nat) (t : Bud.T k) (h : Addr) (xs : List V) (D : List Bud.Pc) (c : Int), vs = [.ref p, .ref h, .int c, .int (Bud.pw k)] ∧ YardT K H p d t ∧ H h = some (.lst xs) ∧ Prs H xs D ∧ D.Perm (Bud.outs t 0) ∧ D.length ≤ 500 ∧
  ∀ (H' : Hp) (t' : Bud.T k) (h' : Addr) (xs' : List V), Kp p d H H' → YardT K H' p d t' → (∀ l, Spare H' p l → Spare H p l ∨ H l = none) → H' h' = some (.lst xs') → Prs H' xs' (doneF t D c) → (doneF t D c).Perm (Bud.outs t' 0) → Q (.ref h') H'
theorem ok_done (T : Txt K mg) : DefOk P w K mg base 4 "_law_done" ["_law_yard", "_law_held", "_law_cell", "_law_cells"] (spDone K) := by
  refine mkDef T.F__law_done T.g__law_done bd__law_done sc__law_done (fun vs H Q E h => ?_) (fun cdv A outer s H vs Q E hr h => ?_)
  · obtain ⟨p, d, k, t, h, xs, D, c, rfl, _⟩ := h
    rfl
  · obtain ⟨p, d, k, t, h, xs, D, c, rfl, y, hl, hD, hperm, hlen, q⟩ := h
    have nd := sc__law_done.nd
    have hr1 : Room 1 _ := hr.mono (by decide)
    have hr2 : Room 2 _ := hr.mono (by decide)
    have hr3 : Room 3 _ := hr
    have hu := hr.units
    have hY := y.has
    have hlen2 : (Bud.outs t 0).length ≤ 1000 := by rw [← hperm.length_eq]; omega
    refine ⟨_, C8.pss_cut (ps_set (i := 4) nd rfl (Or.inl rfl) (pe_op op_fdiv (pv 2) pe_int))
      (pss_cons (ps_if (PW.pt (pw_or (pt_cmpR op_lt (pe_op op_mod (pv 2) pe_int) pe_int (nomark _)) (pw_or1 (pt_cmpR (op_eqPs hu) (pv 1) (pe_lst pa_nil) (nomark _)))))
        (pss_cons (ps_set (i := 5) nd rfl (Or.inl rfl) (pe_cd (ok_want T) hr2 (pa_cons (pv 4) (pa_cons (pv 3) pa_nil))))
        (pss_cons (ps_try_only rfl rfl ⟨rfl, by decide, .inl T.g_YardError⟩ (takes_of rfl rfl rfl rfl)
            (fun W pn xe tk hp => pss_one (ps_set (i := 6) nd rfl (Or.inl rfl) (by exact (pe_mE (E := WE W) (pv 0) (ok_give T) hr2 (fun σ => passAt tk σ) (pa_cons (pv 5) pa_nil)))))
            (fun a oe cls d pn hz hf => pss_one (ps_ret (pv 1))))
        (pss_one (ps_ret (pe_op op_cat (pv 1) (pe_lst (pa_cons (pe_tup (pa_cons (pv 6) (pa_cons (pe_cd (ok_fitting T) hr1 (pa_cons (pv 5) pa_nil)) pa_nil))) pa_nil)))))))
        pss_nil)
      (pss_cons (ps_set (i := 7) nd rfl (Or.inr rfl) (pe_ix ix_list (pv 1) (pe_op op_mod (pv 4) (pe_callB call_len_seq (by rfl) T.n_len PySem.boot_len (pa_cons (pv 1) pa_nil))) (fun _ _ => rfl)))
      (pss_cons (ps_setLc (i := 8) (own := [("_law_one", 10)]) (g := gName 10) (te := tVar 10) rfl nd rfl rfl (by exact sw_true (by rfl) (by rfl) (by rfl) (by decide +kernel)) (pi_list (pv 1))
          (blkOk_by (own := [("_law_one", 10)]) (N := ["_law_yard", "_law_held", "_law_cell", "_law_cells", "_law_rest", "_law_want_here", "_law_at", "_law_piece", "_law_left", "_law_size", "_law_one"]) (sc := defScope s__law_done) (by decide +kernel)) (fun _ _ _ _ _ => pg_name (i := 10) nd rfl (Or.inl rfl))
          (fun _ _ _ _ _ => pts_one (pt_cmpR (op_neP hu) (pv 10) (pv 7) (nomark _))) (fun _ _ _ _ _ => pv 10))
      (pss_cons (ps_if (pt_cmpR op_eq (pe_op op_mod (pv 2) pe_int) pe_int (nomark _))
        (pss_cons (ps_expr (pe_m (pv 0) (ok_take_back T) hr3 (pa_cons (pe_p0 (pv 7)) pa_nil)))
        (pss_one (ps_ret (pv 8)))) pss_nil)
      (pss_cons (ps_set (i := 5) nd rfl (Or.inl rfl) (pe_cd (ok_want T) hr2 (pa_cons (pe_op op_fdiv (pv 4) (pe_callB call_len_seq (by rfl) T.n_len PySem.boot_len (pa_cons (pv 1) pa_nil))) (pa_cons (pv 3) pa_nil))))
      (pss_cons (ps_try_only rfl rfl ⟨rfl, by decide, .inl T.g_YardError⟩ (takes_of rfl rfl rfl rfl)
          (fun W pn xe tk hp => pss_one (ps_set (i := 9) nd rfl (Or.inl rfl) (by exact (pe_mE (E := WE W) (pv 0) (ok_resize T) hr3 (fun σ => passAt tk σ) (pa_cons (pe_p0 (pv 7)) (pa_cons (pv 5) pa_nil))))))
          (fun a oe cls d pn hz hf => pss_one (ps_ret (pv 1))))
      (pss_one (ps_ret (pe_op op_cat (pv 8) (pe_lst (pa_cons (pe_tup (pa_cons (pe_p0 (pv 7)) (pa_cons (pv 9) pa_nil))) pa_nil))))))))))), ?_⟩
    refine ⟨fun σ H' => H' = H ∧ σ = [some (.ref p), some (.ref h), some (.int c), some (.int (Bud.pw k)), some (.int (c / 4)), none, none, none, none, none, none], ⟨_, rfl, _, _, rfl, rfl, ⟨by decide, by decide⟩, rfl, rfl⟩, ?_⟩
    rintro σ H' ⟨rfl, rfl⟩
    have hq0 : ∀ H2, Same H' H2 → doneF t D c = D → Q (.ref h) H2 := fun H2 s1 e => q H2 t h xs (Same.kp s1 p d) (y.same s1) (fun l hs => .inl (Spare.same s1 hY hs)) (s1 _ _ hl) (by rw [e]; exact hD.kept (Same.tups s1)) (by rw [e]; exact hperm)
    have hxs : xs.length ≤ 500 := by rw [hD.length]; exact hlen
    refine ifN (decide (c % 4 < 2 ∨ D = [])) (fun R q1 => ?_) (fun e H1 s1 => ?_) (fun e H1 s1 => ?_)
    · refine ⟨_, rfl, _, _, rfl, rfl, (by show (0 : Int) < 4; decide), _, _, rfl, rfl, _, rfl, ?_⟩
      refine ite2 (fun b => ?_) (fun b => ?_)
      · have b' : c % 4 < 2 := by simpa using b
        have := q1 _ (Same.refl _)
        rw [decide_eq_true (Or.inl b')] at this
        exact this
      · have b' : ¬ c % 4 < 2 := by simpa using b
        refine ⟨_, rfl, Nat.zero_le _, fun l hl0 => ⟨h, l, xs, [], D, [], rfl, rfl, SqL.of ((same_new hl0) _ _ hl), SqL.of upd_same, hD.kept (tups_upd hl0), .nil, _, rfl, ?_⟩⟩
        have := q1 _ (same_new hl0 (o := .lst []))
        have ed : decide (D = []) = decide (c % 4 < 2 ∨ D = []) := decide_eq_decide.mpr ⟨Or.inr, fun z => z.resolve_left b'⟩
        rw [← ed] at this
        exact this
    · have hb : c % 4 < 2 ∨ D = [] := of_decide_eq_true e
      have eF : doneF t D c = (if 1 ≤ wantF (c / 4) (Bud.pw k) then (match Bud.bestOf (Bud.frees t 0) (wantF (c / 4) (Bud.pw k)) with
        | some p => D ++ [(p.1, Bud.fit (wantF (c / 4) (Bud.pw k)))]
        | none => D) else D) := by unfold doneF; rw [if_pos hb]
      refine ⟨_, rfl, _, rfl, c / 4, k, rfl, fun H2 s2 => ?_⟩
      revert eF
      generalize wantF (c / 4) (Bud.pw k) = w
      intro eF
      have s12 := s1.trans s2
      have y2 := y.same s12
      obtain ⟨dx, fs, ef, nm, _⟩ := y2.at_
      refine ⟨_, rfl, p, dx, fs, rfl, ef, nm.give, _, rfl, p, d, k, t, w, rfl, y2, hlen2, fun hw => ?_, fun hw hb => ?_, fun hw a S hb H3 t3 k3 y3 sp3 perm3 => ?_⟩
      · refine ⟨true, T.e_NoWish_YardError, fun _ _ _ => ⟨_, rfl, hq0 H2 s12 ?_⟩, fun q => Bool.noConfusion q⟩
        rw [eF, if_neg (by omega)]
      · refine ⟨true, T.e_NoRoom_YardError, fun _ _ _ => ⟨_, rfl, hq0 H2 s12 ?_⟩, fun q => Bool.noConfusion q⟩
        rw [eF, if_pos hw, hb]
      · rw [if_pos hw, hb] at eF
        have eF2 : doneF t D c = D ++ [(a, Bud.fit w)] := eF
        refine ⟨_, rfl, _, rfl, _, rfl, w, rfl, (by show 2 ≤ sizeLine; decide), fun tt ht => ⟨(by show 1 ≤ sizeLine; decide), fun l hl2 => ?_⟩⟩
        have s4 : Same H3 (upd (upd H3 tt (.tup [.int a, .int (Bud.fit w)])) l (.lst [.ref tt])) := (same_new ht).trans (same_new hl2)
        have hl3 : H3 h = some (.lst xs) := y2.has.lst k3 (s12 _ _ hl)
        refine ⟨h, l, xs, _, rfl, rfl, s4 _ _ hl3, upd_same, ?_, fun r hr0 => ?_⟩
        · rw [sizeLine_eq]
          show xs.length + 1 ≤ _
          omega
        have s5 := s4.trans (same_new hr0 (o := .lst (xs ++ [.ref tt])))
        refine q _ t3 r _ (fun b o hb nbp nbd => s5 _ _ (k3 _ _ (s12 _ _ hb) nbp nbd)) (y3.same s5) (fun l' hs => .inr (Same.none s12 (sp3 _ (Spare.same s5 y3.has hs)))) upd_same ?_ ?_
        · rw [eF2]
          refine Prs.append ((y.has.prs (fun b o hb nbp nbd => s5 _ _ (k3 _ _ (s12 _ _ hb) nbp nbd)) hD)) (.cons ⟨tt, rfl, ?_⟩ .nil)
          exact (same_new hr0) _ _ ((same_new hl2) _ _ upd_same)
        · rw [eF2]
          refine (List.perm_append_comm (l₁ := D) (l₂ := [(a, Bud.fit w)])).trans ?_
          exact (hperm.cons _).trans perm3.symm
    · have hb : ¬ (c % 4 < 2 ∨ D = []) := of_decide_eq_false e
      have eF := show doneF t D c = _ by unfold doneF; exact if_neg hb
      have hne : D ≠ [] := fun z => hb (.inr z)
      have hpos : 0 < D.length := List.length_pos_iff.mpr hne
      have hj : (c / 4 % D.length).toNat < D.length := by
        have h1 := Int.emod_nonneg (c / 4) (b := (D.length : Int)) (by omega)
        have h2 := Int.emod_lt_of_pos (c / 4) (b := (D.length : Int)) (by omega)
        omega
      obtain ⟨j, ej⟩ : ∃ j : Nat, c / 4 % D.length = (j : Int) := ⟨(c / 4 % D.length).toNat, by
        have h1 := Int.emod_nonneg (c / 4) (b := (D.length : Int)) (by omega)
        omega⟩
      rw [ej] at hj eF
      have hj : j < D.length := hj
      have ep : D.getD ((j : Int)).toNat (0, 0) = D[j] := by
        show D.getD j (0, 0) = _
        rw [List.getD_eq_getElem?_getD, List.getElem?_eq_getElem hj]
        rfl
      rw [ep] at eF
      obtain ⟨x, hx, hpr⟩ := hD.get' (i := j) (List.getElem?_eq_getElem hj)
      have hmem : D[j] ∈ D := List.getElem_mem _
      have homem : D[j] ∈ Bud.outs t 0 := hperm.mem_iff.mp hmem
      generalize D[j] = g at *
      obtain ⟨ga, gs⟩ := g
      have ndD : D.Nodup := hperm.nodup_iff.mpr (Bud.nodup_outs t (Bud.zdvd k))
      have hl1 := s1 _ _ hl
      have hD1 := hD.kept (Same.tups s1)
      have hpr1 := hpr.kept (Same.tups s1)
      refine ⟨_, rfl, _, rfl, _, rfl, h, _, rfl, .inl (SqL.of hl1), _, _, rfl, rfl, (by show (0 : Int) < (xs.length : Int); rw [hD.length]; omega), h, xs, _, x, rfl, rfl, SqL.of hl1, ?_, ?_⟩
      · show atI xs (c / 4 % (xs.length : Int)) = _
        rw [hD.length, ej]
        exact atI_nat hx
      refine ⟨_, rfl, h, rfl, ⟨_, SqL.of hl1⟩, fun B hB => ?_⟩
      refine lc_list (K := K) (a := h) (xs := xs) (fun i H' => ∃ ys, H' = upd H1 B (.lst ys) ∧ Prs H1 ys (Bud.without (D.take i) (ga, gs))) ⟨[], rfl, .nil⟩ (fun i H' _ ⟨ys, e, _⟩ => by rw [e]; exact (same_new hB).seq (SqL.of hl1)) ?_ ?_
      · rintro i z H' hi ⟨ys, rfl, hys⟩
        obtain ⟨g', hg', hz⟩ := hD1.get hi
        have kt : TupKept H1 (upd H1 B (.lst ys)) := tups_upd hB
        refine ⟨rfl, _, rfl, _, rfl, g', _, hz.kept kt, hpr1.kept kt, _, rfl, ?_⟩
        have hw := without_take (p := ((ga, gs) : Bud.Pc)) hg'
        refine ite2 (fun c => ?_) (fun c => ?_)
        · have c' : ¬ g' = (ga, gs) := by simpa using c
          rw [if_neg c'] at hw
          have hlt : ys.length < sizeLine := by
            have h1 := hys.length
            have h2 : (Bud.without (D.take i) (ga, gs)).length ≤ D.length := Nat.le_trans (List.length_filter_le _ _) (by rw [List.length_take]; omega)
            rw [sizeLine_eq]
            omega
          refine ⟨_, rfl, ys, upd_same, hlt, ys ++ [z], by rw [upd_upd], ?_⟩
          rw [hw]
          exact hys.append (.cons hz .nil)
        · have c' : g' = (ga, gs) := by simpa using c
          rw [if_pos c', List.append_nil] at hw
          exact ⟨ys, rfl, by rw [hw]; exact hys⟩
      rintro H2 ⟨ys, rfl, hys⟩
      rw [hD.length, List.take_length] at hys
      have s2 : Same H1 (upd H1 B (.lst ys)) := same_new hB
      replace hys := hys.kept (Same.tups s2)
      generalize hH2 : upd H1 B (.lst ys) = H2 at *
      have hB2 : H2 B = some (.lst ys) := by rw [← hH2]; exact upd_same
      have s12 := s1.trans s2
      have y2 := y.same s12
      have hY2 := y2.has
      obtain ⟨dx, fs, ef, nm, _⟩ := y2.at_
      have hpr2 := hpr1.kept (Same.tups s2)
      have hDw := without_perm ndD hmem
      refine ⟨_, rfl, _, _, rfl, rfl, (by show (0 : Int) < 4; decide), rfl, _, rfl, ?_⟩
      refine ite2 (fun b => ?_) (fun b => ?_)
      · have b' : c % 4 = 2 := by simpa using b
        rw [if_pos b'] at eF
        refine ⟨_, rfl, p, dx, fs, rfl, ef, nm.take, _, rfl, (ga, gs), hpr2, p, d, k, t, ga, rfl, y2, hlen2, fun z => absurd rfl (z _ homem), fun s' hs H3 t3 k3 y3 sp3 perm3 => ?_⟩
        have es : s' = gs := Bud.key_uniq hs homem
        subst es
        refine ⟨_, rfl, q H3 t3 B ys (fun b o hb nbp nbd => k3 _ _ (s12 _ _ hb) nbp nbd) y3 (fun l hs => .inr (Same.none s12 (sp3 _ hs))) (hY2.lst k3 hB2) ?_ ?_⟩
        · rw [eF]
          exact hY2.prs k3 hys
        · rw [eF]
          exact List.Perm.cons_inv (hDw.symm.trans (hperm.trans perm3))
      have b' : ¬ c % 4 = 2 := by simpa using b
      rw [if_neg b'] at eF
      refine ⟨_, rfl, _, rfl, h, _, rfl, .inl (SqL.of (s12 _ _ hl)), _, _, rfl, rfl, (by show 0 < (xs.length : Int) ∧ (xs.length : Int) < 1073741824; rw [hD.length]; omega), _, rfl, _, k, rfl, fun H3 s3 => ?_⟩
      rw [hD.length]
      revert eF
      generalize wantF (c / 4 / (D.length : Int)) (Bud.pw k) = w
      intro eF
      have s13 := s12.trans s3
      have y3 := y.same s13
      have hY3 := y3.has
      obtain ⟨dx, fs, ef, nm, _⟩ := y3.at_
      have hpr3 := hpr2.kept (Same.tups s3)
      refine ⟨_, rfl, p, dx, fs, rfl, ef, nm.resize, _, rfl, (ga, gs), hpr3, _, rfl, p, d, k, t, ga, w, rfl, y3, hlen2, fun z => absurd rfl (z _ homem), fun s' hs => ?_⟩
      have es : s' = gs := Bud.key_uniq hs homem
      subst es
      refine ⟨fun hw => ?_, fun hw hnf H4 s4 => ?_, fun hw hf H4 t4 k4 y4 sp4 perm4 => ?_⟩
      · refine ⟨true, T.e_NoWish_YardError, fun _ _ _ => ⟨_, rfl, hq0 H3 s13 ?_⟩, fun q => Bool.noConfusion q⟩
        rw [eF, if_neg (fun z => absurd z.1 (by omega))]
      · refine ⟨true, T.e_NoRoom_YardError, fun _ _ _ => ⟨_, rfl, hq0 H4 (s13.trans s4) ?_⟩, fun q => Bool.noConfusion q⟩
        rw [eF, if_neg (fun z => hnf z.2)]
      · rw [if_pos ⟨hw, hf⟩] at eF
        have hpr4 := hpr3.kept (hY3.tups k4)
        have hB4 : H4 B = some (.lst ys) := hY3.lst k4 (s3 _ _ hB2)
        refine ⟨_, rfl, _, rfl, (ga, s'), hpr4, _, rfl, (by show 2 ≤ sizeLine; decide), fun tt ht => ⟨(by show 1 ≤ sizeLine; decide), fun l hl2 => ?_⟩⟩
        have s5 : Same H4 (upd (upd H4 tt (.tup [.int ga, .int (Bud.fit w)])) l (.lst [.ref tt])) := (same_new ht).trans (same_new hl2)
        have hyl : ys.length ≤ 500 := by
          have h1 := hys.length
          have h2 : (Bud.without D (ga, s')).length ≤ D.length := List.length_filter_le _ _
          omega
        refine ⟨B, l, ys, _, rfl, rfl, s5 _ _ hB4, upd_same, ?_, fun r hr0 => ?_⟩
        · rw [sizeLine_eq]
          show ys.length + 1 ≤ _
          omega
        have s6 := s5.trans (same_new hr0 (o := .lst (ys ++ [.ref tt])))
        refine q _ t4 r _ (fun b o hb nbp nbd => s6 _ _ (k4 _ _ (s13 _ _ hb) nbp nbd)) (y4.same s6) (fun l' hs => .inr (Same.none s13 (sp4 _ (Spare.same s6 y4.has hs)))) upd_same ?_ ?_
        · rw [eF]
          refine Prs.append ((hY3.prs k4 (hys.kept (Same.tups s3))).kept (Same.tups s6)) (.cons ⟨tt, rfl, ?_⟩ .nil)
          exact (same_new hr0) _ _ ((same_new hl2) _ _ upd_same)
        · rw [eF]
          refine (List.perm_append_comm (l₁ := Bud.without D (ga, s')) (l₂ := [(ga, Bud.fit w)])).trans ?_
          refine (List.Perm.cons _ ?_).trans perm4.symm
          have e1 : (Bud.outs t 0).Perm ((ga, s') :: (Bud.outs t 0).erase (ga, s')) := List.perm_cons_erase homem
          exact List.Perm.cons_inv (hDw.symm.trans (hperm.trans e1))
/-! #### _law_touched -/
/-- how many blocks of a size are touched -/
def spTouched (K : PySem.W.Frag) : Sp := fun vs H Q _ => ∃ (l : Addr) (xs : List V) (D : List Bud.Pc) (m : Nat), vs = [.ref l, .int (Bud.pw m)] ∧ H l = some (.lst xs) ∧ Prs H xs D ∧ m ≤ 60 ∧ D.length ≤ 1000 ∧
  ∀ (H' : Hp) (B : List Int), Same H H' → B.Nodup → (∀ x, x ∈ B ↔ ∃ p ∈ D, p.2 < Bud.pw m ∧ p.1 / Bud.pw m = x) → Q (.int (Bud.cov D (Bud.pw m) + B.length)) H'
theorem filt_take {α : Type} {L : List α} {i : Nat} {g : α} (f : α → Bool) (h : L[i]? = some g) : (L.take (i + 1)).filter f = (L.take i).filter f ++ (if f g = true then [g] else []) := by
  rw [List.take_add_one, h, List.filter_append]
  congr 1
  show List.filter f [g] = _
  by_cases e : f g = true
  · rw [if_pos e, List.filter_cons_of_pos e]
    rfl
  · rw [if_neg e, List.filter_cons_of_neg e]
    rfl
theorem ok_touched (T : Txt K mg) : DefOk P w K mg base 1 "_law_touched" ["_law_held", "_law_size"] (spTouched K) := by
  refine mkDef T.F__law_touched T.g__law_touched bd__law_touched sc__law_touched (fun vs H Q E h => ?_) (fun cdv A outer s H vs Q E hr h => ?_)
  · obtain ⟨l, xs, D, m, rfl, _⟩ := h
    rfl
  · obtain ⟨l, xs, D, m, rfl, hl, hD, hm, hlen, k⟩ := h
    have nd := sc__law_touched.nd
    have hp := Bud.pw_pos m
    have h60 := Bud.pw_le hm
    have e60 := pw60
    have hs : (Bud.pw m).natAbs < 2 ^ 62 := by omega
    refine ⟨_, (pss_cons (ps_set (i := 2) nd rfl (Or.inl rfl) (pe_callB (cr_sum rfl) (by rfl) T.n_sum (by decide +kernel) (pa_cons (pe_lc (own := [("_law_piece", 3)]) (g := gName 3) (tt := tTest (tOp (rI0 fun i j => V.bl (decide (j ≤ i))) (tSel1 (tVar 3)) (tVar 1))) (te := tOp (rI CDivW fun i j => V.int (i / j)) (tSel1 (tVar 3)) (tVar 1)) (by rfl) nd (pi_list (pv 0))
          (blkOk_by (own := [("_law_piece", 3)]) (N := ["_law_held", "_law_size", "_law_covered", "_law_piece"]) (sc := defScope s__law_touched) (by decide +kernel)) (fun _ _ _ _ _ => pg_name (i := 3) nd rfl (Or.inl rfl))
          (fun _ _ _ _ _ => pts_one (pt_cmpR op_ge (pe_p1 (pv 3)) (pv 1) (nomark _))) (fun _ _ _ _ _ => pe_op op_fdivW (pe_p1 (pv 3)) (pv 1))) pa_nil)))
      (pss_one (ps_ret (pe_op op_add (pv 2) (pe_callB cr_lenSet (by rfl) T.n_len PySem.boot_len (pa_cons (pe_callTy (cr_setOfInts rfl) (by rfl) T.n_set (by decide +kernel) (pa_cons (pe_lc (own := [("_law_piece", 3)]) (g := gName 3) (tt := tTest (tOp (rI0 fun i j => V.bl (decide (i < j))) (tSel1 (tVar 3)) (tVar 1))) (te := tOp (rI CDivW fun i j => V.int (i / j)) (tSel0 (tVar 3)) (tVar 1)) (by rfl) nd (pi_list (pv 0))
          (blkOk_by (own := [("_law_piece", 3)]) (N := ["_law_held", "_law_size", "_law_covered", "_law_piece"]) (sc := defScope s__law_touched) (by decide +kernel)) (fun _ _ _ _ _ => pg_name (i := 3) nd rfl (Or.inl rfl))
          (fun _ _ _ _ _ => pts_one (pt_cmpR op_lt (pe_p1 (pv 3)) (pv 1) (nomark _))) (fun _ _ _ _ _ => pe_op op_fdivW (pe_p0 (pv 3)) (pv 1))) pa_nil)) pa_nil)))))), ?_⟩
    refine ⟨_, rfl, l, rfl, ⟨_, SqL.of hl⟩, fun C hC => ?_⟩
    refine lc_list (K := K) (a := l) (xs := xs) (fun i H' => H' = upd H C (.lst ((((D.take i).filter fun p => decide (Bud.pw m ≤ p.2)).map fun p => p.2 / Bud.pw m).map V.int))) rfl (fun i H' _ e => by rw [e]; exact (same_new hC).seq (SqL.of hl)) ?_ ?_
    · rintro i z H' hi rfl
      obtain ⟨g, hg, hz⟩ := hD.get hi
      have hz1 := hz.kept (tups_upd hC (o := .lst ((((D.take i).filter fun p => decide (Bud.pw m ≤ p.2)).map fun p => p.2 / Bud.pw m).map V.int)))
      have hft := filt_take (fun p => decide (Bud.pw m ≤ p.2)) hg
      refine ⟨rfl, _, rfl, g, hz1, _, rfl, _, _, rfl, rfl, _, rfl, ?_⟩
      refine ite2 (fun c => ?_) (fun c => ?_)
      · rw [if_pos c] at hft
        refine ⟨_, rfl, g, hz1, _, rfl, _, _, rfl, rfl, wide_div hp hs (by decide) (by decide), _, upd_same, ?_, ?_⟩
        · have h2 : ((D.take i).filter fun p => decide (Bud.pw m ≤ p.2)).length ≤ D.length := Nat.le_trans (List.length_filter_le _ _) (by rw [List.length_take]; omega)
          rw [List.length_map, List.length_map, sizeLine_eq]
          omega
        · rw [upd_upd, hft, List.map_append, List.map_append]
          rfl
      · rw [if_neg c, List.append_nil] at hft
        rw [hft]
    rintro H1 rfl
    rw [hD.length, List.take_length]
    have s1 : Same H (upd H C (.lst (((D.filter fun p => decide (Bud.pw m ≤ p.2)).map fun p => p.2 / Bud.pw m).map V.int))) := same_new hC
    refine ⟨C, _, rfl, SqL.of upd_same, ?_⟩
    generalize upd H C (.lst (((D.filter fun p => decide (Bud.pw m ≤ p.2)).map fun p => p.2 / Bud.pw m).map V.int)) = H1 at *
    have hl1 := s1 _ _ hl
    have hD1 := hD.kept (Same.tups s1)
    refine ⟨_, rfl, ?_⟩
    refine ⟨_, rfl, l, rfl, ⟨_, SqL.of hl1⟩, fun C2 hC2 => ?_⟩
    refine lc_list (K := K) (a := l) (xs := xs) (fun i H' => H' = upd H1 C2 (.lst ((((D.take i).filter fun p => decide (p.2 < Bud.pw m)).map fun p => p.1 / Bud.pw m).map V.int))) rfl (fun i H' _ e => by rw [e]; exact (same_new hC2).seq (SqL.of hl1)) ?_ ?_
    · rintro i z H' hi rfl
      obtain ⟨g, hg, hz⟩ := hD1.get hi
      have hz1 := hz.kept (tups_upd hC2 (o := .lst ((((D.take i).filter fun p => decide (p.2 < Bud.pw m)).map fun p => p.1 / Bud.pw m).map V.int)))
      have hft := filt_take (fun p => decide (p.2 < Bud.pw m)) hg
      refine ⟨rfl, _, rfl, g, hz1, _, rfl, _, _, rfl, rfl, _, rfl, ?_⟩
      refine ite2 (fun c => ?_) (fun c => ?_)
      · rw [if_pos c] at hft
        refine ⟨_, rfl, g, hz1, _, rfl, _, _, rfl, rfl, wide_div hp hs (by decide) (by decide), _, upd_same, ?_, ?_⟩
        · have h2 : ((D.take i).filter fun p => decide (p.2 < Bud.pw m)).length ≤ D.length := Nat.le_trans (List.length_filter_le _ _) (by rw [List.length_take]; omega)
          rw [List.length_map, List.length_map, sizeLine_eq]
          omega
        · rw [upd_upd, hft, List.map_append, List.map_append]
          rfl
      · rw [if_neg c, List.append_nil] at hft
        rw [hft]
    rintro H2 rfl
    rw [hD.length, List.take_length]
    refine ⟨C2, _, rfl, SqL.of upd_same, ?_, fun p S B hp0 hn hB => ?_⟩
    · have h2 : (D.filter fun p => decide (p.2 < Bud.pw m)).length ≤ D.length := List.length_filter_le _ _
      rw [List.length_map]
      omega
    refine ⟨p, S, _, rfl, upd_same, _, _, rfl, rfl, k _ B ((s1.trans (same_new hC2)).trans (same_new hp0)) hn fun x => ?_⟩
    rw [hB, List.mem_map]
    constructor
    · rintro ⟨q, hq, rfl⟩
      obtain ⟨h1, h2⟩ := List.mem_filter.mp hq
      exact ⟨q, h1, of_decide_eq_true h2, rfl⟩
    · rintro ⟨q, h1, h2, rfl⟩
      exact ⟨q, List.mem_filter.mpr ⟨h1, decide_eq_true h2⟩, rfl⟩
/-! #### _law_due -/
open Classical in
/-- what is due of some wishes at once -/
noncomputable def dueS {k : Nat} (t : Bud.T k) (ws : List Int) (M : List Bud.Pc) : Str :=
  if ∃ w ∈ ws, w < 1 then "wish" else if (∃ w ∈ ws, Bud.pw k < w) ∨ ¬ ∃ as t', Bud.Gives ws t (Bud.ordN M) as t' then "room" else ""
theorem cov_ints (ws : List Int) (s : Int) : Bud.cov (ws.map fun w => (0, Bud.fit w)) s = (((ws.map Bud.fit).filter fun f => decide (s ≤ f)).map fun f => f / s).sum := by
  unfold Bud.cov
  rw [List.filter_map, List.filter_map, List.map_map, List.map_map]
  rfl
def spDue (K : PySem.W.Frag) : Sp := fun vs H Q _ => ∃ (h l : Addr) (xs : List V) (D : List Bud.Pc) (ws : List Int) (k : Nat) (t : Bud.T k) (M : List Bud.Pc), vs = [.ref h, .ref l, .int (Bud.pw k)] ∧ k ≤ 60 ∧ Bud.Can t ∧ H h = some (.lst xs) ∧ Prs H xs D ∧ D.Perm (Bud.outs t 0) ∧ D.length ≤ 1000 ∧
  SqL K H l (ws.map V.int) ∧ ws.length ≤ 200 ∧ M.Perm (Bud.ordP ws) ∧ Bud.Srt M ∧ ∀ H', Same H H' → Q (.str (dueS t ws M)) H'
theorem ok_due (T : Txt K mg) : DefOk P w K mg base 2 "_law_due" ["_law_held", "_law_wants", "_law_cells"] (spDue K) := by
  refine mkDef T.F__law_due T.g__law_due bd__law_due sc__law_due (fun vs H Q E h => ?_) (fun cdv A outer s H vs Q E hr h => ?_)
  · obtain ⟨h, l, xs, D, ws, k, t, M, rfl, _⟩ := h
    rfl
  · obtain ⟨h, l, xs, D, ws, k, t, M, rfl, hk, hc, hh, hD, perm, hlen, hl, hwl, hM, sM, kQ⟩ := h
    have nd := sc__law_due.nd
    have hr1 : Room 1 _ := hr
    have hu := hr.units
    have hpk := Bud.pw_pos k
    have hk60 := Bud.pw_le hk
    have e60 := pw60
    refine ⟨_, (C8.pss_cut (ps_if (pt_cmpR op_lt (pe_callBK (cr_minD (by rfl) hu) (by rfl) T.n_min (by decide +kernel) (pa_cons (pv 1) pa_nil) (pk_cons pe_int pk_nil)) pe_int (nomark _)) (pss_one (ps_ret pe_str)) pss_nil)
      (C8.pss_cut (ps_if (pt_cmpR op_gt (pe_callBK (cr_maxD (by rfl) hu) (by rfl) T.n_max (by decide +kernel) (pa_cons (pv 1) pa_nil) (pk_cons pe_int pk_nil)) (pv 2) (nomark _)) (pss_one (ps_ret pe_str)) pss_nil)
      (C8.pss_cut (ps_setLc (i := 3) (own := [("_law_want_here", 6)]) (g := gName 6) (tt := tYes) (te := tCall spFitting [] E0 (tCons (tVar 6) tNil)) (by rfl) nd rfl rfl (by exact sw_true (by rfl) (by rfl) (by rfl) (by decide +kernel)) (pi_list (pv 1))
          (blkOk_by (own := [("_law_want_here", 6)]) (N := ["_law_held", "_law_wants", "_law_cells", "_law_fitting_here", "_law_size", "_law_needed", "_law_want_here", "_law_part"]) (sc := defScope s__law_due) (by decide +kernel)) (fun _ _ _ _ _ => pg_name (i := 6) nd rfl (Or.inl rfl))
          (fun _ _ _ _ _ => pts_nil) (fun _ _ _ _ _ => pe_cd (ok_fitting T) (by exact hr1) (pa_cons (pv 6) pa_nil)))
      (pss_cons (ps_set (i := 4) nd rfl (Or.inr rfl) pe_int)
      (pss_cons (ps_while (passes_of rfl) (pt_cmpR op_le (pv 4) (pv 2) (nomark _))
        (C8.pss_cut (ps_set (i := 5) nd rfl (Or.inl rfl) (pe_callB (cr_sum rfl) (by rfl) T.n_sum (by decide +kernel) (pa_cons (pe_lc (own := [("_law_part", 7)]) (g := gName 7) (tt := tTest (tOp (rI0 fun i j => V.bl (decide (j ≤ i))) (tVar 7) (tVar 4))) (te := tOp (rI CDivW fun i j => V.int (i / j)) (tVar 7) (tVar 4)) (by rfl) nd (pi_list (pv 3))
          (blkOk_by (own := [("_law_part", 7)]) (N := ["_law_held", "_law_wants", "_law_cells", "_law_fitting_here", "_law_size", "_law_needed", "_law_want_here", "_law_part"]) (sc := defScope s__law_due) (by decide +kernel)) (fun _ _ _ _ _ => pg_name (i := 7) nd rfl (Or.inl rfl))
          (fun _ _ _ _ _ => pts_one (pt_cmpR op_ge (pv 7) (pv 4) (nomark _))) (fun _ _ _ _ _ => pe_op op_fdivW (pv 7) (pv 4))) pa_nil)))
        (pss_cons (ps_if (pt_cmpR op_gt (pv 5) (pe_op op_sub (pe_op op_fdivW (pv 2) (pv 4)) (pe_cd (ok_touched T) hr1 (pa_cons (pv 0) (pa_cons (pv 4) pa_nil)))) (nomark _)) (pss_one (ps_ret pe_str)) pss_nil)
        (pss_one (ps_set (i := 4) nd rfl (Or.inr rfl) (pe_op op_mul (pv 4) pe_int))))))
      (pss_one (ps_ret pe_str))))))), ?_⟩
    -- the least
    have hmin : (∃ w ∈ ws, w < 1) ∨ ∀ w ∈ ws, 1 ≤ w := by
      by_cases c : ∃ w ∈ ws, w < 1
      · exact .inl c
      · exact .inr fun w hw => by
          have : ¬ w < 1 := fun z => c ⟨w, hw, z⟩
          omega
    have hwish : (∃ w ∈ ws, w < 1) → Q (.str "wish") H := fun c => by
      have e : dueS t ws M = "wish" := by unfold dueS; rw [if_pos c]
      rw [← e]
      exact kQ _ (Same.refl _)
    have hroom : (∀ w ∈ ws, 1 ≤ w) → ((∃ w ∈ ws, Bud.pw k < w) ∨ ¬ ∃ as t', Bud.Gives ws t (Bud.ordN M) as t') → ∀ H', Same H H' → Q (.str "room") H' := fun c1 c2 H' s1 => by
      have e : dueS t ws M = "room" := by
        unfold dueS
        rw [if_neg (fun ⟨w, hw, z⟩ => by have := c1 w hw; omega), if_pos c2]
      rw [← e]
      exact kQ _ s1
    have hfine : (∀ w ∈ ws, 1 ≤ w ∧ w ≤ Bud.pw k) → (∃ as t', Bud.Gives ws t (Bud.ordN M) as t') → ∀ H', Same H H' → Q (.str "") H' := fun c1 c2 H' s1 => by
      have e : dueS t ws M = "" := by
        unfold dueS
        rw [if_neg (fun ⟨w, hw, z⟩ => by have := c1 w hw; omega), if_neg]
        rintro (⟨w, hw, z⟩ | z)
        · have := c1 w hw
          omega
        · exact z c2
      rw [← e]
      exact kQ _ s1
    refine ⟨fun σ H' => H' = H ∧ σ = [some (.ref h), some (.ref l), some (.int (Bud.pw k)), none, none, none, none, none] ∧ ∀ w ∈ ws, 1 ≤ w, ?_, ?_⟩
    refine ⟨_, rfl, l, ws, 1, rfl, rfl, hl, fun e0 => ⟨_, _, rfl, rfl, _, rfl, ?_⟩, fun m hm1 hm2 => ⟨_, _, rfl, rfl, _, rfl, ?_⟩⟩
    · refine iteF ⟨rfl, rfl, fun w hw => ?_⟩
      rw [e0] at hw
      cases hw
    · refine ite2 (fun b => ?_) (fun b => ?_)
      · have b' : m < 1 := by simpa using b
        exact hwish ⟨m, hm1, b'⟩
      · have b' : ¬ m < 1 := by simpa using b
        exact ⟨rfl, rfl, fun w hw => by have := hm2 w hw; omega⟩
    rintro σ H' ⟨rfl, rfl, c1⟩
    -- the greatest
    refine ⟨fun σ H1 => H1 = H' ∧ σ = [some (.ref h), some (.ref l), some (.int (Bud.pw k)), none, none, none, none, none] ∧ ∀ w ∈ ws, w ≤ Bud.pw k, ?_, ?_⟩
    · refine ⟨_, rfl, l, ws, 1, rfl, rfl, hl, fun e0 => ⟨_, rfl, _, _, rfl, rfl, _, rfl, ?_⟩, fun m hm1 hm2 => ⟨_, rfl, _, _, rfl, rfl, _, rfl, ?_⟩⟩
      · rw [decide_eq_false (by omega)]
        refine iteF ⟨rfl, rfl, fun w hw => ?_⟩
        rw [e0] at hw
        cases hw
      · refine ite2 (fun b => ?_) (fun b => ?_)
        · have b' : Bud.pw k < m := by simpa using b
          exact hroom c1 (.inl ⟨m, hm1, b'⟩) _ (Same.refl _)
        · have b' : ¬ Bud.pw k < m := by simpa using b
          exact ⟨rfl, rfl, fun w hw => by have := hm2 w hw; omega⟩
    rintro σ H' ⟨rfl, rfl, c2⟩
    have call : ∀ w ∈ ws, 1 ≤ w ∧ w ≤ Bud.pw k := fun w hw => ⟨c1 w hw, c2 w hw⟩
    have hiff := Bud.gives_iff hc hM sM call
    -- the fitting sizes
    refine ⟨fun σ H1 => ∃ f, σ = [some (.ref h), some (.ref l), some (.int (Bud.pw k)), some (.ref f), none, none, none, none] ∧ Same H' H1 ∧ H1 f = some (.lst ((ws.map Bud.fit).map V.int)), ?_, ?_⟩
    · refine ⟨_, rfl, l, rfl, ⟨_, hl⟩, fun C hC => ?_⟩
      refine lc_list (K := K) (a := l) (xs := ws.map V.int) (fun i H1 => H1 = upd H' C (.lst (((ws.take i).map Bud.fit).map V.int))) rfl (fun i H1 _ e => by rw [e]; exact (same_new hC).seq hl) ?_ ?_
      · rintro i z H1 hi rfl
        rw [List.getElem?_map] at hi
        obtain ⟨w, hw, rfl⟩ : ∃ w, ws[i]? = some w ∧ z = V.int w := by
          cases e : ws[i]? with
          | none => rw [e] at hi; cases hi
          | some w => rw [e] at hi; exact ⟨w, rfl, (Option.some.inj hi).symm⟩
        refine ⟨rfl, ?_⟩
        refine ⟨_, rfl, w, rfl, _, upd_same, ?_, ?_⟩
        · rw [List.length_map, List.length_map, List.length_take, sizeLine_eq]
          omega
        · rw [upd_upd, List.take_add_one, hw, List.map_append, List.map_append]
          rfl
      · rintro H1 rfl
        rw [List.length_map, List.take_length]
        exact ⟨C, rfl, same_new hC, upd_same⟩
    rintro σ H1 ⟨f, rfl, s1, ef⟩
    -- size by size
    refine while_n (k + 1) (fun i σ H2 => ∃ v : Option V, σ = [some (.ref h), some (.ref l), some (.int (Bud.pw k)), some (.ref f), some (.int (Bud.pw i)), v, none, none] ∧ Same H1 H2 ∧ ∀ m, m < i → Bud.cov (ws.map fun w => (0, Bud.fit w)) (Bud.pw m) ≤ Bud.cov (Bud.frees t 0) (Bud.pw m)) ⟨none, rfl, Same.refl _, fun m hm => absurd hm (Nat.not_lt_zero m)⟩ ?_
    rintro i σ H2 hi ⟨v, rfl, s2, hcv⟩
    refine ⟨_, rfl, _, rfl, _, _, rfl, rfl, _, rfl, ?_⟩
    refine ite2 (fun b => ?body) (fun b => ?fin)
    case fin =>
      have b' : ¬ Bud.pw i ≤ Bud.pw k := by simpa using b
      have hik : k < i := by
        rcases Nat.lt_or_ge k i with z | z
        · exact z
        · exact absurd (Bud.pw_le z) b'
      exact hfine call (hiff.mpr fun m hm => hcv m (by omega)) _ (s1.trans s2)
    have b' : Bud.pw i ≤ Bud.pw k := by simpa using b
    have hik : i ≤ k := Bud.pw_le_iff.mp b'
    have hpi := Bud.pw_pos i
    have hs : (Bud.pw i).natAbs < 2 ^ 62 := by omega
    refine ⟨_, wh_step (by omega), ?_⟩
    have ef2 := s2 _ _ ef
    refine ⟨fun σ H3 => σ = [some (.ref h), some (.ref l), some (.int (Bud.pw k)), some (.ref f), some (.int (Bud.pw i)), some (.int (Bud.cov (ws.map fun w => (0, Bud.fit w)) (Bud.pw i))), none, none] ∧ Same H2 H3, ?_, ?_⟩
    · refine ⟨_, rfl, f, rfl, ⟨_, SqL.of ef2⟩, fun C hC => ?_⟩
      refine lc_list (K := K) (a := f) (xs := (ws.map Bud.fit).map V.int) (fun j H3 => H3 = upd H2 C (.lst (((((ws.map Bud.fit).take j).filter fun f => decide (Bud.pw i ≤ f)).map fun f => f / Bud.pw i).map V.int))) rfl (fun i H1 _ e => by rw [e]; exact (same_new hC).seq (SqL.of ef2)) ?_ ?_
      · rintro j z H3 hj rfl
        rw [List.getElem?_map] at hj
        obtain ⟨u, hu0, rfl⟩ : ∃ u, (ws.map Bud.fit)[j]? = some u ∧ z = V.int u := by
          cases e : (ws.map Bud.fit)[j]? with
          | none => rw [e] at hj; cases hj
          | some u => rw [e] at hj; exact ⟨u, rfl, (Option.some.inj hj).symm⟩
        have hft := filt_take (fun f => decide (Bud.pw i ≤ f)) hu0
        refine ⟨rfl, _, rfl, _, rfl, _, _, rfl, rfl, _, rfl, ?_⟩
        refine ite2 (fun c => ?_) (fun c => ?_)
        · rw [if_pos c] at hft
          refine ⟨_, rfl, _, rfl, _, _, rfl, rfl, wide_div hpi hs (by decide) (by decide), _, upd_same, ?_, ?_⟩
          · have h2 : (((ws.map Bud.fit).take j).filter fun f => decide (Bud.pw i ≤ f)).length ≤ ws.length := Nat.le_trans (List.length_filter_le _ _) (by rw [List.length_take, List.length_map]; omega)
            rw [List.length_map, List.length_map, sizeLine_eq]
            omega
          · rw [upd_upd, hft, List.map_append, List.map_append]
            rfl
        · rw [if_neg c, List.append_nil] at hft
          rw [hft]
      · rintro H3 rfl
        rw [List.length_map, List.take_length]
        refine ⟨C, _, rfl, SqL.of upd_same, ?_⟩
        rw [← cov_ints]
        exact ⟨rfl, same_new hC⟩
    rintro σ H3 ⟨rfl, s3⟩
    have s03 := s1.trans (s2.trans s3)
    refine ⟨_, rfl, _, rfl, _, rfl, _, _, rfl, rfl, wide_div hpi hs (by decide) (by decide), _, rfl, _, rfl, h, xs, D, i, rfl, s03 _ _ hh, hD.kept (Same.tups s03), by omega, hlen, fun H4 B s4 hn hB => ?_⟩
    have ht := Bud.touched hc hik perm hn hB
    have e : Bud.pw k / Bud.pw i - (Bud.cov D (Bud.pw i) + B.length) = Bud.cov (Bud.frees t 0) (Bud.pw i) := by omega
    refine ⟨_, _, rfl, rfl, _, _, rfl, rfl, _, rfl, ?_⟩
    show if decide (Bud.pw k / Bud.pw i - (Bud.cov D (Bud.pw i) + B.length) < _) = true then _ else _
    rw [e]
    refine ite2 (fun c => ?_) (fun c => ?_)
    · have c' : Bud.cov (Bud.frees t 0) (Bud.pw i) < Bud.cov (ws.map fun w => (0, Bud.fit w)) (Bud.pw i) := by simpa using c
      refine hroom c1 (.inr fun hg => ?_) _ (s03.trans s4)
      have := hiff.mp hg i hik
      omega
    have c' : ¬ Bud.cov (Bud.frees t 0) (Bud.pw i) < Bud.cov (ws.map fun w => (0, Bud.fit w)) (Bud.pw i) := by simpa using c
    refine ⟨_, rfl, _, _, rfl, rfl, .inr ⟨by decide, by decide⟩, some (.int (Bud.cov (ws.map fun w => (0, Bud.fit w)) (Bud.pw i))), ?_, s2.trans (s3.trans s4), fun m hm => ?_⟩
    · rw [Bud.pw_succ, Int.mul_comm 2]
      rfl
    · rcases Nat.lt_or_ge m i with z | z
      · exact hcv m z
      · have : m = i := by omega
        subst this
        omega
/-! #### _law_told -/
/-- what many wishes are told -/
def spTold (K : PySem.W.Frag) : Sp := fun vs H Q _ => ∃ (p d : Addr) (k : Nat) (t : Bud.T k) (l : Addr) (ws : List Int) (M : List Bud.Pc), vs = [.ref p, .ref l] ∧ YardT K H p d t ∧ SqL K H l (ws.map V.int) ∧ ws.length ≤ 200 ∧ (Bud.outs t 0).length ≤ 700 ∧ M.Perm (Bud.ordP ws) ∧ Bud.Srt M ∧
  (dueS t ws M ≠ "" → ∀ (H' : Hp) (q e : Addr), Kp p d H H' → YardT K H' p d t → SpNew H H' p → H' q = some (.tup [.str (dueS t ws M), .ref e]) → Q (.ref q) H') ∧
  ((∀ w ∈ ws, 1 ≤ w ∧ w ≤ Bud.pw k) → ∀ as t', Bud.Gives ws t (Bud.ordN M) as t' → ∀ (H' : Hp) (q r : Addr), Kp p d H H' → YardT K H' p d t' → SpNew H H' p → H r = none → ¬ Spare H' p r → H' r = some (.lst ((List.range ws.length).map fun i => V.int (Bud.plOf (Bud.ordN M) as i))) → H' q = some (.tup [.str "", .ref r]) → Q (.ref q) H')
theorem due_wish {k : Nat} {t : Bud.T k} {ws : List Int} {M : List Bud.Pc} (h : ∃ w ∈ ws, w < 1) : dueS t ws M = "wish" := by unfold dueS; rw [if_pos h]
theorem due_room {k : Nat} {t : Bud.T k} {ws : List Int} {M : List Bud.Pc} (c1 : ∀ w ∈ ws, 1 ≤ w) (c2 : (∃ w ∈ ws, Bud.pw k < w) ∨ ¬ ∃ as t', Bud.Gives ws t (Bud.ordN M) as t') : dueS t ws M = "room" := by
  unfold dueS
  rw [if_neg (fun ⟨w, hw, z⟩ => by have := c1 w hw; omega), if_pos c2]
theorem due_fine {k : Nat} {t : Bud.T k} {ws : List Int} {M : List Bud.Pc} (c1 : ∀ w ∈ ws, 1 ≤ w ∧ w ≤ Bud.pw k) (c2 : ∃ as t', Bud.Gives ws t (Bud.ordN M) as t') : dueS t ws M = "" := by
  unfold dueS
  rw [if_neg (fun ⟨w, hw, z⟩ => by have := c1 w hw; omega), if_neg]
  rintro (⟨w, hw, z⟩ | z)
  · have := c1 w hw
    omega
  · exact z c2
theorem ne_wish : ("wish" : Str) ≠ "" := by decide +kernel
theorem ne_room : ("room" : Str) ≠ "" := by decide +kernel
theorem ok_told (T : Txt K mg) : DefOk P w K mg base 5 "_law_told" ["_law_yard", "_law_wants"] (spTold K) := by
  refine mkDef T.F__law_told T.g__law_told bd__law_told sc__law_told (fun vs H Q E h => ?_) (fun cdv A outer s H vs Q E hr h => ?_)
  · obtain ⟨p, d, k, t, l, ws, M, rfl, _⟩ := h
    rfl
  · obtain ⟨p, d, k, t, l, ws, M, rfl, y, hl, hlen, hout, hM, sM, k1, k3⟩ := h
    have nd := sc__law_told.nd
    have hr4 : Room 4 _ := hr
    refine ⟨_, pss_cons (ps_try_many rfl rfl (takes_of rfl rfl rfl rfl)
        (fun W pn xe tk hp => pss_one (ps_set (i := 2) nd rfl (Or.inl rfl) (pe_cx tk (ok_give_all T) hr4 (by exact (pa_cons (pv 0) (pa_cons (pv 1) pa_nil))))))
        (.cons (ts := fun _ _ _ => tRet (tTup (tCons (tC (.str "wish")) (tCons (tLst tNil) tNil)))) ⟨rfl, by decide, .inl T.g_NoWish⟩ (fun a oe cls d pn hz hf => pss_one (ps_ret (pe_tup (pa_cons pe_str (pa_cons (pe_lst pa_nil) pa_nil)))))
        (.cons (ts := fun _ _ _ => tRet (tTup (tCons (tC (.str "room")) (tCons (tLst tNil) tNil)))) ⟨rfl, by decide, .inl T.g_NoRoom⟩ (fun a oe cls d pn hz hf => pss_one (ps_ret (pe_tup (pa_cons pe_str (pa_cons (pe_lst pa_nil) pa_nil))))) .nil)))
      (pss_one (ps_ret (pe_tup (pa_cons pe_str (pa_cons (pv 2) pa_nil))))), ?_⟩
    have hfin : ∀ (H1 : Hp) (z : Str), dueS t ws M = z → z ≠ "" → Kp p d H H1 → YardT K H1 p d t → SpNew H H1 p → tRet (tTup (tCons (tC (.str z)) (tCons (tLst tNil) tNil))) { nx := fun _ H' => Q .non H', rt := Q } [some (.ref p), some (.ref l), none] H1 := fun H1 z ez hz kp y1 spn => by
      refine ⟨Nat.zero_le _, fun e he => ⟨(by show 2 ≤ sizeLine; decide), fun q hq => ?_⟩⟩
      have s1 := (same_new (o := .lst []) he).trans (same_new (o := .tup [V.str z, V.ref e]) hq)
      refine k1 (by rw [ez]; exact hz) _ q e (kp.trans (Same.kp s1 p d)) (y1.same s1) (fun l' z' => spn l' (Spare.same s1 y1.has z')) ?_
      rw [ez]
      exact upd_same
    refine ⟨_, rfl, _, rfl, p, d, k, t, l, ws, M, rfl, y, hl, hlen, hout, hM, sM, fun c => ?_, fun c1 c2 => ?_, fun c1 as t' hg H' r kp y' nr sp spn er => ?_, fun c1 c2 H' kp y' spn => ?_⟩
    · refine ⟨true, T.e_NoWish_NoWish, fun _ _ _ => ?_, fun q => Bool.noConfusion q⟩
      exact hfin H "wish" (due_wish c) ne_wish (Same.kp (Same.refl _) p d) y (fun l z => .inr z)
    · refine ⟨false, T.e_NoRoom_NoWish, fun q => Bool.noConfusion q, fun _ => ⟨true, T.e_NoRoom_NoRoom, fun _ _ _ => ?_, fun q => Bool.noConfusion q⟩⟩
      exact hfin H "room" (due_room c1 (.inl c2)) ne_room (Same.kp (Same.refl _) p d) y (fun l z => .inr z)
    · refine ⟨_, rfl, (by show 2 ≤ sizeLine; decide), fun q hq => ?_⟩
      have s1 := same_new (o := .tup [V.str "", V.ref r]) hq
      refine k3 c1 as t' hg _ q r (kp.trans (Same.kp s1 p d)) (y'.same s1) (fun l' z' => spn l' (Spare.same s1 y'.has z')) nr (fun z => sp (Spare.same s1 y'.has z)) (s1 _ _ er) upd_same
    · refine ⟨false, T.e_NoRoom_NoWish, fun q => Bool.noConfusion q, fun _ => ⟨true, T.e_NoRoom_NoRoom, fun _ _ _ => ?_, fun q => Bool.noConfusion q⟩⟩
      exact hfin H' "room" (due_room (fun w hw => (c1 w hw).1) (.inr fun ⟨as, t', g⟩ => c2 as t' g)) ne_room kp y' spn
/-! #### _law_halves -/
/-- the halves of a yard, as wishes -/
def spHalves (K : PySem.W.Frag) : Sp := fun vs H Q _ => ∃ (n : Int) (l : Addr) (cs : List Int), vs = [.int n, .ref l] ∧ SqL K H l (cs.map V.int) ∧ cs.length ≤ 63 ∧
  ∀ (H' : Hp) (q : Addr) (ws : List Int), Same H H' → H' q = some (.lst (ws.map V.int)) → ws.length ≤ cs.length + 1 → Q (.ref q) H'
theorem ok_halves (T : Txt K mg) : DefOk P w K mg base 1 "_law_halves" ["_law_cells", "_law_row"] (spHalves K) := by
  refine mkDef T.F__law_halves T.g__law_halves bd__law_halves sc__law_halves (fun vs H Q E h => ?_) (fun cdv A outer s H vs Q E hr h => ?_)
  · obtain ⟨n, l, cs, rfl, _⟩ := h
    rfl
  · obtain ⟨n, l, cs, rfl, hl, hlen, kQ⟩ := h
    have nd := sc__law_halves.nd
    refine ⟨_, (pss_cons (ps_set (i := 2) nd rfl (Or.inl rfl) (pe_lst (pa_cons (pv 0) pa_nil)))
      (pss_cons (ps_for (passes_of rfl) rfl (pi_list (pv 1)) (pg_name (i := 3) nd rfl (Or.inl rfl))
        (pss_cons (ps_set (i := 4) nd rfl (Or.inl rfl) (pe_op op_mod (pv 3) (pe_callB call_len_seq (by rfl) T.n_len PySem.boot_len (pa_cons (pv 2) pa_nil))))
        (C8.pss_cut (ps_set (i := 5) nd rfl (Or.inl rfl) (pe_op op_fdiv (pe_ix ix_list (pv 2) (pv 4) (fun _ _ => rfl)) pe_int))
        (pss_one (ps_if (pt_cmpR op_gt (pv 5) pe_int (nomark _))
          (C8.pss_cut (ps_set (i := 2) nd rfl (Or.inl rfl) (pe_op op_cat (pe_op op_cat (pe_slice sl_list (pv 2) po_none (po_some (pv 4))) (pe_lst (pa_cons (pv 5) pa_nil))) (pe_slice sl_list (pv 2) (po_some (pe_op op_add (pv 4) pe_int)) po_none)))
          (pss_cons (ps_set (i := 6) nd rfl (Or.inl rfl) (pe_op op_mod (pe_op op_fdiv (pv 3) pe_int) (pe_op op_add (pe_callB call_len_seq (by rfl) T.n_len PySem.boot_len (pa_cons (pv 2) pa_nil)) pe_int)))
          (pss_one (ps_set (i := 2) nd rfl (Or.inl rfl) (pe_op op_cat (pe_op op_cat (pe_slice sl_list (pv 2) po_none (po_some (pv 6))) (pe_lst (pa_cons (pe_op op_sub (pv 5) (pe_op op_mod (pe_op op_fdiv (pv 3) pe_int) (pe_callB (call_max2 rfl) (by rfl) T.n_max (by decide +kernel) (pa_cons pe_int (pa_cons (pe_op op_sub (pv 5) (pe_op op_fdiv (pv 5) pe_int)) pa_nil))))) pa_nil))) (pe_slice sl_list (pv 2) (po_some (pv 6)) po_none))))))
          pss_nil)))))
      (pss_one (ps_ret (pv 2))))), ?_⟩
    refine ⟨_, rfl, (by show 1 ≤ sizeLine; decide), fun q hq => ?_⟩
    have s0 := same_new (o := .lst [.int n]) hq
    refine ⟨_, rfl, l, rfl, ⟨_, s0.seq hl⟩, for_list (K := K) (a := l) (xs := cs.map V.int) (fun i σ H1 => ∃ (q : Addr) (ws : List Int) (v3 v4 v5 v6 : Option V), σ = [some (.int n), some (.ref l), some (.ref q), v3, v4, v5, v6] ∧ Same H H1 ∧ H1 q = some (.lst (ws.map V.int)) ∧ 1 ≤ ws.length ∧ ws.length ≤ i + 1)
      ⟨q, [n], none, none, none, none, rfl, s0, upd_same, Nat.le_refl _, Nat.le_refl _⟩ (fun i σ H1 _ ⟨q, ws, v3, v4, v5, v6, _, s1, _⟩ => s1.seq hl) ?_ ?_⟩
    · rintro i z σ H1 hi ⟨q, ws, v3, v4, v5, v6, rfl, s1, eq1, lo, up⟩
      have hil : i < cs.length := by
        have := (List.getElem?_eq_some_iff.mp hi).1
        rwa [List.length_map] at this
      rw [List.getElem?_map, List.getElem?_eq_getElem hil] at hi
      cases hi
      generalize cs[i] = c
      have hlm : (ws.map V.int).length = ws.length := List.length_map ..
      have hm0 := Int.emod_nonneg c (b := (ws.length : Int)) (by omega)
      have hm1 := Int.emod_lt_of_pos c (b := (ws.length : Int)) (by omega)
      obtain ⟨j, ej⟩ : ∃ j : Nat, c % (ws.length : Int) = (j : Int) := ⟨(c % (ws.length : Int)).toNat, by omega⟩
      have hj : j < ws.length := by omega
      refine ⟨_, rfl, _, rfl, q, _, rfl, .inl (SqL.of eq1), _, _, rfl, rfl, (by show (0 : Int) < ((ws.map V.int).length : Int); omega), ?_⟩
      have ej2 : c % (((ws.map V.int).length : Nat) : Int) = (j : Int) := by rw [hlm]; exact ej
      refine ⟨fun σ H2 => H2 = H1 ∧ σ = [some (.int n), some (.ref l), some (.ref q), some (.int c), some (.int (j : Int)), some (.int (ws[j] / 2)), v6], ?_, ?_⟩
      · refine ⟨_, rfl, _, rfl, q, _, _, V.int ws[j], rfl, rfl, SqL.of eq1, (show atI _ (c % (((ws.map V.int).length : Nat) : Int)) = _ by rw [ej2]; exact atI_nat (by rw [List.getElem?_map, List.getElem?_eq_getElem hj]; rfl)), _, _, rfl, rfl, ⟨by decide, by decide⟩, rfl, ?_⟩
        show [_, _, _, _, some (V.int (c % (((ws.map V.int).length : Nat) : Int))), _, _] = _
        rw [ej2]
      rintro σ H2 ⟨rfl, rfl⟩
      generalize ws[j] / 2 = f
      refine ⟨_, rfl, _, _, rfl, rfl, _, rfl, ?_⟩
      refine ite2 (fun b => ?_) (fun b => ⟨q, ws, _, _, _, _, rfl, s1, eq1, lo, by omega⟩)
      refine ⟨fun σ H3 => ∃ (q1 : Addr) (ws1 : List Int), σ = [some (.int n), some (.ref l), some (.ref q1), some (.int c), some (.int (j : Int)), some (.int f), v6] ∧ Same H H3 ∧ H3 q1 = some (.lst (ws1.map V.int)) ∧ ws1.length = ws.length, ?_, ?_⟩
      · refine ⟨_, rfl, _, rfl, _, rfl, q, _, rfl, SqL.of eq1, fun a ha => ?_⟩
        rw [cutV_to _ _ (by omega)]
        have sa := same_new (o := .lst ((ws.map V.int).take j)) ha
        refine ⟨_, rfl, (by show 1 ≤ sizeLine; decide), fun B hB => ?_⟩
        have sB := same_new (o := .lst [.int f]) hB
        refine ⟨a, B, _, _, rfl, rfl, sB _ _ upd_same, upd_same, ?_, fun F hF => ?_⟩
        · rw [List.length_take, sizeLine_eq]
          show _ + 1 ≤ _
          omega
        have sF := same_new (o := .lst ((ws.map V.int).take j ++ [.int f])) hF
        have s3 := (sa.trans sB).trans sF
        refine ⟨_, rfl, _, rfl, _, _, rfl, rfl, _, rfl, q, _, rfl, SqL.of (s3 _ _ eq1), ?_⟩
        show ∀ x, _ → _
        rw [show (j : Int) + 1 = ((j + 1 : Nat) : Int) from rfl, cutV_from _ _ (by omega)]
        intro e he
        have se := same_new (o := .lst ((ws.map V.int).drop (j + 1))) he
        refine ⟨F, e, _, _, rfl, rfl, se _ _ upd_same, upd_same, ?_, fun G hG => ?_⟩
        · rw [List.length_append, List.length_take, List.length_drop, sizeLine_eq]
          show _ + 1 + _ ≤ _
          omega
        refine ⟨G, ws.take j ++ [f] ++ ws.drop (j + 1), rfl, (s1.trans (s3.trans se)).trans (same_new hG), ?_, ?_⟩
        · rw [upd_same, List.map_append, List.map_append, List.map_take, List.map_drop]
          rfl
        · rw [List.length_append, List.length_append, List.length_take, List.length_drop]
          show min j ws.length + 1 + _ = _
          omega
      clear hm0 hm1 ej ej2 hj eq1 s1 hlm
      rintro σ H3 ⟨q1, ws1, rfl, s1, eq1, el⟩
      have hlm : (ws1.map V.int).length = ws1.length := List.length_map ..
      have hm0 := Int.emod_nonneg (c / 21) (b := (ws1.length : Int) + 1) (by omega)
      have hm1 := Int.emod_lt_of_pos (c / 21) (b := (ws1.length : Int) + 1) (by omega)
      obtain ⟨m, em⟩ : ∃ m : Nat, c / 21 % ((ws1.length : Int) + 1) = (m : Int) := ⟨(c / 21 % ((ws1.length : Int) + 1)).toNat, by omega⟩
      have hm : m ≤ ws1.length := by omega
      refine ⟨_, rfl, _, _, rfl, rfl, ⟨by decide, by decide⟩, _, rfl, q1, _, rfl, .inl (SqL.of eq1), _, _, rfl, rfl, _, _, rfl, rfl, (by show (0 : Int) < ((ws1.map V.int).length : Int) + 1; omega), ?_⟩
      have em2 : c / 21 % ((((ws1.map V.int).length : Nat) : Int) + 1) = (m : Int) := by rw [hlm]; exact em
      obtain ⟨vm, hvm⟩ : ∃ v : Option V, v = some (V.int (c / 21 % ((((ws1.map V.int).length : Nat) : Int) + 1))) := ⟨_, rfl⟩
      have hvm2 := hvm
      rw [em2] at hvm2
      refine ⟨_, rfl, _, rfl, _, rfl, q1, _, rfl, SqL.of eq1, ?_⟩
      show ∀ x, _ → _
      rw [em2, cutV_to _ _ (by omega)]
      intro a ha
      have sa := same_new (o := .lst ((ws1.map V.int).take m)) ha
      refine ⟨_, rfl, _, rfl, _, _, rfl, rfl, ⟨by decide, by decide⟩, _, rfl, _, rfl, _, _, rfl, rfl, ⟨by decide, by decide⟩, _, _, rfl, rfl, _, _, rfl, _, _, rfl, rfl, ?_, _, _, rfl, rfl, (by show 1 ≤ sizeLine; decide), ?_⟩
      · show (0 : Int) < if _ > 1 then _ else 1
        split <;> omega
      intro B hB
      obtain ⟨g, hg⟩ : ∃ g : Int, f - c / 441 % (if f - f / 2 > 1 then f - f / 2 else 1) = g := ⟨_, rfl⟩
      have hg2 : [V.int (f - c / 441 % (if f - f / 2 > 1 then f - f / 2 else 1))] = [V.int g] := by rw [hg]
      have sB := same_new (o := .lst [V.int (f - c / 441 % (if f - f / 2 > 1 then f - f / 2 else 1))]) hB
      refine ⟨a, B, _, _, rfl, rfl, sB _ _ upd_same, upd_same, ?_, fun F hF => ?_⟩
      · rw [List.length_take, sizeLine_eq]
        show _ + 1 ≤ _
        omega
      have sF := same_new (o := .lst ((ws1.map V.int).take m ++ [V.int (f - c / 441 % (if f - f / 2 > 1 then f - f / 2 else 1))])) hF
      have s3 := (sa.trans sB).trans sF
      refine ⟨_, rfl, _, rfl, _, rfl, q1, _, rfl, SqL.of (s3 _ _ eq1), ?_⟩
      show ∀ x, _ → _
      rw [em2, cutV_from _ _ (by omega)]
      intro e he
      have se := same_new (o := .lst ((ws1.map V.int).drop m)) he
      refine ⟨F, e, _, _, rfl, rfl, se _ _ upd_same, upd_same, ?_, fun G hG => ?_⟩
      · rw [List.length_append, List.length_take, List.length_drop, sizeLine_eq]
        show _ + 1 + _ ≤ _
        omega
      refine ⟨G, ws1.take m ++ [g] ++ ws1.drop m, _, _, _, _, rfl, (s1.trans (s3.trans se)).trans (same_new hG), ?_, ?_, ?_⟩
      · rw [upd_same, List.map_append, List.map_append, List.map_take, List.map_drop]
        rw [← hg]
        rfl
      · rw [List.length_append, List.length_append, List.length_take, List.length_drop]
        show 1 ≤ min m ws1.length + 1 + _
        omega
      · rw [List.length_append, List.length_append, List.length_take, List.length_drop]
        show min m ws1.length + 1 + _ ≤ _
        omega
    · rintro σ H1 ⟨q, ws, v3, v4, v5, v6, rfl, s1, eq1, lo, up⟩
      rw [List.length_map] at up
      exact ⟨_, rfl, kQ H1 q ws s1 eq1 up⟩
/-! #### _law_wishes -/
/-- a list of what F makes of the cells -/
def PvW (F : Int → Int) (ms : List Int) (H : Hp) (D : Addr) (i : Nat) (H' : Hp) : Prop := Same H H' ∧ H' D = some (.lst (((ms.take i).map F).map V.int))
theorem PvW.end_ {F : Int → Int} {ms : List Int} {H H' : Hp} {D : Addr} (h : PvW F ms H D (ms.map V.int).length H') : Same H H' ∧ H' D = some (.lst ((ms.map F).map V.int)) := by
  obtain ⟨s1, eD⟩ := h
  rw [List.length_map, List.take_length] at eD
  exact ⟨s1, eD⟩
theorem PvW.next {F : Int → Int} {ms : List Int} {H H' H2 : Hp} {D : Addr} {i : Nat} {m : Int} (h : PvW F ms H D i H') (hD : H D = none) (hl : ms.length ≤ 300) (hm : ms[i]? = some m) (s2 : Same H' H2) : ∃ acc, H2 D = some (.lst acc) ∧ acc.length < sizeLine ∧ PvW F ms H D (i + 1) (upd H2 D (.lst (acc ++ [V.int (F m)]))) := by
  obtain ⟨s1, eD⟩ := h
  refine ⟨_, s2 _ _ eD, ?_, fun b u hb => ?_, ?_⟩
  · rw [List.length_map, List.length_map, List.length_take, sizeLine_eq]
    omega
  · rw [upd_ne (ne_of_none hb hD)]
    exact s2 _ _ (s1 _ _ hb)
  · rw [upd_same, List.take_add_one, hm, List.map_append, List.map_append]
    rfl
theorem ints_get {ms : List Int} {i : Nat} {z : V} (hi : (ms.map V.int)[i]? = some z) : ∃ m, ms[i]? = some m ∧ z = V.int m := by
  rw [List.getElem?_map] at hi
  cases e : ms[i]? with
  | none => rw [e] at hi; cases hi
  | some m => rw [e] at hi; exact ⟨m, rfl, (Option.some.inj hi).symm⟩
/-- some whole numbers, n of them -/
def PvR (F : Nat → Int) (H : Hp) (D : Addr) (i : Nat) (H' : Hp) : Prop := Same H H' ∧ H' D = some (.lst (((List.range i).map F).map V.int))
theorem PvR.next {F : Nat → Int} {H H' : Hp} {D : Addr} {i : Nat} (h : PvR F H D i H') (hD : H D = none) (hl : i ≤ 1000) : ∃ acc, H' D = some (.lst acc) ∧ acc.length < sizeLine ∧ PvR F H D (i + 1) (upd H' D (.lst (acc ++ [V.int (F i)]))) := by
  obtain ⟨s1, eD⟩ := h
  refine ⟨_, eD, ?_, fun b u hb => ?_, ?_⟩
  · rw [List.length_map, List.length_map, List.length_range, sizeLine_eq]
    omega
  · rw [upd_ne (ne_of_none hb hD)]
    exact s1 _ _ hb
  · rw [upd_same, List.range_succ, List.map_append, List.map_append]
    rfl
/-- some wishes -/
def spWishes (K : PySem.W.Frag) : Sp := fun vs H Q _ => ∃ (a h : Addr) (ns : List Int) (xs : List V) (D : List Bud.Pc) (k : Nat), vs = [.ref a, .ref h, .int (Bud.pw k)] ∧ SqL K H a (ns.map V.int) ∧ ns.length ≤ 63 ∧ H h = some (.lst xs) ∧ Prs H xs D ∧
  ∀ (H' : Hp) (q : Addr) (ws : List Int), Same H H' → H' q = some (.lst (ws.map V.int)) → ws.length ≤ 200 → Q (.ref q) H'
theorem ok_wishes (T : Txt K mg) : DefOk P w K mg base 3 "_law_wishes" ["_law_script", "_law_held", "_law_cells"] (spWishes K) := by
  refine mkDef T.F__law_wishes T.g__law_wishes bd__law_wishes sc__law_wishes (fun vs H Q E h => ?_) (fun cdv A outer s H vs Q E hr h => ?_)
  · obtain ⟨a, h, ns, xs, D, k, rfl, _⟩ := h
    rfl
  · obtain ⟨a, h, ns, xs, D, k, rfl, hS, hlen, hh, hD, kQ⟩ := h
    have nd := sc__law_wishes.nd
    have hr1 : Room 1 _ := hr.mono (by decide)
    have hr2 : Room 2 _ := hr
    have hu := hr.units
    refine ⟨_, (C8.pss_cut (ps_set (i := 3) nd rfl (Or.inr rfl) (pe_cd (ok_cell T) hr1 (pa_cons (pv 0) (pa_cons pe_int pa_nil))))
      (C8.pss_cut (ps_if (PW.pt (pw_and (pt_cmpR (op_eqPs hu) (pv 1) (pe_lst pa_nil) (nomark _)) (pw_and1 (pt_cmpR op_eq (pe_op op_mod (pe_op op_fdiv (pv 3) pe_int) pe_int) pe_int (nomark _)))))
        (pss_one (ps_ret (pe_lc (own := [("_law_k", 6)]) (g := gName 6) (tt := tYes)
          (te := tOp (rI0 fun i j => V.int (i + j)) (tC (.int 1)) (tOp (rI (fun _ j => 0 < j) fun i j => V.int (i % j)) (tOp (rI0 fun i j => V.int (i + j)) (tVar 3) (tOp (rI CMul fun i j => V.int (i * j)) (tOp (rI CDiv fun i j => V.int (i / j)) (tVar 3) (tC (.int 270))) (tVar 6))) (tC (.int 9)))) (by rfl) nd (pi_range1 rfl T.n_range (pa_cons (pe_op op_mod (pe_op op_fdiv (pv 3) pe_int) pe_int) pa_nil))
          (blkOk_by (own := [("_law_k", 6)]) (N := ["_law_script", "_law_held", "_law_cells", "_law_draw", "_law_behind_here", "_law_wants", "_law_k", "_law_cell", "_law_want_here"]) (sc := defScope s__law_wishes) (by decide +kernel)) (fun _ _ _ _ _ => pg_name (i := 6) nd rfl (Or.inl rfl))
          (fun _ _ _ _ _ => pts_nil) (fun _ _ _ _ _ => pe_op op_add pe_int (pe_op op_mod (pe_op op_add (pv 3) (pe_op op_mul (pe_op op_fdiv (pv 3) pe_int) (pv 6))) pe_int))))) pss_nil)
      (C8.pss_cut (ps_if (pt_cmpR (op_eqPs hu) (pv 1) (pe_lst pa_nil) (nomark _))
        (pss_one (ps_ret (pe_op op_cat (pe_cd (ok_halves T) hr1 (pa_cons (pv 2) (pa_cons (pe_slice sl_list (pv 0) (po_some pe_int) (po_some pe_int)) pa_nil))) (pe_lc (own := [("_law_k", 6)]) (g := gName 6) (tt := tYes)
          (te := tOp (rI0 fun i j => V.int (i + j)) (tC (.int 1)) (tOp (rI (fun _ j => 0 < j) fun i j => V.int (i % j)) (tVar 3) (tC (.int 9)))) (by rfl) nd (pi_range1 rfl T.n_range (pa_cons (pe_callTy call_int1 (by rfl) T.n_int (by decide +kernel) (pa_cons (pe_cmpR op_eq (pe_op op_mod (pe_op op_fdiv (pv 3) pe_int) pe_int) pe_int (nomark _)) pa_nil)) pa_nil))
          (blkOk_by (own := [("_law_k", 6)]) (N := ["_law_script", "_law_held", "_law_cells", "_law_draw", "_law_behind_here", "_law_wants", "_law_k", "_law_cell", "_law_want_here"]) (sc := defScope s__law_wishes) (by decide +kernel)) (fun _ _ _ _ _ => pg_name (i := 6) nd rfl (Or.inl rfl))
          (fun _ _ _ _ _ => pts_nil) (fun _ _ _ _ _ => pe_op op_add pe_int (pe_op op_mod (pv 3) pe_int)))))) pss_nil)
      (C8.pss_cut (ps_set (i := 4) nd rfl (Or.inl rfl) (pe_op op_add pe_int (pe_op op_mod (pv 3) pe_int)))
      (C8.pss_cut (ps_setLc (i := 5) (own := [("_law_cell", 7)]) (g := gName 7) (tt := tYes) (te := tCall (spWant K) [] E0 (tCons (tVar 7) (tCons (tVar 2) tNil))) (by rfl) nd rfl rfl (by exact sw_true (by rfl) (by rfl) (by rfl) (by decide +kernel)) (pi_list (pe_slice sl_list (pv 0) (po_some (pv 4)) (po_some (pe_op op_add (pv 4) (pe_op op_mod (pe_op op_fdiv (pv 3) pe_int) pe_int)))))
          (blkOk_by (own := [("_law_cell", 7)]) (N := ["_law_script", "_law_held", "_law_cells", "_law_draw", "_law_behind_here", "_law_wants", "_law_k", "_law_cell", "_law_want_here"]) (sc := defScope s__law_wishes) (by decide +kernel)) (fun _ _ _ _ _ => pg_name (i := 7) nd rfl (Or.inl rfl))
          (fun _ _ _ _ _ => pts_nil) (fun _ _ _ _ _ => pe_cd (ok_want T) (by exact hr2) (pa_cons (pv 7) (pa_cons (pv 2) pa_nil))))
      (C8.pss_cut (ps_if (pt_cmpR op_ne (pe_op op_mod (pe_op op_fdiv (pv 3) pe_int) pe_int) pe_int (nomark _))
        (pss_one (ps_setLc (i := 5) (own := [("_law_want_here", 8)]) (g := gName 8) (tt := tYes) (te := tCB (fun xs H Q => ∃ i j, xs = [.int i, .int j] ∧ Q (.int (if j > i then j else i)) H) (tCons (tC (.int 1)) (tCons (tCB (fun xs H Q => ∃ i j, xs = [.int i, .int j] ∧ Q (.int (if j < i then j else i)) H) (tCons (tVar 8) (tCons (tVar 2) tNil))) tNil))) (by rfl) nd rfl rfl (by exact sw_true (by rfl) (by rfl) (by rfl) (by decide +kernel)) (pi_list (pv 5))
          (blkOk_by (own := [("_law_want_here", 8)]) (N := ["_law_script", "_law_held", "_law_cells", "_law_draw", "_law_behind_here", "_law_wants", "_law_k", "_law_cell", "_law_want_here"]) (sc := defScope s__law_wishes) (by decide +kernel)) (fun _ _ _ _ _ => pg_name (i := 8) nd rfl (Or.inl rfl))
          (fun _ _ _ _ _ => pts_nil) (fun _ _ _ _ _ => pe_callB (call_max2 (by rfl)) (by rfl) T.n_max (by decide +kernel) (pa_cons pe_int (pa_cons (pe_callB (call_min2 (by rfl)) (by rfl) T.n_min (by decide +kernel) (pa_cons (pv 8) (pa_cons (pv 2) pa_nil))) pa_nil))))) pss_nil)
      (pss_one (ps_ret (pv 5))))))))), ?_⟩
    refine ⟨fun σ H1 => H1 = H ∧ ∃ w : Int, σ = [some (.ref a), some (.ref h), some (.int (Bud.pw k)), some (.int w), none, none, none, none, none], ⟨_, rfl, a, ns, 2, rfl, hS, rfl, _, rfl⟩, ?_⟩
    rintro σ H1 ⟨rfl, w, rfl⟩
    refine ⟨fun σ H2 => Same H1 H2 ∧ σ = [some (.ref a), some (.ref h), some (.int (Bud.pw k)), some (.int w), none, none, none, none, none], ?_, ?_⟩
    · refine ⟨_, rfl, Nat.zero_le _, fun e he => ?_⟩
      have se := same_new (o := .lst []) he
      refine ⟨h, e, xs, [], D, [], rfl, rfl, SqL.of (se _ _ hh), SqL.of upd_same, hD.kept (Same.tups se), .nil, _, rfl, ?_⟩
      refine ite2 (fun b => ?_) (fun b => ?_)
      · refine ⟨_, rfl, _, _, rfl, rfl, ⟨by decide, by decide⟩, _, _, rfl, rfl, (by show (0 : Int) < 6; decide), rfl, _, rfl, ?_⟩
        refine ite2 (fun c => ?_) (fun c => ⟨se, rfl⟩)
        refine ⟨_, rfl, _, _, rfl, rfl, ⟨by decide, by decide⟩, _, _, rfl, rfl, (by show (0 : Int) < 199; decide), _, rfl, (by show -(2 ^ 62) ≤ w / 270 % 199; omega), (by show w / 270 % 199 < 2 ^ 62; omega), ?_⟩
        obtain ⟨n, en, hn⟩ : ∃ n : Nat, w / 270 % 199 = (n : Int) ∧ n ≤ 198 := ⟨(w / 270 % 199).toNat, by omega, by omega⟩
        show ∀ C, _ → _
        intro C hC
        rw [en, show ((n : Int)).toNat = n from rfl]
        refine lc_range (lo := 0) (n := n) (PvR (fun i => 1 + (w + w / 270 * (0 + (i : Int))) % 9) (upd H1 e (.lst [])) C) ⟨same_new hC, upd_same⟩ ?_ ?_
        · rintro i H' hi hp
          exact ⟨rfl, _, rfl, _, rfl, _, _, rfl, rfl, ⟨by decide, by decide⟩, _, rfl, _, _, rfl, rfl, .inr ⟨by omega, by omega⟩, _, _, rfl, rfl, _, _, rfl, rfl, (by show (0 : Int) < 9; decide), _, _, rfl, rfl, hp.next hC (by omega)⟩
        · rintro H' ⟨s2, eC⟩
          exact kQ H' C _ (se.trans s2) eC (by rw [List.length_map, List.length_range]; omega)
      · exact ⟨se, rfl⟩
    rintro σ H2 ⟨s2, rfl⟩
    refine ⟨fun σ H3 => Same H1 H3 ∧ σ = [some (.ref a), some (.ref h), some (.int (Bud.pw k)), some (.int w), none, none, none, none, none], ?_, ?_⟩
    · refine ⟨_, rfl, Nat.zero_le _, fun e he => ?_⟩
      have se := s2.trans (same_new (o := .lst []) he)
      refine ⟨h, e, xs, [], D, [], rfl, rfl, SqL.of (se _ _ hh), SqL.of upd_same, hD.kept (Same.tups se), .nil, _, rfl, ?_⟩
      refine ite2 (fun b => ?_) (fun b => ⟨se, rfl⟩)
      refine ⟨_, rfl, _, rfl, _, rfl, _, rfl, a, _, rfl, se.seq hS, fun c hc => ?_⟩
      rw [cutV_ints]
      have hml := cutI_length ns (some 3) (some 23)
      generalize cutI ns (some 3) (some 23) = ms at *
      have sc := se.trans (same_new (o := .lst (ms.map V.int)) hc)
      refine ⟨_, c, ms, rfl, SqL.of upd_same, by omega, fun H3 q ws s3 eq lw => ?_⟩
      have s13 := sc.trans s3
      refine ⟨_, rfl, _, _, rfl, rfl, ⟨by decide, by decide⟩, _, _, rfl, rfl, (by show (0 : Int) < 5; decide), rfl, .inr ⟨_, rfl, ?_⟩⟩
      obtain ⟨n, en, hn⟩ : ∃ n : Nat, (if decide (V.int (w / 9 % 5) = V.int 1) = true then (1 : Int) else 0) = (n : Int) ∧ n ≤ 1 := by
        split
        · exact ⟨1, rfl, Nat.le_refl _⟩
        · exact ⟨0, rfl, Nat.zero_le _⟩
      refine ⟨_, rfl, ?_⟩
      show -(2 ^ 62) ≤ (if decide (V.int (w / 9 % 5) = V.int 1) = true then (1 : Int) else 0) ∧ (if decide (V.int (w / 9 % 5) = V.int 1) = true then (1 : Int) else 0) < 2 ^ 62 ∧ _
      rw [en]
      refine ⟨by omega, by omega, ?_⟩
      intro C hC
      rw [show ((n : Int)).toNat = n from rfl]
      refine lc_range (lo := 0) (n := n) (PvR (fun i => 1 + w % 9) H3 C) ⟨same_new hC, upd_same⟩ ?_ ?_
      · rintro i H' hi hp
        exact ⟨rfl, _, rfl, _, _, rfl, rfl, (by show (0 : Int) < 9; decide), _, _, rfl, rfl, hp.next hC (by omega)⟩
      · rintro H' ⟨s4, eC⟩
        refine ⟨q, C, _, _, rfl, rfl, s4 _ _ eq, eC, ?_, fun F hF => ?_⟩
        · rw [List.length_map, List.length_map, List.length_map, List.length_range, sizeLine_eq]
          omega
        refine kQ _ F (ws ++ (List.range n).map fun i => 1 + w % 9) ((s13.trans s4).trans (same_new hF)) ?_ ?_
        · rw [upd_same, List.map_append]
        · rw [List.length_append, List.length_map, List.length_range]
          omega
    clear s2 H2
    rintro σ H2 ⟨s2, rfl⟩
    refine ⟨fun σ H3 => H3 = H2 ∧ ∃ m : Int, σ = [some (.ref a), some (.ref h), some (.int (Bud.pw k)), some (.int w), some (.int m), none, none, none, none], ⟨_, rfl, _, _, rfl, rfl, (by show (0 : Int) < 11; decide), _, _, rfl, rfl, rfl, _, rfl⟩, ?_⟩
    rintro σ H3 ⟨rfl, m, rfl⟩
    refine ⟨fun σ H4 => Same H1 H4 ∧ ∃ (q : Addr) (ws : List Int), σ = [some (.ref a), some (.ref h), some (.int (Bud.pw k)), some (.int w), some (.int m), some (.ref q), none, none, none] ∧ H4 q = some (.lst (ws.map V.int)) ∧ ws.length ≤ 63, ?_, ?_⟩
    · refine ⟨_, rfl, _, rfl, _, rfl, _, rfl, _, rfl, _, _, rfl, rfl, ⟨by decide, by decide⟩, _, _, rfl, rfl, (by show (0 : Int) < 21; decide), _, _, rfl, rfl, _, rfl, a, _, rfl, s2.seq hS, fun c hc => ?_⟩
      rw [cutV_ints]
      have hml := cutI_length ns (some m) (some (m + w / 11 % 21))
      generalize cutI ns (some m) (some (m + w / 11 % 21)) = ms at *
      refine ⟨c, rfl, ⟨_, SqL.of upd_same⟩, ?_⟩
      intro D' hD'
      refine lc_list (K := K) (a := c) (xs := ms.map V.int) (PvW (fun x => wantF x (Bud.pw k)) ms (upd H3 c (.lst (ms.map V.int))) D') ⟨same_new hD', upd_same⟩ (fun i H' _ h => SqL.of (h.1 _ _ upd_same)) ?_ ?_
      · rintro i z H' hi hp
        obtain ⟨x, hx, rfl⟩ := ints_get hi
        exact ⟨rfl, _, rfl, _, rfl, x, k, rfl, fun H4 s4 => hp.next hD' (by omega) hx s4⟩
      intro H4 hp
      obtain ⟨s4, eD⟩ := hp.end_
      exact ⟨(s2.trans (same_new hc)).trans s4, D', _, rfl, eD, by rw [List.length_map]; omega⟩
    rintro σ H4 ⟨s4, q, ws, rfl, eq, lw⟩
    refine ⟨fun σ H4 => Same H1 H4 ∧ ∃ (q : Addr) (ws : List Int), σ = [some (.ref a), some (.ref h), some (.int (Bud.pw k)), some (.int w), some (.int m), some (.ref q), none, none, none] ∧ H4 q = some (.lst (ws.map V.int)) ∧ ws.length ≤ 63, ?_, ?_⟩
    · refine ⟨_, rfl, _, _, rfl, rfl, ⟨by decide, by decide⟩, _, _, rfl, rfl, (by show (0 : Int) < 4; decide), rfl, _, rfl, ?_⟩
      refine ite2 (fun b => ?_) (fun b => ⟨s4, q, ws, rfl, eq, lw⟩)
      refine ⟨_, rfl, q, rfl, ⟨_, SqL.of eq⟩, ?_⟩
      intro D' hD'
      refine lc_list (K := K) (a := q) (xs := ws.map V.int) (PvW (fun x => if (if Bud.pw k < x then Bud.pw k else x) > 1 then (if Bud.pw k < x then Bud.pw k else x) else 1) ws H4 D') ⟨same_new hD', upd_same⟩ (fun i H' _ h => SqL.of (h.1 _ _ eq)) ?_ ?_
      · rintro i z H' hi hp
        obtain ⟨x, hx, rfl⟩ := ints_get hi
        exact ⟨rfl, _, rfl, _, rfl, _, _, rfl, _, _, rfl, hp.next hD' (by omega) hx (Same.refl _)⟩
      intro H5 hp
      obtain ⟨s5, eD⟩ := hp.end_
      exact ⟨s4.trans s5, D', _, rfl, eD, by rw [List.length_map]; omega⟩
    rintro σ H5 ⟨s5, q, ws, rfl, eq, lw⟩
    exact ⟨_, rfl, kQ H5 q ws s5 eq (by omega)⟩
/-! #### _law_in_turn -/
theorem ixN_at {n j : Nat} (hj : j < n) : ixN n (j : Int) = some j := by
  unfold ixN
  rw [if_pos (by omega), if_pos (by omega)]
  rfl
theorem turnL_len : ∀ (L : List Int) (S : Int), (Bud.turnL S L).length = L.length
  | [], _ => rfl
  | f :: L, S => by
    show (S :: Bud.turnL (S + f) L).length = _
    rw [List.length_cons, turnL_len L, List.length_cons]
theorem turnL_snoc : ∀ (L : List Int) (S f : Int), Bud.turnL S (L ++ [f]) = Bud.turnL S L ++ [S + L.sum]
  | [], S, f => by
    show [S] = [S + 0]
    rw [Int.add_zero]
  | g :: L, S, f => by
    show S :: Bud.turnL (S + g) (L ++ [f]) = S :: (Bud.turnL (S + g) L ++ [S + (g :: L).sum])
    rw [turnL_snoc L, List.sum_cons]
    congr 3
    omega
/-- the place of the wish i, one behind the other -/
def placeT (ws : List Int) (is : List Nat) (i : Nat) : Int := Bud.plOf is (Bud.turnL 0 (is.map fun j => Bud.fit (ws.getD j 0))) i
theorem placeT_snoc {ws : List Int} {is : List Nat} {j : Nat} (hn : j ∉ is) (i : Nat) : placeT ws (is ++ [j]) i = if i = j then (is.map fun j => Bud.fit (ws.getD j 0)).sum else placeT ws is i := by
  unfold placeT
  rw [List.map_append, List.map_cons, List.map_nil, turnL_snoc, Bud.plOf_snoc (by rw [turnL_len, List.length_map]) hn, Int.zero_add]
theorem set_places {n : Nat} {f g : Nat → Int} {j : Nat} {v : Int} (hj : j < n) (h : ∀ i, g i = if i = j then v else f i) : ((List.range n).map fun i => V.int (f i)).set j (V.int v) = (List.range n).map fun i => V.int (g i) := by
  refine List.ext_getElem (by simp) fun i h1 h2 => ?_
  rw [List.getElem_set, List.getElem_map, List.getElem_map, List.getElem_range, h i]
  by_cases e : j = i
  · rw [if_pos e, if_pos e.symm]
  · rw [if_neg e, if_neg (fun q => e q.symm)]
/-- the places one behind the other -/
def spInTurn (K : PySem.W.Frag) : Sp := fun vs H Q _ => ∃ (l : Addr) (ws : List Int) (M : List Bud.Pc), vs = [.ref l] ∧ SqL K H l (ws.map V.int) ∧ ws.length ≤ 1000 ∧ M.Perm (Bud.ordP ws) ∧ Bud.Srt M ∧
  ∀ (H' : Hp) (q : Addr), Same H H' → H' q = some (.lst (((List.range ws.length).map (placeT ws (Bud.ordN M))).map V.int)) → Q (.ref q) H'
theorem ok_in_turn (T : Txt K mg) : DefOk P w K mg base 2 "_law_in_turn" ["_law_wants"] (spInTurn K) := by
  refine mkDef T.F__law_in_turn T.g__law_in_turn bd__law_in_turn sc__law_in_turn (fun vs H Q E h => ?_) (fun cdv A outer s H vs Q E hr h => ?_)
  · obtain ⟨l, ws, M, rfl, _⟩ := h
    rfl
  · obtain ⟨l, ws, M, rfl, hl, hlen, hM, sM, kQ⟩ := h
    have nd := sc__law_in_turn.nd
    have hr1 : Room 1 _ := hr
    refine ⟨_, (C8.pss_cut (ps_set (i := 1) nd rfl (Or.inl rfl) (pe_callB cr_sortPs (by rfl) T.n_sorted (by decide +kernel) (pa_cons (pe_lc (own := [("_law_k", 5)]) (g := gName 5) (tt := tYes)
          (te := tTup (tCons (tOp (rI0 fun i j => V.int (i - j)) (tC (.int 0)) (tCall spFitting [] E0 (tCons (tOp (rIxL K) (tVar 0) (tVar 5)) tNil))) (tCons (tVar 5) tNil))) (by rfl) nd (pi_range1 rfl T.n_range (pa_cons (pe_callB call_len_seq (by rfl) T.n_len PySem.boot_len (pa_cons (pv 0) pa_nil)) pa_nil))
          (blkOk_by (own := [("_law_k", 5)]) (N := ["_law_wants", "_law_order", "_law_places", "_law_behind_here", "_law_pair", "_law_k", "_law_want_here"]) (sc := defScope s__law_in_turn) (by decide +kernel)) (fun _ _ _ _ _ => pg_name (i := 5) nd rfl (Or.inl rfl))
          (fun _ _ _ _ _ => pts_nil) (fun _ _ _ _ _ => pe_tup (pa_cons (pe_op op_sub pe_int (pe_cd (ok_fitting T) (by exact hr1) (pa_cons (pe_ix ix_list (pv 0) (pv 5) (fun _ _ => rfl)) pa_nil))) (pa_cons (pv 5) pa_nil)))) pa_nil)))
      (C8.pss_cut (ps_setLc (i := 2) (own := [("_law_want_here", 6)]) (g := gName 6) (tt := tYes) (te := tC (.int 0)) (by rfl) nd rfl rfl (by exact sw_true (by rfl) (by rfl) (by rfl) (by decide +kernel)) (pi_list (pv 0))
          (blkOk_by (own := [("_law_want_here", 6)]) (N := ["_law_wants", "_law_order", "_law_places", "_law_behind_here", "_law_pair", "_law_k", "_law_want_here"]) (sc := defScope s__law_in_turn) (by decide +kernel)) (fun _ _ _ _ _ => pg_name (i := 6) nd rfl (Or.inl rfl))
          (fun _ _ _ _ _ => pts_nil) (fun _ _ _ _ _ => pe_int))
      (pss_cons (ps_set (i := 3) nd rfl (Or.inl rfl) pe_int)
      (pss_cons (ps_for (passes_of rfl) rfl (pi_list (pv 1)) (pg_name (i := 4) nd rfl (Or.inl rfl))
        (pss_cons (ps_asg (pv 3) (pg_sub (pv 2) (pe_p1 (pv 4)) set_list))
        (pss_one (ps_set (i := 3) nd rfl (Or.inl rfl) (pe_op op_sub (pv 3) (pe_p0 (pv 4)))))))
      (pss_one (ps_ret (pv 2))))))), ?_⟩
    refine ⟨fun σ H1 => ∃ q zs, σ = [some (.ref l), some (.ref q), none, none, none, none, none] ∧ Same H H1 ∧ H1 q = some (.lst zs) ∧ Prs H1 zs M, ?_, ?_⟩
    · refine ⟨_, rfl, l, _, rfl, .inl hl, _, rfl, by rw [List.length_map]; omega, by rw [List.length_map]; omega, ?_⟩
      rw [List.length_map, show ((ws.length : Int)).toNat = ws.length from rfl]
      intro o ho
      refine lc_range (lo := 0) (n := ws.length) (fun i H' => Same H H' ∧ ∃ ys, H' o = some (.lst ys) ∧ Prs H' ys ((Bud.ordP ws).take i)) ⟨same_new ho, [], upd_same, .nil⟩ ?_ ?_
      · rintro i H1 hi ⟨s1, ys, e1, p1⟩
        have eg : ws.getD i 0 = ws[i] := by rw [List.getD_eq_getElem?_getD, List.getElem?_eq_getElem hi]; rfl
        refine ⟨rfl, ?_⟩
        refine ⟨_, rfl, _, rfl, l, _, _, V.int ws[i], rfl, rfl, s1.seq hl, (show atI _ (0 + (i : Int)) = _ by rw [Int.zero_add]; exact atI_nat (by rw [List.getElem?_map, List.getElem?_eq_getElem hi]; rfl)), ws[i], rfl, ?_⟩
        refine ⟨_, _, rfl, rfl, _, rfl, (by show 2 ≤ sizeLine; decide), fun t ht => ?_⟩
        have nt : o ≠ t := ne_of_none e1 ht
        refine ⟨ys, by rw [upd_ne nt]; exact e1, ?_, fun b u hb => ?_, _, upd_same, ?_⟩
        · have h1 := p1.length
          rw [List.length_take] at h1
          rw [sizeLine_eq]
          omega
        · rw [upd_ne (ne_of_none hb ho), upd_ne (ne_of_none (s1 _ _ hb) ht)]
          exact s1 _ _ hb
        · rw [List.take_add_one, Bud.ordP_at hi]
          refine Prs.append ((p1.kept (tups_upd ht)).kept (tups_put (by rw [upd_ne nt]; exact e1) (fun xs z => by cases z))) (.cons ⟨t, rfl, ?_⟩ .nil)
          rw [upd_ne nt.symm, upd_same, eg]
          show some (HO.tup [V.int (0 - Bud.fit ws[i]), V.int (0 + (i : Int))]) = _
          rw [Int.zero_add]
      · rintro H1 ⟨s1, ys, e1, p1⟩
        rw [← Bud.ordP_len ws, List.take_length] at p1
        refine ⟨o, ys, _, rfl, SqL.of e1, p1, fun zs M' q pM sM' hzs hq => ?_⟩
        have eM : M' = M := Bud.srt_uniq sM' sM (pM.trans hM.symm)
        subst eM
        exact ⟨q, zs, rfl, s1.trans (same_new hq), upd_same, hzs.kept (tups_upd hq)⟩
    rintro σ H1 ⟨q, zs, rfl, s1, eq1, pq1⟩
    have hp := Bud.ordN_perm hM
    have hnd : (Bud.ordN M).Nodup := hp.nodup_iff.mpr List.nodup_range
    refine ⟨fun σ H2 => ∃ r, σ = [some (.ref l), some (.ref q), some (.ref r), none, none, none, none] ∧ Same H1 H2 ∧ H1 r = none ∧ H2 r = some (.lst ((List.range ws.length).map fun i => V.int (placeT ws [] i))), ?_, ?_⟩
    · refine ⟨_, rfl, l, rfl, ⟨_, s1.seq hl⟩, fun C hC => ?_⟩
      refine lc_list (K := K) (a := l) (xs := ws.map V.int) (fun i H' => H' = upd H1 C (.lst ((List.range i).map fun i => V.int (placeT ws [] i)))) rfl (fun i H' _ e => by rw [e]; exact (same_new hC).seq (s1.seq hl)) ?_ ?_
      · rintro i z H' hi rfl
        have hil : i < ws.length := by
          have := (List.getElem?_eq_some_iff.mp hi).1
          rwa [List.length_map] at this
        refine ⟨rfl, _, upd_same, ?_, ?_⟩
        · rw [List.length_map, List.length_range, sizeLine_eq]
          omega
        · rw [upd_upd, List.range_succ, List.map_append]
          rfl
      · rintro H' rfl
        rw [List.length_map]
        exact ⟨C, rfl, same_new hC, hC, upd_same⟩
    rintro σ H2 ⟨r, rfl, s2, nr, er⟩
    have nqr : q ≠ r := ne_of_none eq1 nr
    refine ⟨_, rfl, q, rfl, ⟨_, SqL.of (s2 _ _ eq1)⟩, for_list (K := K) (a := q) (xs := zs) (fun i σ H3 => ∃ v4 : Option V, σ = [some (.ref l), some (.ref q), some (.ref r), some (.int (((Bud.ordN M).take i).map fun j => Bud.fit (ws.getD j 0)).sum), v4, none, none] ∧ (∀ b u, b ≠ r → H2 b = some u → H3 b = some u) ∧ H3 r = some (.lst ((List.range ws.length).map fun i' => V.int (placeT ws ((Bud.ordN M).take i) i'))))
      ⟨none, rfl, fun b u _ hb => hb, er⟩ ?_ ?_ ?_⟩
    · rintro i σ H3 _ ⟨v4, _, k3, _⟩
      exact SqL.of (k3 _ _ nqr (s2 _ _ eq1))
    · rintro i z σ H3 hi ⟨v4, rfl, k3, e3⟩
      obtain ⟨g, hg, hz⟩ := pq1.get hi
      obtain ⟨tt, rfl, ht⟩ := hz
      have ntr : tt ≠ r := ne_of_none ht nr
      have hz3 : IsPr H3 (.ref tt) g := ⟨tt, rfl, k3 _ _ ntr (s2 _ _ ht)⟩
      have hgm : g ∈ M := List.mem_of_getElem? hg
      obtain ⟨b1, b2, b3⟩ := Bud.ordN_back hM hgm
      have hget : (Bud.ordN M)[i]? = some g.2.toNat := by
        unfold Bud.ordN
        rw [List.getElem?_map, hg]
        rfl
      have htk : (Bud.ordN M).take (i + 1) = (Bud.ordN M).take i ++ [g.2.toNat] := by
        rw [List.take_add_one, hget]
        rfl
      have hnot : g.2.toNat ∉ (Bud.ordN M).take i := fun hmem => by
        have hd2 := hnd.sublist (List.take_sublist (i + 1) _)
        rw [htk] at hd2
        exact (List.nodup_append.mp hd2).2.2 _ hmem _ (List.mem_singleton.mpr rfl) rfl
      refine ⟨_, rfl, _, rfl, _, rfl, g, hz3, r, _, g.2, g.2.toNat, rfl, rfl, e3, ?_, ?_⟩
      · rw [List.length_map, List.length_range, b1]
        exact ixN_at b2
      have hz4 : IsPr (upd H3 r (.lst (((List.range ws.length).map fun i' => V.int (placeT ws ((Bud.ordN M).take i) i')).set g.2.toNat (V.int (((Bud.ordN M).take i).map fun j => Bud.fit (ws.getD j 0)).sum)))) (.ref tt) g := hz3.kept (tups_put e3 (fun xs z => by cases z))
      refine ⟨_, rfl, _, rfl, g, hz4, _, _, rfl, rfl, some (.ref tt), ?_, fun b u hb hu => by rw [upd_ne hb]; exact k3 b u hb hu, ?_⟩
      · rw [htk, List.map_append, List.sum_append, b3]
        show _ = [some (V.ref l), some (V.ref q), some (V.ref r), some (V.int (_ + (Bud.fit (ws.getD g.2.toNat 0) + 0))), _, none, none]
        have : ∀ x f : Int, x - (0 - f) = x + (f + 0) := fun x f => by omega
        rw [← this]
        rfl
      · rw [upd_same, htk]
        congr 2
        exact set_places b2 (placeT_snoc hnot)
    rintro σ H3 ⟨v4, rfl, k3, e3⟩
    have hlz : zs.length = (Bud.ordN M).length := by
      rw [pq1.length]
      unfold Bud.ordN
      rw [List.length_map]
    rw [hlz, List.take_length] at e3
    refine ⟨_, rfl, kQ H3 r (fun b u hb => ?_) ?_⟩
    · have h1 := s1 _ _ hb
      exact k3 b u (ne_of_none h1 nr) (s2 _ _ h1)
    · rw [e3, List.map_map]
      rfl
/-! #### _law_owner -/
/-- whose cell it is, by the pieces that are held -/
def spHolder (K : PySem.W.Frag) : Sp := fun vs H Q _ => ∃ (l : Addr) (xs : List V) (D : List Bud.Pc) (z : Int), vs = [.ref l, .int z] ∧ H l = some (.lst xs) ∧ Prs H xs D ∧ Q (optV (ownerOf D z)) H
theorem ok_holder (T : Txt K mg) : DefOk P w K mg base 1 "_law_owner" ["_law_held", "_law_cell"] (spHolder K) := by
  refine mkDef T.F__law_owner T.g__law_owner bd__law_owner sc__law_owner (fun vs H Q E h => ?_) (fun cdv A outer s H vs Q E hr h => ?_)
  · obtain ⟨l, xs, D, z, rfl, _⟩ := h
    rfl
  · obtain ⟨l, xs, O, z, rfl, hl, pq, k⟩ := h
    have nd := sc__law_owner.nd
    refine ⟨_, pss_cons (ps_for (passes_of rfl) rfl (pi_list (pv 0)) (pg_name (i := 2) nd rfl (Or.inl rfl))
        (pss_one (ps_if (PW.pt (pw_and (pt_cmpR op_le (pe_p0 (pv 2)) (pv 1) (nomark _)) (pw_and1 (pt_cmpR op_lt (pv 1) (pe_op op_add (pe_p0 (pv 2)) (pe_p1 (pv 2))) (nomark _))))) (pss_one (ps_ret (pe_p0 (pv 2)))) pss_nil)))
      (pss_one (ps_ret pe_non)), ?_⟩
    refine ⟨_, rfl, l, rfl, ⟨_, SqL.of hl⟩, for_list (K := K) (a := l) (xs := xs) (fun i σ H' => H' = H ∧ ∃ v, σ = [some (.ref l), some (.int z), v] ∧ ∀ g ∈ O.take i, ¬ (g.1 ≤ z ∧ z < g.1 + g.2))
      ⟨rfl, none, rfl, fun g hg => by cases hg⟩ (fun i σ H' _ h => by rw [h.1]; exact SqL.of hl) ?_ ?_⟩
    · rintro i x σ H' hi ⟨rfl, v, rfl, hn⟩
      obtain ⟨g, hg, hx⟩ := pq.get hi
      have step : ¬ (g.1 ≤ z ∧ z < g.1 + g.2) → ∀ g' ∈ O.take (i + 1), ¬ (g'.1 ≤ z ∧ z < g'.1 + g'.2) := fun hno g' hg' => by
        rw [List.take_add_one, hg] at hg'
        rcases List.mem_append.mp hg' with q | q
        · exact hn g' q
        · rw [List.mem_singleton.mp q]
          exact hno
      refine ⟨_, rfl, g, hx, _, rfl, _, _, rfl, rfl, _, rfl, ?_⟩
      refine ite2 (fun c1 => ?_) (fun c1 => ?_)
      · have c1' : g.1 ≤ z := by simpa using c1
        refine ⟨_, rfl, _, rfl, g, hx, _, rfl, g, hx, _, _, rfl, rfl, _, _, rfl, rfl, _, rfl, ?_⟩
        refine ite2 (fun c2 => ?_) (fun c2 => ?_)
        · have c2' : z < g.1 + g.2 := by simpa using c2
          refine ⟨_, rfl, g, hx, ?_⟩
          rw [ownerOf_take hg hn ⟨c1', c2'⟩] at k
          exact k
        · have c2' : ¬ z < g.1 + g.2 := by simpa using c2
          exact ⟨rfl, _, rfl, step fun q => c2' q.2⟩
      · have c1' : ¬ g.1 ≤ z := by simpa using c1
        exact ⟨rfl, _, rfl, step fun q => c1' q.1⟩
    · rintro σ H' ⟨rfl, v, rfl, hn⟩
      rw [pq.length, List.take_length] at hn
      rw [ownerOf_none hn] at k
      exact k
theorem ownerOf_mem {O : List Bud.Pc} {z a : Int} (h : ownerOf O z = some a) : ∃ p ∈ O, p.1 = a ∧ p.1 ≤ z ∧ z < p.1 + p.2 := by
  unfold ownerOf at h
  cases e : O.find? fun p => decide (p.1 ≤ z ∧ z < p.1 + p.2) with
  | none => rw [e] at h; cases h
  | some p =>
    rw [e] at h
    have hp := List.find?_some e
    exact ⟨p, List.mem_of_find?_eq_some e, Option.some.inj h, of_decide_eq_true hp⟩
theorem ownerOf_no {O : List Bud.Pc} {z : Int} (h : ownerOf O z = none) : ∀ p ∈ O, ¬ (p.1 ≤ z ∧ z < p.1 + p.2) := by
  unfold ownerOf at h
  intro p hp
  have := List.find?_eq_none.mp (Option.map_eq_none_iff.mp h) p hp
  simpa using this
/-- the pieces' order is all one -/
theorem ownerOf_perm {k : Nat} {t : Bud.T k} {D : List Bud.Pc} {z : Int} (h : D.Perm (Bud.outs t 0)) : ownerOf D z = ownerOf (Bud.outs t 0) z := by
  cases e : ownerOf D z with
  | none =>
    have hn := ownerOf_no e
    exact (ownerOf_none fun p hp => hn p (h.mem_iff.mpr hp)).symm
  | some a =>
    obtain ⟨p, hp, rfl, h1⟩ := ownerOf_mem e
    cases e2 : ownerOf (Bud.outs t 0) z with
    | none => exact absurd h1 (ownerOf_no e2 p (h.mem_iff.mp hp))
    | some b =>
      obtain ⟨q, hq, rfl, h2⟩ := ownerOf_mem e2
      by_cases hpq : p = q
      · rw [hpq]
      · have := Bud.outs_apart (h.mem_iff.mp hp) hq hpq
        omega
/-- where the owner is another, no piece begins -/
theorem not_begin {k : Nat} {t : Bud.T k} {z : Int} (h : ownerOf (Bud.outs t 0) z ≠ some z) : ∀ g ∈ Bud.outs t 0, g.1 ≠ z := fun g hg e => by
  have hp := (Bud.in_outs t (Bud.zdvd k) hg).pos
  cases e2 : ownerOf (Bud.outs t 0) z with
  | none => exact ownerOf_no e2 g hg ⟨by omega, by omega⟩
  | some b =>
    obtain ⟨q, hq, rfl, h2⟩ := ownerOf_mem e2
    by_cases hpq : g = q
    · rw [e2, ← hpq, e] at h
      exact h rfl
    · have := Bud.outs_apart hg hq hpq
      omega
/-! #### _law_owners -/
/-- the owners of some cells -/
def spOwners (K : PySem.W.Frag) : Sp := fun vs H Q _ => ∃ (p d : Addr) (k : Nat) (t : Bud.T k) (h l : Addr) (xs : List V) (D : List Bud.Pc) (ws : List Int), vs = [.ref p, .ref h, .int (Bud.pw k), .ref l] ∧ YardT K H p d t ∧ H h = some (.lst xs) ∧ Prs H xs D ∧ D.Perm (Bud.outs t 0) ∧ D.length ≤ 500 ∧ H l = some (.lst (ws.map V.int)) ∧ ws.length ≤ 300 ∧
  ∀ H', Same H H' → Q (.bl true) H'
theorem ok_owners (T : Txt K mg) : DefOk P w K mg base 3 "_law_owners" ["_law_yard", "_law_held", "_law_cells", "_law_wants"] (spOwners K) := by
  refine mkDef T.F__law_owners T.g__law_owners bd__law_owners sc__law_owners (fun vs H Q E h => ?_) (fun cdv A outer s H vs Q E hr h => ?_)
  · obtain ⟨p, d, k, t, h, l, xs, D, ws, rfl, _⟩ := h
    rfl
  · obtain ⟨p, d, k, t, h, l, xs, D, ws, rfl, y, hh, hD, perm, hlen, hl, hwl, kQ⟩ := h
    have nd := sc__law_owners.nd
    have hr1 : Room 1 _ := hr.mono (by decide)
    have hr2 : Room 2 _ := hr
    refine ⟨_, (pss_cons (ps_for (passes_of rfl) rfl (pi_list (pe_op op_cat (pe_lst (pa_cons pe_int (pa_cons (pe_op op_sub (pv 2) pe_int) (pa_cons (pe_op op_fdiv (pv 2) pe_int) (pa_cons (pe_op op_fdiv (pv 2) pe_int) pa_nil))))) (pv 3))) (pg_name (i := 4) nd rfl (Or.inl rfl))
        (pss_one (ps_if (pt_cmpR op_ne (pe_m (pv 0) (ok_owner T) hr2 (pa_cons (pv 4) pa_nil)) (pe_cd (ok_holder T) hr1 (pa_cons (pv 1) (pa_cons (pv 4) pa_nil))) (nomark _)) (pss_one (ps_ret pe_bl)) pss_nil)))
      (pss_one (ps_ret pe_bl))), ?_⟩
    refine ⟨_, rfl, _, _, rfl, rfl, _, rfl, _, _, rfl, rfl, ⟨by decide, by decide⟩, _, rfl, _, _, rfl, rfl, ⟨by decide, by decide⟩, (by show 4 ≤ sizeLine; decide), fun B hB => ?_⟩
    have sB := same_new (o := .lst [.int 0, .int (Bud.pw k - 1), .int (Bud.pw k / 2), .int (Bud.pw k / 3)]) hB
    refine ⟨_, rfl, B, l, _, _, rfl, rfl, upd_same, sB _ _ hl, ?_, fun F hF => ?_⟩
    · rw [List.length_map, sizeLine_eq]
      show 4 + _ ≤ _
      omega
    have s1 := sB.trans (same_new (o := .lst ([.int 0, .int (Bud.pw k - 1), .int (Bud.pw k / 2), .int (Bud.pw k / 3)] ++ ws.map V.int)) hF)
    refine ⟨F, rfl, ⟨_, SqL.of upd_same⟩, for_list (K := K) (a := F) (xs := ([0, Bud.pw k - 1, Bud.pw k / 2, Bud.pw k / 3] ++ ws).map V.int) (fun i σ H' => Same H H' ∧ (∃ v4 : Option V, σ = [some (.ref p), some (.ref h), some (.int (Bud.pw k)), some (.ref l), v4]) ∧ H' F = some (.lst (([0, Bud.pw k - 1, Bud.pw k / 2, Bud.pw k / 3] ++ ws).map V.int)))
      ⟨s1, ⟨none, rfl⟩, upd_same⟩ (fun i σ H' _ h' => SqL.of h'.2.2) ?_ ?_⟩
    · rintro i z σ H1 hi ⟨s2, ⟨v4, rfl⟩, eF⟩
      rw [List.getElem?_map] at hi
      obtain ⟨c, hc, rfl⟩ : ∃ m, ([0, Bud.pw k - 1, Bud.pw k / 2, Bud.pw k / 3] ++ ws)[i]? = some m ∧ z = V.int m := by
        cases e : ([0, Bud.pw k - 1, Bud.pw k / 2, Bud.pw k / 3] ++ ws)[i]? with
        | none => rw [e] at hi; cases hi
        | some m => rw [e] at hi; exact ⟨m, rfl, (Option.some.inj hi).symm⟩
      have y2 := y.same s2
      obtain ⟨G, hG, ndG, ya⟩ := y2.raw
      obtain ⟨dx, fs, ef, nm, _⟩ := ya.at_
      refine ⟨_, rfl, p, dx, fs, rfl, ef, nm.owner, _, rfl, p, d, _, _, G, c, rfl, ya, ndG, by rw [hG.length_eq, ← perm.length_eq]; omega, fun H3 O s3 permO srtO => ?_⟩
      have eO : O = Bud.outs t 0 := Bud.srt_uniq srtO (Bud.srt_outs t (Bud.zdvd k)) (permO.trans hG)
      subst eO
      have s23 := s2.trans s3
      refine ⟨_, rfl, _, rfl, h, xs, D, c, rfl, s23 _ _ hh, hD.kept (Same.tups s23), ?_⟩
      rw [ownerOf_perm perm]
      refine ⟨?_, _, rfl, iteNS rfl ?_⟩
      · cases ownerOf (Bud.outs t 0) c <;> rfl
      exact ⟨s23, ⟨_, rfl⟩, s3 _ _ eF⟩
    rintro σ H1 ⟨s2, ⟨v4, rfl⟩, _⟩
    exact kQ _ s2
/-! #### _law_behind -/
theorem owner_last {k : Nat} {t : Bud.T k} {p : Bud.Pc} (hp : p ∈ Bud.outs t 0) : ownerOf (Bud.outs t 0) (p.1 + p.2 - 1) = some p.1 := by
  obtain ⟨i, hi⟩ := List.getElem?_of_mem hp
  have hpos := (Bud.in_outs t (Bud.zdvd k) hp).pos
  refine ownerOf_take hi (fun q hq => ?_) ⟨by omega, by omega⟩
  have hah := Bud.ahead_outs t (Bud.zdvd k)
  obtain ⟨j, hj, ej⟩ := List.mem_iff_getElem.mp hq
  have hji : j < i := by
    rw [List.length_take] at hj
    omega
  have hil : i < (Bud.outs t 0).length := (List.getElem?_eq_some_iff.mp hi).1
  have h1 : Bud.Ahead _ _ := List.pairwise_iff_getElem.mp hah j i (by omega) hil hji
  have e1 : (Bud.outs t 0)[j]'(by omega) = q := by rw [← ej, List.getElem_take]
  have e2 : (Bud.outs t 0)[i]'hil = p := (List.getElem?_eq_some_iff.mp hi).2
  rw [e1, e2] at h1
  unfold Bud.Ahead at h1
  omega
theorem sizes_pos : ∀ {L : List Bud.Pc}, (∀ p ∈ L, 0 < p.2) → 0 ≤ Bud.sizes L
  | [], _ => Int.le_refl _
  | p :: L, h => by
    have h1 := h p List.mem_cons_self
    have h2 := sizes_pos fun q hq => h q (List.mem_cons_of_mem _ hq)
    rw [Bud.sizes_cons]
    omega
theorem cut_one (xs : List V) : cutV xs none (some 1) = xs.take 1 := by
  cases xs with
  | nil => rfl
  | cons x xs => exact cutV_to _ 1 (by rw [List.length_cons]; omega)
theorem cut_rest (xs : List V) : cutV xs (some 1) none = xs.drop 1 := by
  cases xs with
  | nil => rfl
  | cons x xs => exact cutV_from _ 1 (by rw [List.length_cons]; omega)
theorem gives_one {k : Nat} {t : Bud.T k} (hc : Bud.Can t) (h : Bud.sizes (Bud.outs t 0) < Bud.pw k) : ∃ as t', Bud.Gives [1] t [0] as t' := by
  obtain ⟨a, S, hb⟩ := Bud.best_one h
  have hm := Bud.best_mem hb
  obtain ⟨_, _, j, hj, e, _⟩ := Bud.in_frees t (Bud.zdvd k) hm
  have e : S = Bud.pw j := e
  subst e
  have h1 : (1 : Int) ≤ Bud.pw j := (Bud.best_some hb).1
  obtain ⟨t1, c1, _, _, p1⟩ := Bud.give_tree hc (Bud.zdvd k) hm (Bud.fe_le h1)
  exact ⟨[a], t1, .cons hb c1 p1 (.nil t1)⟩
/-- behind wishes that were granted -/
def spBehind (K : PySem.W.Frag) : Sp := fun vs H Q _ => ∃ (p d q h : Addr) (k : Nat) (t : Bud.T k) (ps : List Int) (xs : List V) (D : List Bud.Pc), vs = [.ref p, .ref q, .ref h] ∧ YardT K H p d t ∧ ¬ Spare H p q ∧ H q = some (.lst (ps.map V.int)) ∧ ps.length ≤ 300 ∧ H h = some (.lst xs) ∧ Prs H xs D ∧ D.Perm (Bud.outs t 0) ∧ D.length ≤ 500 ∧ h ≠ q ∧
  ∀ H', (∀ b o, H b = some o → b ≠ p → b ≠ d → b ≠ q → H' b = some o) → Q (.bl true) H'
theorem ok_behind (T : Txt K mg) : DefOk P w K mg base 5 "_law_behind" ["_law_yard", "_law_places", "_law_held"] (spBehind K) := by
  refine mkDef T.F__law_behind T.g__law_behind bd__law_behind sc__law_behind (fun vs H Q E h => ?_) (fun cdv A outer s H vs Q E hr h => ?_)
  · obtain ⟨p, d, q, h, k, t, ps, xs, D, rfl, _⟩ := h
    rfl
  · obtain ⟨p, d, q, h, k, t, ps, xs, D, rfl, y, sp, hq, hps, hh, hD, perm, hlen, eqh, kQ⟩ := h
    have nd := sc__law_behind.nd
    have hr1 : Room 1 _ := hr.mono (by decide)
    have hr2 : Room 2 _ := hr.mono (by decide)
    have hr3 : Room 3 _ := hr.mono (by decide)
    have hr4 : Room 4 _ := hr
    have hu := hr.units
    have hpk := Bud.pw_pos k
    refine ⟨_, (C8.pss_cut (ps_set (i := 3) nd rfl (Or.inl rfl) (pe_callTy call_listK (by rfl) T.n_list (by decide +kernel) (pa_cons (pv 1) pa_nil)))
      (C8.pss_cut (ps_if (PW.pt (pw_or (pt_cmpR (op_neIs hu) (pe_cd (ok_give_all T) hr4 (pa_cons (pv 0) (pa_cons (pe_lst pa_nil) pa_nil))) (pe_lst pa_nil) (nomark _)) (pw_or (pt_cmpR (op_neIs hu) (pv 1) (pv 3) (nomark _)) (pw_or1 (pt_cmpR (op_nePs hu) (pe_m0 (pv 0) (ok_out T) hr1) (pe_callB cr_sortPs (by rfl) T.n_sorted (by decide +kernel) (pa_cons (pv 2) pa_nil)) (nomark _)))))) (pss_one (ps_ret pe_bl)) pss_nil)
      (C8.pss_cut (ps_for (passes_of rfl) rfl (pi_list (pv 2)) (pg_name (i := 4) nd rfl (Or.inl rfl))
        (pss_one (ps_if (pt_cmpR op_ne (pe_m (pv 0) (ok_owner T) hr2 (pa_cons (pe_op op_sub (pe_op op_add (pe_p0 (pv 4)) (pe_p1 (pv 4))) pe_int) pa_nil)) (pe_p0 (pv 4)) (nomark _)) (pss_one (ps_ret pe_bl)) pss_nil)))
      (C8.pss_cut (ps_for (passes_of rfl) rfl (pi_list (pe_slice sl_list (pv 2) po_none (po_some pe_int))) (pg_name (i := 4) nd rfl (Or.inl rfl))
        (pss_cons (ps_expr (pe_m (pv 0) (ok_take_back T) hr3 (pa_cons (pe_p0 (pv 4)) pa_nil)))
        (pss_cons (ps_set (i := 5) nd rfl (Or.inl rfl) (pe_cd (ok_give_all T) hr4 (pa_cons (pv 0) (pa_cons (pe_lst (pa_cons pe_int pa_nil)) pa_nil))))
        (pss_cons (ps_if (PW.pt (pw_or (pt_not (pt_val (pe_callB call_isi (by rfl) T.n_isinstance (by decide +kernel) (pa_cons (pv 5) (pa_cons (pe_bltn (v := .ty "list") (u := .type "list") (by rfl) T.n_list (by decide +kernel) rfl) pa_nil))))) (pw_or (pt_cmpR op_ne (pe_callB call_len_seq (by rfl) T.n_len PySem.boot_len (pa_cons (pv 5) pa_nil)) pe_int (nomark _)) (pw_or1 (pt_cmpR (op_neIs hu) (pv 1) (pv 3) (nomark _)))))) (pss_one (ps_ret pe_bl)) pss_nil)
        (pss_one (ps_expr (pe_m (pv 0) (ok_take_back T) hr3 (pa_cons (pe_ix ix_list (pv 5) pe_int (fun _ _ => rfl)) pa_nil))))))))
      (pss_cons (ps_expr (pe_bm0 PySem.F.plainAttrs_list PySem.F.slot_list_clear PySem.F.type_list_clear mt_clear (pv 1)))
      (pss_one (ps_ret (pe_cmpR (op_eqPs hu) (pe_m0 (pv 0) (ok_out T) hr1) (pe_callB cr_sortPs (by rfl) T.n_sorted (by decide +kernel) (pa_cons (pe_slice sl_list (pv 2) (po_some pe_int) po_none) pa_nil)) (nomark _))))))))), ?_⟩
    -- kept
    refine ⟨fun σ H0 => ∃ r, σ = [some (.ref p), some (.ref q), some (.ref h), some (.ref r), none, none] ∧ Same H H0 ∧ H0 r = some (.lst (ps.map V.int)), ?_, ?_⟩
    · exact ⟨_, rfl, q, _, rfl, SqL.of hq, fun r hr0 => ⟨r, rfl, same_new hr0, upd_same⟩⟩
    rintro σ H0 ⟨r, rfl, s0, er0⟩
    have y0 := y.same s0
    have hY0 := y0.has
    have hq0 := s0 _ _ hq
    have hh0 := s0 _ _ hh
    have hD0 := hD.kept (Same.tups s0)
    have sp0 : ¬ Spare H0 p q := fun z => sp (Spare.same s0 y.has z)
    have hlo : (Bud.outs t 0).length ≤ 700 := by rw [← perm.length_eq]; omega
    -- none at all
    refine ⟨fun σ H1 => σ = [some (.ref p), some (.ref q), some (.ref h), some (.ref r), none, none] ∧ Kp p d H0 H1 ∧ YardT K H1 p d t ∧ ¬ Spare H1 p q, ?_, ?_⟩
    · refine ⟨_, rfl, Nat.zero_le _, fun l hl => ?_⟩
      have s1 := same_new (o := .lst []) hl
      refine ⟨p, d, k, t, l, [], [], rfl, y0.same s1, SqL.of upd_same, by decide, hlo, List.Perm.refl _, List.Pairwise.nil, fun ⟨w, hw, _⟩ => (by cases hw), fun _ ⟨w, hw, _⟩ => (by cases hw), fun _ as t' hg H1 o k1 y1 no spo spn eo => ?_, fun _ hno => absurd (.nil t) (hno [] t)⟩
      cases hg
      have k01 : Kp p d H0 H1 := (Same.kp s1 p d).trans k1
      have sp1 : ¬ Spare H1 p q := fun z => by
        rcases spn q z with e | e
        · rw [s1 _ _ hq0] at e
          cases e
        · exact sp0 (Spare.same s1 hY0 e)
      refine ⟨Nat.zero_le _, fun e he => ?_⟩
      have s2 := same_new (o := .lst []) he
      refine ⟨o, e, [], [], rfl, rfl, SqL.of (s2 _ _ eo), SqL.of upd_same, false, neIF rfl, iteF ?_⟩
      have k02 : Kp p d H0 _ := k01.trans (Same.kp s2 p d)
      refine ⟨_, rfl, _, rfl, q, r, ps, ps, rfl, rfl, SqL.of (hY0.lst k02 hq0), SqL.of (hY0.lst k02 er0), false, neIF rfl, iteF ?_⟩
      have y2 := y1.same s2
      refine tst_mk (rd_out rfl y2 (by omega) fun H3 u us s3 nu eu pu => ?_)
      have k03 := k02.trans (Same.kp s3 p d)
      refine ⟨_, rfl, h, xs, D, rfl, SqL.of (hY0.lst k03 hh0), hY0.prs k03 hD0, fun ys M z pM sM hys hz => ?_⟩
      have eM : M = Bud.outs t 0 := Bud.srt_uniq sM (Bud.srt_outs t (Bud.zdvd k)) (pM.trans perm)
      subst eM
      have s4 := same_new (o := .lst ys) hz
      refine ⟨u, z, us, ys, _, _, rfl, rfl, SqL.of (s4 _ _ eu), SqL.of upd_same, pu.kept (Same.tups s4), hys.kept (Same.tups s4), false, neF rfl, iteF ⟨rfl, k03.trans (Same.kp s4 p d), (y2.same s3).same s4, fun z => sp1 ?_⟩⟩
      exact Spare.same (s2.trans (s3.trans s4)) y1.has z
    rintro σ H1 ⟨rfl, k1, y1, sp1⟩
    -- the owners
    refine ⟨fun σ H2 => ∃ v4, σ = [some (.ref p), some (.ref q), some (.ref h), some (.ref r), v4, none] ∧ Kp p d H0 H2 ∧ YardT K H2 p d t ∧ ¬ Spare H2 p q, ?_, ?_⟩
    · refine ⟨_, rfl, h, rfl, ⟨_, SqL.of (hY0.lst k1 hh0)⟩, for_list (K := K) (a := h) (xs := xs) (fun i σ H2 => (∃ v4, σ = [some (.ref p), some (.ref q), some (.ref h), some (.ref r), v4, none]) ∧ Kp p d H0 H2 ∧ YardT K H2 p d t ∧ ¬ Spare H2 p q)
        ⟨⟨none, rfl⟩, k1, y1, sp1⟩ (fun i σ H' _ h' => SqL.of (hY0.lst h'.2.1 hh0)) ?_ ?_⟩
      · rintro i z σ H2 hi ⟨⟨v4, rfl⟩, k2, y2, sp2⟩
        obtain ⟨g, hg, hx⟩ := (hY0.prs k2 hD0).get hi
        have hgm : g ∈ Bud.outs t 0 := perm.mem_iff.mp (List.mem_of_getElem? hg)
        obtain ⟨G, hG, ndG, ya⟩ := y2.raw
        obtain ⟨dx, fs, ef, nm, _⟩ := ya.at_
        refine ⟨_, rfl, p, dx, fs, rfl, ef, nm.owner, _, rfl, g, hx, _, rfl, g, hx, _, _, rfl, rfl, _, _, rfl, rfl, p, d, _, _, G, g.1 + g.2 - 1, rfl, ya, ndG, by rw [hG.length_eq]; omega, fun H3 O s3 permO srtO => ?_⟩
        have eO : O = Bud.outs t 0 := Bud.srt_uniq srtO (Bud.srt_outs t (Bud.zdvd k)) (permO.trans hG)
        subst eO
        rw [owner_last hgm]
        refine ⟨_, rfl, g, hx.kept (Same.tups s3), rfl, _, rfl, iteNS rfl ?_⟩
        exact ⟨⟨_, rfl⟩, k2.trans (Same.kp s3 p d), y2.same s3, fun z => sp2 (Spare.same s3 y2.has z)⟩
      · rintro σ H2 ⟨⟨v4, rfl⟩, r2⟩
        exact ⟨v4, rfl, r2⟩
    clear k1 y1 sp1 H1
    rintro σ H1 ⟨v4, rfl, k1, y1, sp1⟩
    -- one comes back
    refine ⟨fun σ H2 => ∃ (v4 v5 : Option V) (t1 : Bud.T k), σ = [some (.ref p), some (.ref q), some (.ref h), some (.ref r), v4, v5] ∧ Kp p d H0 H2 ∧ YardT K H2 p d t1 ∧ ¬ Spare H2 p q ∧ (D.drop 1).Perm (Bud.outs t1 0), ?_, ?_⟩
    · refine ⟨_, rfl, _, rfl, h, _, rfl, SqL.of (hY0.lst k1 hh0), fun c hc => ?_⟩
      rw [cut_one]
      have s2 := same_new (o := .lst (xs.take 1)) hc
      have k2 := k1.trans (Same.kp s2 p d)
      refine ⟨c, rfl, ⟨_, SqL.of upd_same⟩, for_list (K := K) (a := c) (xs := xs.take 1) (fun i σ H2 => ∃ (v4 v5 : Option V) (t1 : Bud.T k), σ = [some (.ref p), some (.ref q), some (.ref h), some (.ref r), v4, v5] ∧ Kp p d H0 H2 ∧ YardT K H2 p d t1 ∧ ¬ Spare H2 p q ∧ (D.drop i).Perm (Bud.outs t1 0) ∧ H2 c = some (.lst (xs.take 1)))
        ⟨v4, none, t, rfl, k2, y1.same s2, fun z => sp1 (Spare.same s2 y1.has z), perm, upd_same⟩ (fun i σ H' _ ⟨_, _, _, _, _, _, _, _, ec⟩ => SqL.of ec) ?_ ?_⟩
      · rintro i z σ H2 hi ⟨v4, v5, t1, rfl, k2, y2, sp2, perm2, ec2⟩
        have hi1 : i < 1 := by
          have := (List.getElem?_eq_some_iff.mp hi).1
          rw [List.length_take] at this
          omega
        obtain rfl : i = 0 := by omega
        rw [List.getElem?_take_of_lt (by omega)] at hi
        obtain ⟨g, hg, hx⟩ := (hY0.prs k2 hD0).get hi
        obtain ⟨ga, gs⟩ := g
        obtain ⟨D', rfl⟩ : ∃ D', D = (ga, gs) :: D' := by
          cases D with
          | nil => cases hg
          | cons g' D' =>
            rw [List.getElem?_cons_zero] at hg
            rw [Option.some.inj hg]
            exact ⟨D', rfl⟩
        have perm2 : ((ga, gs) :: D').Perm (Bud.outs t1 0) := perm2
        have hgm : (ga, gs) ∈ Bud.outs t1 0 := perm2.mem_iff.mp List.mem_cons_self
        have hl2 : (Bud.outs t1 0).length ≤ 500 := by rw [← perm2.length_eq]; exact hlen
        obtain ⟨dx, fs, ef, nm, _⟩ := y2.at_
        refine ⟨_, rfl, p, dx, fs, rfl, ef, nm.take, _, rfl, (ga, gs), hx, p, d, k, t1, ga, rfl, y2, by omega, fun z => absurd rfl (z _ hgm), fun s' hs H3 t3 k3 y3 spn3 perm3 => ?_⟩
        have es : s' = gs := Bud.key_uniq hs hgm
        subst es
        have k03 := k2.trans k3
        have hq2 := hY0.lst k2 hq0
        have sp3 : ¬ Spare H3 p q := fun z => by
          have := spn3 q z
          rw [hq2] at this
          cases this
        have hD3 : D'.Perm (Bud.outs t3 0) := List.Perm.cons_inv (perm2.trans perm3)
        -- one more
        refine ⟨_, rfl, (by show 1 ≤ sizeLine; decide), fun l hl => ?_⟩
        have s4 := same_new (o := .lst [.int 1]) hl
        have hM : (Bud.ordP [1]).Perm (Bud.ordP [1]) := List.Perm.refl _
        have hOrd : Bud.ordN (Bud.ordP [1]) = [0] := rfl
        have hok : ∀ w ∈ ([1] : List Int), 1 ≤ w ∧ w ≤ Bud.pw k := fun w hw => by
          rw [List.mem_singleton.mp hw]
          omega
        have hone := gives_one (t := t3) y3.2.1 (by
          have h1 := Bud.sizes_all t1 0
          have h2 := sizes_pos (L := Bud.frees t1 0) fun p hp => (Bud.in_frees t1 (Bud.zdvd k) hp).pos
          have h3 := Bud.sizes_perm perm3
          rw [Bud.sizes_cons] at h3
          have h4 : 0 < s' := (Bud.in_outs t1 (Bud.zdvd k) hgm).pos
          simp only at h3
          omega)
        refine ⟨p, d, k, t3, l, [1], Bud.ordP [1], rfl, y3.same s4, SqL.of upd_same, by decide, by rw [← hD3.length_eq]; rw [List.length_cons] at hlen; omega, hM, List.pairwise_singleton _ _, fun ⟨w, hw, z⟩ => absurd z (by have := hok w hw; omega), fun _ ⟨w, hw, z⟩ => absurd z (by have := hok w hw; omega), fun _ as t5 hg5 H5 o k5 y5 no spo spn5 eo => ?_, fun _ hno => ?_⟩
        · have hg5 : Bud.Gives [1] t3 [0] as t5 := hg5
          cases hg5 with
          | @cons _ t5' _ _ _ a S as' hb hc5 hp5 r5 =>
          cases r5
          have hp5 : (Bud.outs t5 0).Perm ((a, Bud.fit 1) :: Bud.outs t3 0) := hp5
          have eo : H5 o = some (.lst [V.int a]) := eo
          have k45 : Kp p d H3 H5 := (Same.kp s4 p d).trans k5
          have k05 := k03.trans k45
          have hq5 := hY0.lst k05 hq0
          refine ⟨_, rfl, _, _, _, _, true, rfl, .ty "list", .base (.lst eo), kit_ty (by decide +kernel), _, rfl, iteF ?_⟩
          refine ⟨_, rfl, o, _, rfl, .inl (SqL.of eo), rfl, _, rfl, iteNS rfl ?_⟩
          refine ⟨_, rfl, _, rfl, q, r, ps, ps, rfl, rfl, SqL.of hq5, SqL.of (hY0.lst k05 er0), false, neIF rfl, iteF ?_⟩
          have hgm5 : (a, Bud.fit 1) ∈ Bud.outs t5 0 := hp5.mem_iff.mpr List.mem_cons_self
          have hl5 : (Bud.outs t5 0).length ≤ 1000 := by
            rw [hp5.length_eq, List.length_cons, ← hD3.length_eq]
            rw [List.length_cons] at hlen
            omega
          obtain ⟨dx5, fs5, ef5, nm5, _⟩ := y5.at_
          refine ⟨_, rfl, p, dx5, fs5, rfl, ef5, nm5.take, _, rfl, o, _, 0, V.int a, rfl, rfl, SqL.of eo, rfl, p, d, k, t5, a, rfl, y5, hl5, fun z => absurd rfl (z _ hgm5), fun s6 hs6 H6 t6 k6 y6 spn6 perm6 => ?_⟩
          have es6 : s6 = Bud.fit 1 := Bud.key_uniq hs6 hgm5
          subst es6
          refine ⟨_, _, t6, rfl, k05.trans k6, y6, fun z => ?_, ?_, y2.has.lst (k3.trans (k45.trans k6)) ec2⟩
          · have := spn6 q z
            rw [hq5] at this
            cases this
          · show D'.Perm _
            exact hD3.trans (List.Perm.cons_inv (hp5.symm.trans perm6))
        · obtain ⟨as, t', g⟩ := hone
          exact absurd g (hno as t')
      · rintro σ H2 ⟨v4, v5, t1, rfl, k2, y2, sp2, perm2, _⟩
        refine ⟨v4, v5, t1, rfl, k2, y2, sp2, ?_⟩
        rw [List.length_take, hD.length] at perm2
        cases D with
        | nil => exact perm2
        | cons g D' =>
          rw [List.length_cons, show min 1 (D'.length + 1) = 1 by omega] at perm2
          exact perm2
    clear k1 y1 sp1 H1 v4
    rintro σ H1 ⟨v4, v5, t1, rfl, k1, y1, sp1, perm1⟩
    have hq1 := hY0.lst k1 hq0
    have hh1 := hY0.lst k1 hh0
    have hD1 := hY0.prs k1 hD0
    have npq : p ≠ q := ne_of (y1.at_.choose_spec.choose_spec.1) hq1 (by intro z; cases z)
    have hl1 : (Bud.outs t1 0).length ≤ 1000 := by
      rw [← perm1.length_eq, List.length_drop]
      omega
    refine ⟨_, rfl, .inl ⟨rfl, _, SqL.of hq1⟩, q, _, rfl, rfl, hq1, ?_⟩
    have y2 := y1.put hq1 sp1 (.lst [])
    have hh2 : (upd H1 q (.lst [])) h = some (.lst xs) := by rw [upd_ne eqh]; exact hh1
    have hD2 : Prs (upd H1 q (.lst [])) xs D := hD1.kept (tups_put hq1 (fun xs z => by cases z))
    refine rd_out rfl y2 hl1 fun H3 u us s3 nu eu pu => ?_
    refine ⟨_, rfl, _, rfl, h, _, rfl, SqL.of (s3 _ _ hh2), fun c hc => ?_⟩
    rw [cut_rest]
    have s4 := same_new (o := .lst (xs.drop 1)) hc
    have s34 := s3.trans s4
    refine ⟨c, xs.drop 1, D.drop 1, rfl, SqL.of upd_same, (Prs.drop 1 hD2).kept (Same.tups s34), fun ys M z pM sM hys hz => ?_⟩
    have eM : M = Bud.outs t1 0 := Bud.srt_uniq sM (Bud.srt_outs t1 (Bud.zdvd k)) (pM.trans perm1)
    subst eM
    have s5 := same_new (o := .lst ys) hz
    refine ⟨u, z, us, ys, _, _, rfl, rfl, SqL.of ((s4.trans s5) _ _ eu), SqL.of upd_same, pu.kept (Same.tups (s4.trans s5)), hys.kept (Same.tups s5), ?_⟩
    rw [eqT rfl]
    refine kQ _ fun b o hb nbp nbd nbq => ?_
    refine (s34.trans s5) _ _ ?_
    rw [upd_ne nbq]
    exact k1 _ _ (s0 _ _ hb) nbp nbd
/-! #### law -/
def wOrd (ws : List Int) : List Bud.Pc := (Bud.ordP ws).mergeSort fun p q => decide (p.1 < q.1 ∨ (p.1 = q.1 ∧ p.2 ≤ q.2))
theorem wOrd_perm (ws : List Int) : (wOrd ws).Perm (Bud.ordP ws) := List.mergeSort_perm _ _
theorem wOrd_srt (ws : List Int) : Bud.Srt (wOrd ws) := by
  have h : (wOrd ws).Pairwise (fun p q => decide (p.1 < q.1 ∨ (p.1 = q.1 ∧ p.2 ≤ q.2)) = true) := by
    refine List.pairwise_mergeSort (fun a b c h1 h2 => ?_) (fun a b => ?_) _
    · have h1 := of_decide_eq_true h1
      have h2 := of_decide_eq_true h2
      exact decide_eq_true (by omega)
    · rw [Bool.or_eq_true, decide_eq_true_eq, decide_eq_true_eq]
      omega
  exact h.imp fun {p q} h => by
    have := of_decide_eq_true h
    exact this
theorem spare_some {H : Hp} {p d l : Addr} {k : Nat} {t : Bud.T k} (y : YardT K H p d t) (h : Spare H p l) : H l ≠ none := by
  obtain ⟨hk, hc, G, hG, dx, l', zs, h1, h2, h3, h4⟩ := y
  have e := Spare.eq h h1
  subst e
  rw [h2]
  intro z
  cases z
theorem due_empty {k : Nat} {t : Bud.T k} {ws : List Int} {M : List Bud.Pc} (h : dueS t ws M = "") : (∀ w ∈ ws, 1 ≤ w ∧ w ≤ Bud.pw k) ∧ ∃ as t', Bud.Gives ws t (Bud.ordN M) as t' := by
  by_cases c1 : ∃ w ∈ ws, w < 1
  · rw [due_wish c1] at h
    exact absurd h ne_wish
  have c1' : ∀ w ∈ ws, 1 ≤ w := fun w hw => by
    have : ¬ w < 1 := fun z => c1 ⟨w, hw, z⟩
    omega
  by_cases c2 : (∃ w ∈ ws, Bud.pw k < w) ∨ ¬ ∃ as t', Bud.Gives ws t (Bud.ordN M) as t'
  · rw [due_room c1' c2] at h
    exact absurd h ne_room
  refine ⟨fun w hw => ⟨c1' w hw, ?_⟩, Classical.byContradiction fun z => c2 (.inr z)⟩
  have : ¬ Bud.pw k < w := fun z => c2 (.inl ⟨w, hw, z⟩)
  omega
theorem ok_law (T : Txt K mg) {f : Addr} {fd : FuncData} (F : FunD K "law" "law" (defArgs s_law) (defBody s_law) (defScope s_law) [] [] f fd) : FnOk P w K mg base CX0 lawLevel f fd ["_law_script"] (spLaw K) := by
  refine mkFn F sc_law (fun vs H Q E h => ?_) (fun cdv A outer s H vs Q E hr h => ?_)
  · obtain ⟨a, ns, rfl, _⟩ := h
    rfl
  · obtain ⟨a, ns, rfl, hS, hl, kQ⟩ := h
    have nd := sc_law.nd
    have hr1 : Room 1 _ := hr.mono (by decide)
    have hr2 : Room 2 _ := hr.mono (by decide)
    have hr3 : Room 3 _ := hr.mono (by decide)
    have hr4 : Room 4 _ := hr.mono (by decide)
    have hr5 : Room 5 _ := hr.mono (by decide)
    have hu := hr.units
    refine ⟨_, PSs.nox (C8.pss_cut (ps_set (i := 1) nd rfl (Or.inl rfl) (pe_cd (ok_ysize T) hr2 (pa_cons (pv 0) pa_nil)))
      (C8.pss_cut (ps_set (i := 2) nd rfl (Or.inl rfl) (pe_mk (E := fun _ => E0) (ok_init T) hr3 passAt0 (pa_cons (pv 1) pa_nil)))
      (C8.pss_cut (ps_set (i := 3) nd rfl (Or.inl rfl) (pe_lst pa_nil))
      (C8.pss_cut (ps_if (pt_cmpR op_ne (pe_op op_mod (pe_op op_fdiv (pe_cd (ok_cell T) hr1 (pa_cons (pv 0) (pa_cons pe_int pa_nil))) pe_int) pe_int) pe_int (nomark _))
        (pss_one (ps_for PassesOwn.never rfl (pi_list (pe_slice sl_list (pv 0) (po_some pe_int) (po_some (pe_op op_add pe_int (pe_op op_mod (pe_cd (ok_cell T) hr1 (pa_cons (pv 0) (pa_cons pe_int pa_nil))) pe_int))))) (pg_name (i := 4) nd rfl (Or.inl rfl))
          (pss_one (ps_set (i := 3) nd rfl (Or.inl rfl) (pe_cd (ok_done T) hr4 (pa_cons (pv 2) (pa_cons (pv 3) (pa_cons (pv 4) (pa_cons (pv 1) pa_nil))))))))) pss_nil)
      (C8.pss_cut (ps_set (i := 5) nd rfl (Or.inl rfl) (pe_cd (ok_wishes T) hr3 (pa_cons (pv 0) (pa_cons (pv 3) (pa_cons (pv 1) pa_nil)))))
      (C8.pss_cut (ps_set (i := 6) nd rfl (Or.inl rfl) (pe_cd (ok_due T) hr2 (pa_cons (pv 3) (pa_cons (pv 5) (pa_cons (pv 1) pa_nil)))))
      (C8.pss_cut (ps_set (i := 7) nd rfl (Or.inl rfl) (pe_lst (pa_cons (pe_callTy call_listK (by rfl) T.n_list (by decide +kernel) (pa_cons (pe_m0 (pv 2) (ok_out T) hr1) pa_nil)) (pa_cons (pe_callTy call_listK (by rfl) T.n_list (by decide +kernel) (pa_cons (pe_m0 (pv 2) (ok_free T) hr1) pa_nil)) pa_nil))))
      (C8.pss_cut (ps_set (i := 8) nd rfl (Or.inl rfl) (pe_callTy call_listK (by rfl) T.n_list (by decide +kernel) (pa_cons (pv 5) pa_nil)))
      (C8.pss_cut (ps_set (i := 9) nd rfl (Or.inl rfl) (pe_cd (ok_told T) hr5 (pa_cons (pv 2) (pa_cons (pv 8) pa_nil))))
      (C8.pss_cut (ps_if (PW.pt (pw_or (pt_cmpR op_ne (pe_ix ix_tup (pv 9) pe_int (fun _ _ => rfl)) (pv 6) (nomark _)) (pw_or1 (pt_cmpR (op_neIs hu) (pv 8) (pv 5) (nomark _))))) (pss_one (ps_ret pe_bl)) pss_nil)
      (C8.pss_cut (ps_expr (pe_bm0 PySem.F.plainAttrs_list PySem.F.slot_list_clear PySem.F.type_list_clear mt_clear (pv 8)))
      (C8.pss_cut (ps_if (pt_cmpR op_ne (pv 6) pe_str (nomark _)) (pss_one (ps_ret (pe_and (pe_cmpR (op_eqLL hu) (pe_lst (pa_cons (pe_m0 (pv 2) (ok_out T) hr1) (pa_cons (pe_m0 (pv 2) (ok_free T) hr1) pa_nil))) (pv 7) (nomark _)) (pe_one (pe_cd (ok_owners T) hr3 (pa_cons (pv 2) (pa_cons (pv 3) (pa_cons (pv 1) (pa_cons (pv 5) pa_nil))))))))) pss_nil)
      (C8.pss_cut (ps_if (PW.pt (pw_or (pt_not (pt_val (pe_callB call_isi (by rfl) T.n_isinstance (by decide +kernel) (pa_cons (pe_ix ix_tup (pv 9) pe_int (fun _ _ => rfl)) (pa_cons (pe_bltn (v := .ty "list") (u := .type "list") (by rfl) T.n_list (by decide +kernel) rfl) pa_nil))))) (pw_or1 (pt_cmpR op_ne (pe_callB call_len_seq (by rfl) T.n_len PySem.boot_len (pa_cons (pe_ix ix_tup (pv 9) pe_int (fun _ _ => rfl)) pa_nil)) (pe_callB call_len_seq (by rfl) T.n_len PySem.boot_len (pa_cons (pv 5) pa_nil)) (nomark _))))) (pss_one (ps_ret pe_bl)) pss_nil)
      (C8.pss_cut (ps_if (PW.pt (pw_and (pt_cmpR (op_eqPs hu) (pv 3) (pe_lst pa_nil) (nomark _)) (pw_and1 (pt_cmpR (op_neIs hu) (pe_ix ix_tup (pv 9) pe_int (fun _ _ => rfl)) (pe_cd (ok_in_turn T) hr2 (pa_cons (pv 5) pa_nil)) (nomark _))))) (pss_one (ps_ret pe_bl)) pss_nil)
      (C8.pss_cut (ps_for PassesOwn.never rfl (pi_range1 (by rfl) T.n_range (pa_cons (pe_callB call_len_seq (by rfl) T.n_len PySem.boot_len (pa_cons (pv 5) pa_nil)) pa_nil)) (pg_name (i := 10) nd rfl (Or.inl rfl))
        (pss_cons (ps_if (pt_not (pt_val (pe_cd (ok_whole T) hr1 (pa_cons (pe_ix ix_list (pe_ix ix_tup (pv 9) pe_int (fun _ _ => rfl)) (pv 10) (fun _ _ => rfl)) pa_nil)))) (pss_one (ps_ret pe_bl)) pss_nil)
        (pss_one (ps_set (i := 3) nd rfl (Or.inl rfl) (pe_op op_cat (pv 3) (pe_lst (pa_cons (pe_tup (pa_cons (pe_ix ix_list (pe_ix ix_tup (pv 9) pe_int (fun _ _ => rfl)) (pv 10) (fun _ _ => rfl)) (pa_cons (pe_cd (ok_fitting T) hr1 (pa_cons (pe_ix ix_list (pv 5) (pv 10) (fun _ _ => rfl)) pa_nil)) pa_nil))) pa_nil)))))))
      (C8.pss_cut (ps_set (i := 11) nd rfl (Or.inl rfl) (pe_lst (pa_cons (pe_m0 (pv 2) (ok_out T) hr1) (pa_cons (pe_m0 (pv 2) (ok_free T) hr1) pa_nil))))
      (C8.pss_cut (ps_set (i := 12) nd rfl (Or.inl rfl) (pe_lst (pa_cons (pe_callTy call_listK (by rfl) T.n_list (by decide +kernel) (pa_cons (pe_ix ix_list (pv 11) pe_int (fun _ _ => rfl)) pa_nil)) (pa_cons (pe_callTy call_listK (by rfl) T.n_list (by decide +kernel) (pa_cons (pe_ix ix_list (pv 11) pe_int (fun _ _ => rfl)) pa_nil)) pa_nil))))
      (pss_one (ps_ret (pe_and (pe_cd (ok_behind T) hr5 (pa_cons (pv 2) (pa_cons (pe_ix ix_tup (pv 9) pe_int (fun _ _ => rfl)) (pa_cons (pv 3) pa_nil)))) (pe_one (pe_cmpR (op_eqLL hu) (pv 11) (pv 12) (nomark _))))))))))))))))))))))), ?_⟩
    refine ⟨fun σ H1 => H1 = H ∧ ∃ k, k ≤ 60 ∧ σ = [some (.ref a), some (.int (Bud.pw k)), none, none, none, none, none, none, none, none, none, none, none], ⟨_, rfl, a, ns, rfl, hS, fun k hk => ⟨rfl, k, hk, rfl⟩⟩, ?_⟩
    rintro σ H1 ⟨rfl, k, hk, rfl⟩
    have hp0 := Bud.pw_pos k
    refine ⟨fun σ H2 => ∃ x d, σ = [some (.ref a), some (.int (Bud.pw k)), some (.ref x), none, none, none, none, none, none, none, none, none, none] ∧ SqL K H2 a (ns.map V.int) ∧ YardT K H2 x d (.free : Bud.T k), rd_yard rfl hk fun H2 x d s2 nx nd' y2 => ⟨x, d, rfl, s2.seq hS, y2⟩, ?_⟩
    rintro σ H2 ⟨x, d, rfl, hS2, yx2⟩
    refine ⟨fun σ H3 => ∃ h, σ = [some (.ref a), some (.int (Bud.pw k)), some (.ref x), some (.ref h), none, none, none, none, none, none, none, none, none] ∧ SqL K H3 a (ns.map V.int) ∧ YardT K H3 x d (.free : Bud.T k) ∧ H3 h = some (.lst []), ⟨Nat.zero_le _, fun h hh => ⟨h, rfl, (same_new hh).seq hS2, yx2.same (same_new hh), upd_same⟩⟩, ?_⟩
    rintro σ H3 ⟨h, rfl, hS3, yx3, hh3⟩
    -- the turns
    refine ⟨fun σ H4 => ∃ (h : Addr) (xs : List V) (D : List Bud.Pc) (t : Bud.T k) (v4 : Option V), σ = [some (.ref a), some (.int (Bud.pw k)), some (.ref x), some (.ref h), v4, none, none, none, none, none, none, none, none] ∧ SqL K H4 a (ns.map V.int) ∧ YardT K H4 x d t ∧ H4 h = some (.lst xs) ∧ Prs H4 xs D ∧ D.Perm (Bud.outs t 0) ∧ D.length ≤ 63, ?_, ?_⟩
    · refine ⟨_, rfl, a, ns, 0, rfl, hS3, _, _, rfl, rfl, ⟨by decide, by decide⟩, _, _, rfl, rfl, (by show (0 : Int) < 3; decide), rfl, _, rfl, ?_⟩
      refine ite2 (fun b => ?_) (fun b => ⟨h, [], [], .free, none, rfl, hS3, yx3, hh3, .nil, List.Perm.refl _, Nat.zero_le _⟩)
      refine ⟨_, rfl, _, rfl, _, rfl, a, ns, 2, rfl, hS3, _, _, rfl, rfl, (by show (0 : Int) < 11; decide), _, _, rfl, rfl, _, rfl, a, _, rfl, hS3, fun c hc => ?_⟩
      rw [cutV_ints]
      have hml := cutI_length ns (some 3) (some (3 + cell ns 2 % 11))
      generalize cutI ns (some 3) (some (3 + cell ns 2 % 11)) = ms at *
      refine ⟨c, rfl, ⟨_, SqL.of upd_same⟩, ?_⟩
      have s7 : Same H3 (upd H3 c (.lst (ms.map V.int))) := same_new hc
      refine for_list (K := K) (a := c) (xs := ms.map V.int) (fun i σ H4 => ∃ (h : Addr) (xs : List V) (D : List Bud.Pc) (t : Bud.T k) (v4 : Option V), σ = [some (.ref a), some (.int (Bud.pw k)), some (.ref x), some (.ref h), v4, none, none, none, none, none, none, none, none] ∧ SqL K H4 a (ns.map V.int) ∧ YardT K H4 x d t ∧ H4 h = some (.lst xs) ∧ Prs H4 xs D ∧ D.Perm (Bud.outs t 0) ∧ D.length ≤ i ∧ H4 c = some (.lst (ms.map V.int)))
        ⟨h, [], [], .free, none, rfl, s7.seq hS3, yx3.same s7, s7 _ _ hh3, .nil, List.Perm.refl _, Nat.zero_le _, upd_same⟩ ?_ ?_ ?_
      · rintro i σ H7 _ ⟨h, xs, D, t, v, _, _, _, _, _, _, _, h7⟩
        exact SqL.of h7
      · rintro i z σ H7 hi ⟨h, xs, D, t, v, rfl, hS7, yx7, hh7, hD7, perm7, hlen7, hc7⟩
        have hil : i < ms.length := by
          have := (List.getElem?_eq_some_iff.mp hi).1
          rwa [List.length_map] at this
        rw [List.getElem?_map, List.getElem?_eq_getElem hil] at hi
        cases hi
        refine ⟨_, rfl, _, rfl, _, rfl, _, rfl, x, d, k, t, h, xs, D, _, rfl, yx7, hh7, hD7, perm7, by omega, fun H8 t8 h8 xs8 k8 y8 sp8 hh8 hD8 perm8 => ?_⟩
        refine ⟨h8, xs8, _, t8, some (.int ms[i]), rfl, yx7.has.seq k8 hS7, y8, hh8, hD8, perm8, ?_, yx7.has.lst k8 hc7⟩
        have := doneF_len t D ms[i]
        omega
      · rintro σ H7 ⟨h, xs, D, t, v, rfl, hS7, yx7, hh7, hD7, perm7, hlen7, hc7⟩
        rw [List.length_map] at hlen7
        exact ⟨h, xs, D, t, v, rfl, hS7, yx7, hh7, hD7, perm7, by omega⟩
    clear hS3 yx3 hh3 h
    rintro σ H4 ⟨h, xs, D, t, v4, rfl, hS4, yx4, hh4, hD4, perm, hlen⟩
    have hlo : (Bud.outs t 0).length ≤ 63 := by rw [← perm.length_eq]; exact hlen
    -- the wishes
    refine ⟨fun σ H5 => ∃ (w : Addr) (ws : List Int), σ = [some (.ref a), some (.int (Bud.pw k)), some (.ref x), some (.ref h), v4, some (.ref w), none, none, none, none, none, none, none] ∧ Same H4 H5 ∧ H5 w = some (.lst (ws.map V.int)) ∧ ws.length ≤ 200, ?_, ?_⟩
    · exact ⟨_, rfl, _, rfl, _, rfl, a, h, ns, xs, D, k, rfl, hS4, hl, hh4, hD4, fun H5 w ws s5 ew lw => ⟨w, ws, rfl, s5, ew, lw⟩⟩
    rintro σ H5 ⟨w, ws, rfl, s5, ew5, lw⟩
    have yx5 := yx4.same s5
    have hh5 := s5 _ _ hh4
    have hD5 := hD4.kept (Same.tups s5)
    clear hS4 yx4 hh4 hD4 s5
    have hM := wOrd_perm ws
    have sM := wOrd_srt ws
    refine ⟨fun σ H6 => σ = [some (.ref a), some (.int (Bud.pw k)), some (.ref x), some (.ref h), v4, some (.ref w), some (.str (dueS t ws (wOrd ws))), none, none, none, none, none, none] ∧ Same H5 H6, ?_, ?_⟩
    · exact ⟨_, rfl, _, rfl, _, rfl, h, w, xs, D, ws, k, t, wOrd ws, rfl, hk, yx5.2.1, hh5, hD5, perm, by omega, SqL.of ew5, lw, hM, sM, fun H6 s6 => ⟨rfl, s6⟩⟩
    rintro σ H6 ⟨rfl, s6⟩
    have yx6 := yx5.same s6
    have hh6 := s6 _ _ hh5
    have hD6 := hD5.kept (Same.tups s6)
    have ew6 := s6 _ _ ew5
    clear yx5 hh5 hD5 ew5 s6
    refine ⟨fun σ H7 => ∃ b, σ = [some (.ref a), some (.int (Bud.pw k)), some (.ref x), some (.ref h), v4, some (.ref w), some (.str (dueS t ws (wOrd ws))), some (.ref b), none, none, none, none, none] ∧ Same H6 H7 ∧ IsLL K H7 (.ref b) (Bud.outs t 0) (Bud.frees t 0), rd_LLc rfl rfl yx6 (by omega) fun H7 b s7 nb hb => ⟨b, rfl, s7, hb⟩, ?_⟩
    rintro σ H7 ⟨b, rfl, s7, hb7⟩
    have yx7 := yx6.same s7
    have hh7 := s7 _ _ hh6
    have hD7 := hD6.kept (Same.tups s7)
    have ew7 := s7 _ _ ew6
    clear yx6 hh6 hD6 ew6 s7
    refine ⟨fun σ H8 => ∃ hd, σ = [some (.ref a), some (.int (Bud.pw k)), some (.ref x), some (.ref h), v4, some (.ref w), some (.str (dueS t ws (wOrd ws))), some (.ref b), some (.ref hd), none, none, none, none] ∧ H7 hd = none ∧ H8 = upd H7 hd (.lst (ws.map V.int)), ?_, ?_⟩
    · exact ⟨_, rfl, w, _, rfl, SqL.of ew7, fun hd hhd => ⟨hd, rfl, hhd, rfl⟩⟩
    rintro σ H8 ⟨hd, rfl, nhd, rfl⟩
    have s8 : Same H7 (upd H7 hd (.lst (ws.map V.int))) := same_new nhd
    have yx8 := yx7.same s8
    have nsp8 : ¬ Spare (upd H7 hd (.lst (ws.map V.int))) x hd := fun z => spare_some yx7 (Spare.same s8 yx7.has z) nhd
    have ehd8 : (upd H7 hd (.lst (ws.map V.int))) hd = some (.lst (ws.map V.int)) := upd_same
    have ew8 := s8 _ _ ew7
    generalize upd H7 hd (.lst (ws.map V.int)) = H8 at *
    have hY7 := yx7.has
    have hcan := yx7.2.1
    have hY8 := yx8.has
    -- what is told
    refine ⟨fun σ H9 => ∃ (tq e : Addr), σ = [some (.ref a), some (.int (Bud.pw k)), some (.ref x), some (.ref h), v4, some (.ref w), some (.str (dueS t ws (wOrd ws))), some (.ref b), some (.ref hd), some (.ref tq), none, none, none] ∧ Kp x d H8 H9 ∧ SpNew H8 H9 x ∧ H9 tq = some (.tup [.str (dueS t ws (wOrd ws)), .ref e]) ∧
        ((dueS t ws (wOrd ws) ≠ "" ∧ YardT K H9 x d t) ∨ (dueS t ws (wOrd ws) = "" ∧ (∀ w ∈ ws, 1 ≤ w ∧ w ≤ Bud.pw k) ∧ ∃ as t', Bud.Gives ws t (Bud.ordN (wOrd ws)) as t' ∧ YardT K H9 x d t' ∧ H8 e = none ∧ ¬ Spare H9 x e ∧ H9 e = some (.lst (((List.range ws.length).map (Bud.plOf (Bud.ordN (wOrd ws)) as)).map V.int)))), ?_, ?_⟩
    · refine ⟨_, rfl, _, rfl, x, d, k, t, hd, ws, wOrd ws, rfl, yx8, SqL.of ehd8, lw, by omega, hM, sM, fun hne H9 q e k9 y9 spn eq => ?_, fun hok as t' hg H9 q r k9 y9 spn nr nsp er eq => ?_⟩
      · exact ⟨q, e, rfl, k9, spn, eq, .inl ⟨hne, y9⟩⟩
      · have ed : dueS t ws (wOrd ws) = "" := due_fine hok ⟨as, t', hg⟩
        refine ⟨q, r, rfl, k9, spn, by rw [ed]; exact eq, .inr ⟨ed, hok, as, t', hg, y9, nr, nsp, ?_⟩⟩
        rw [er, List.map_map]
        rfl
    rintro σ H9 ⟨tq, e, rfl, k9, spn9, etq, hcase⟩
    have nsp9 : ¬ Spare H9 x hd := fun z => by
      rcases spn9 hd z with q | q
      · rw [ehd8] at q
        cases q
      · exact nsp8 q
    have ehd9 := hY8.lst k9 ehd8
    refine ⟨fun σ H10 => H10 = H9 ∧ σ = [some (.ref a), some (.int (Bud.pw k)), some (.ref x), some (.ref h), v4, some (.ref w), some (.str (dueS t ws (wOrd ws))), some (.ref b), some (.ref hd), some (.ref tq), none, none, none], ?_, ?_⟩
    · refine ⟨_, rfl, tq, _, 0, _, rfl, rfl, SqT.of etq, rfl, _, rfl, rfl, _, rfl, iteNS rfl ?_⟩
      exact ⟨_, rfl, _, rfl, hd, w, ws, ws, rfl, rfl, SqL.of ehd9, SqL.of (hY8.lst k9 ew8), false, neIF rfl, iteF ⟨rfl, rfl⟩⟩
    rintro σ H9 ⟨rfl, rfl⟩
    refine ⟨fun σ H11 => σ = [some (.ref a), some (.int (Bud.pw k)), some (.ref x), some (.ref h), v4, some (.ref w), some (.str (dueS t ws (wOrd ws))), some (.ref b), some (.ref hd), some (.ref tq), none, none, none] ∧ Kp x d H7 H11 ∧ H11 tq = some (.tup [.str (dueS t ws (wOrd ws)), .ref e]) ∧
        ((dueS t ws (wOrd ws) ≠ "" ∧ YardT K H11 x d t) ∨ (dueS t ws (wOrd ws) = "" ∧ (∀ w ∈ ws, 1 ≤ w ∧ w ≤ Bud.pw k) ∧ ∃ as t', Bud.Gives ws t (Bud.ordN (wOrd ws)) as t' ∧ YardT K H11 x d t' ∧ H7 e = none ∧ ¬ Spare H11 x e ∧ H11 e = some (.lst (((List.range ws.length).map (Bud.plOf (Bud.ordN (wOrd ws)) as)).map V.int)))), ?_, ?_⟩
    · refine ⟨_, rfl, .inl ⟨rfl, _, SqL.of ehd9⟩, hd, _, rfl, rfl, ehd9, rfl, ?_, ?_, ?_⟩
      · intro b o hb nbx nbd
        rw [upd_ne (ne_of_none hb nhd)]
        exact k9 _ _ (s8 _ _ hb) nbx nbd
      · rw [upd_ne (ne_of etq ehd9 (by intro z; cases z))]
        exact etq
      · rcases hcase with ⟨hne, y9⟩ | ⟨hz, hok, as, t', hg, y9, ne8, nse, ee⟩
        · exact .inl ⟨hne, y9.put ehd9 nsp9 _⟩
        · have nxh : x ≠ hd := by
            obtain ⟨_, _, h1, _⟩ := y9.at_
            exact ne_of h1 ehd9 (by intro z; cases z)
          have neh : e ≠ hd := (ne_of_none ehd8 ne8).symm
          exact .inr ⟨hz, hok, as, t', hg, y9.put ehd9 nsp9 _, Same.none s8 ne8, fun z => nse (z.upd nxh), by rw [upd_ne neh]; exact ee⟩
    clear hcase etq ehd9 nsp9 k9 spn9 ehd8 nsp8 yx8 ew8 hY8 s8 H8 H9
    rintro σ H11 ⟨rfl, k11, etq, hcase⟩
    refine ⟨fun σ H12 => H12 = H11 ∧ σ = [some (.ref a), some (.int (Bud.pw k)), some (.ref x), some (.ref h), v4, some (.ref w), some (.str (dueS t ws (wOrd ws))), some (.ref b), some (.ref hd), some (.ref tq), none, none, none] ∧ dueS t ws (wOrd ws) = "" ∧ (∀ w ∈ ws, 1 ≤ w ∧ w ≤ Bud.pw k) ∧ ∃ as t', Bud.Gives ws t (Bud.ordN (wOrd ws)) as t' ∧ YardT K H11 x d t' ∧ H7 e = none ∧ ¬ Spare H11 x e ∧ H11 e = some (.lst (((List.range ws.length).map (Bud.plOf (Bud.ordN (wOrd ws)) as)).map V.int)), ?_, ?_⟩
    · rcases hcase with ⟨hne, y11⟩ | ⟨hz, hok, r⟩
      · have hf : decide (V.str (dueS t ws (wOrd ws)) = V.str "") = false := decide_eq_false fun q => hne (V.str.inj q)
        refine ⟨_, rfl, rfl, true, by rw [hf]; rfl, iteT ?_⟩
        refine rd_out rfl y11 (by omega) fun H1 q1 xs1 s1 n1 e1 p1 => ?_
        refine rd_free rfl (y11.same s1) fun H2 q2 xs2 s2 n2 e2 p2 => ?_
        refine ⟨(by show 2 ≤ sizeLine; decide), fun l hl0 => ?_⟩
        have s3 := same_new (o := .lst [.ref q1, .ref q2]) hl0
        have s12 := (s1.trans s2).trans s3
        refine ⟨_, rfl, _, _, _, _, ⟨l, q1, q2, xs1, xs2, rfl, upd_same, (s2.trans s3) _ _ e1, s3 _ _ e2, p1.kept (Same.tups (s2.trans s3)), p2.kept (Same.tups s3)⟩, (hb7.kp hY7 k11).same s12, true, congrArg V.bl (decide_eq_true ⟨rfl, rfl⟩), iteT ?_⟩
        refine ⟨_, rfl, _, rfl, _, rfl, _, rfl, x, d, k, t, h, w, xs, D, ws, rfl, y11.same s12, s12 _ _ (hY7.lst k11 hh7), (hY7.prs k11 hD7).kept (Same.tups s12), perm, by omega, s12 _ _ (hY7.lst k11 ew7), by omega, fun H13 s13 => kQ _⟩
      · refine ⟨_, rfl, rfl, false, by rw [hz]; rfl, iteF ⟨rfl, rfl, hz, hok, r⟩⟩
    rintro σ H12 ⟨rfl, rfl, hz, hok, as, t', hg, y12, ne7, nse, ee⟩
    have hh12 := hY7.lst k11 hh7
    have hD12 := hY7.prs k11 hD7
    have ew12 := hY7.lst k11 ew7
    have hhe : h ≠ e := ne_of_none hh7 ne7
    have hY12 := y12.has
    clear hcase hb7 yx7 hh7 hD7 ew7 hY7 k11
    have hlp : ((((List.range ws.length).map (Bud.plOf (Bud.ordN (wOrd ws)) as)).map V.int)).length = ws.length := by rw [List.length_map, List.length_map, List.length_range]
    refine ⟨fun σ H13 => H13 = H12 ∧ σ = [some (.ref a), some (.int (Bud.pw k)), some (.ref x), some (.ref h), v4, some (.ref w), some (.str (dueS t ws (wOrd ws))), some (.ref b), some (.ref hd), some (.ref tq), none, none, none], ?_, ?_⟩
    · refine ⟨_, rfl, tq, _, 1, V.ref e, rfl, rfl, SqT.of etq, rfl, _, _, _, _, true, rfl, .ty "list", .base (.lst ee), kit_ty (by decide +kernel), _, rfl, iteF ?_⟩
      refine ⟨_, rfl, tq, _, 1, V.ref e, rfl, rfl, SqT.of etq, rfl, e, _, rfl, .inl (SqL.of ee), _, rfl, w, _, rfl, .inl (SqL.of ew12), rfl, _, rfl, iteNS ?_ ⟨rfl, rfl⟩⟩
      rw [hlp, List.length_map]
    rintro σ H13 ⟨rfl, rfl⟩
    -- one behind the other, where nothing was out
    refine ⟨fun σ H14 => σ = [some (.ref a), some (.int (Bud.pw k)), some (.ref x), some (.ref h), v4, some (.ref w), some (.str (dueS t ws (wOrd ws))), some (.ref b), some (.ref hd), some (.ref tq), none, none, none] ∧ Same H13 H14, ?_, ?_⟩
    · refine ⟨_, rfl, Nat.zero_le _, fun l hl0 => ?_⟩
      have sl := same_new (o := .lst []) hl0
      refine ⟨h, l, xs, [], D, [], rfl, rfl, SqL.of (sl _ _ hh12), SqL.of upd_same, hD12.kept (Same.tups sl), .nil, _, rfl, ?_⟩
      refine ite2 (fun b0 => ?_) (fun b0 => ⟨rfl, sl⟩)
      have hD0 : D = [] := by simpa using b0
      have et : t = .free := Bud.free_of_nil hcan (by rw [hD0] at perm; exact (List.Perm.nil_eq perm).symm)
      have hg2 : Bud.Gives ws (.free : Bud.T k) (Bud.ordN (wOrd ws)) as t' := by rw [← et]; exact hg
      have eas := Bud.gives_turn hg2 hM sM fun w hw => (hok w hw).2
      refine ⟨_, rfl, tq, _, 1, V.ref e, rfl, rfl, SqT.of (sl _ _ etq), rfl, _, rfl, w, ws, wOrd ws, rfl, SqL.of (sl _ _ ew12), by omega, hM, sM, fun H14 z s14 ez => ?_⟩
      refine ⟨e, z, _, _, rfl, rfl, SqL.of (s14 _ _ (sl _ _ ee)), SqL.of ez, false, neIF ?_, iteF ⟨rfl, sl.trans s14⟩⟩
      rw [eas]
      rfl
    rintro σ H14 ⟨rfl, s14⟩
    have y14 := y12.same s14
    have hh14 := s14 _ _ hh12
    have hD14 := hD12.kept (Same.tups s14)
    have ew14 := s14 _ _ ew12
    have ee14 := s14 _ _ ee
    have etq14 := s14 _ _ etq
    have nse14 : ¬ Spare H14 x e := fun z => nse (Spare.same s14 hY12 z)
    clear hh12 hD12 ew12 ee etq nse y12 hY12 s14
    -- the new pieces
    refine ⟨fun σ H15 => ∃ (h : Addr) (xs : List V) (v10 : Option V), σ = [some (.ref a), some (.int (Bud.pw k)), some (.ref x), some (.ref h), v4, some (.ref w), some (.str (dueS t ws (wOrd ws))), some (.ref b), some (.ref hd), some (.ref tq), v10, none, none] ∧ Same H14 H15 ∧ h ≠ e ∧ H15 h = some (.lst xs) ∧ Prs H15 xs (D ++ (List.range ws.length).map fun i => (Bud.plOf (Bud.ordN (wOrd ws)) as i, Bud.fit (ws.getD i 0))), ?_, ?_⟩
    · refine ⟨_, rfl, w, _, rfl, .inl (SqL.of ew14), _, rfl, by rw [List.length_map]; omega, by rw [List.length_map]; omega, ?_⟩
      rw [List.length_map, show ((ws.length : Int)).toNat = ws.length from rfl]
      refine for_range (n := ws.length) (fun i σ H15 => ∃ (h : Addr) (xs : List V) (v10 : Option V), σ = [some (.ref a), some (.int (Bud.pw k)), some (.ref x), some (.ref h), v4, some (.ref w), some (.str (dueS t ws (wOrd ws))), some (.ref b), some (.ref hd), some (.ref tq), v10, none, none] ∧ Same H14 H15 ∧ h ≠ e ∧ H15 h = some (.lst xs) ∧ Prs H15 xs (D ++ (List.range i).map fun i => (Bud.plOf (Bud.ordN (wOrd ws)) as i, Bud.fit (ws.getD i 0))))
        ⟨h, xs, none, rfl, Same.refl _, hhe, hh14, by rw [List.range_zero, List.map_nil, List.append_nil]; exact hD14⟩ ?_ ?_
      · rintro i σ H15 hi ⟨h, xs, v10, rfl, s15, nhe, hh15, hD15⟩
        have eg : ws.getD i 0 = ws[i] := by rw [List.getD_eq_getElem?_getD, List.getElem?_eq_getElem hi]; rfl
        have hat : atI (((List.range ws.length).map (Bud.plOf (Bud.ordN (wOrd ws)) as)).map V.int) (0 + (i : Int)) = some (V.int (Bud.plOf (Bud.ordN (wOrd ws)) as i)) := by
          rw [Int.zero_add]
          exact atI_nat (by rw [List.getElem?_map, List.getElem?_map, List.getElem?_range hi]; rfl)
        have haw : atI (ws.map V.int) (0 + (i : Int)) = some (V.int ws[i]) := by
          rw [Int.zero_add]
          exact atI_nat (by rw [List.getElem?_map, List.getElem?_eq_getElem hi]; rfl)
        refine ⟨_, rfl, tq, _, 1, V.ref e, rfl, rfl, SqT.of (s15 _ _ etq14), rfl, _, rfl, e, _, _, V.int (Bud.plOf (Bud.ordN (wOrd ws)) as i), rfl, rfl, SqL.of (s15 _ _ ee14), hat, _, rfl, _, rfl, iteF ?_⟩
        refine ⟨_, rfl, _, rfl, tq, _, 1, V.ref e, rfl, rfl, SqT.of (s15 _ _ etq14), rfl, _, rfl, e, _, _, V.int (Bud.plOf (Bud.ordN (wOrd ws)) as i), rfl, rfl, SqL.of (s15 _ _ ee14), hat, _, rfl, _, rfl, w, _, _, V.int ws[i], rfl, rfl, SqL.of (s15 _ _ ew14), haw, ws[i], rfl, (by show 2 ≤ sizeLine; decide), fun tt ht => ⟨(by show 1 ≤ sizeLine; decide), fun c2 hc2 => ?_⟩⟩
        have st := same_new (o := .tup [.int (Bud.plOf (Bud.ordN (wOrd ws)) as i), .int (Bud.fit ws[i])]) ht
        have sc := same_new (o := .lst [.ref tt]) hc2
        have stc := st.trans sc
        refine ⟨h, c2, xs, _, rfl, rfl, stc _ _ hh15, upd_same, ?_, fun F hF => ?_⟩
        · have h1 := hD15.length
          rw [List.length_append, List.length_map, List.length_range] at h1
          rw [sizeLine_eq]
          show _ + 1 ≤ _
          omega
        have sF := same_new (o := .lst (xs ++ [.ref tt])) hF
        have sA := stc.trans sF
        refine ⟨F, _, _, rfl, s15.trans sA, (ne_of_none ((s15.trans stc) _ _ ee14) hF).symm, upd_same, ?_⟩
        rw [List.range_succ, List.map_append, ← List.append_assoc]
        refine Prs.append (hD15.kept (Same.tups sA)) (.cons ⟨tt, rfl, ?_⟩ .nil)
        show _ = some (HO.tup [V.int (Bud.plOf (Bud.ordN (wOrd ws)) as i), V.int (Bud.fit (ws.getD i 0))])
        rw [eg]
        exact sF _ _ (sc _ _ upd_same)
      · rintro σ H15 r
        exact r
    clear hh14 hD14 hhe h xs
    rintro σ H15 ⟨h, xs, v10, rfl, s15, nhe, hh15, hD15⟩
    have y15 := y14.same s15
    have ew15 := s15 _ _ ew14
    have ee15 := s15 _ _ ee14
    have etq15 := s15 _ _ etq14
    have nse15 : ¬ Spare H15 x e := fun z => nse14 (Spare.same s15 y14.has z)
    have hheld := Bud.gives_held hM hg
    obtain ⟨D', hD'⟩ : ∃ D' : List Bud.Pc, D' = D ++ (List.range ws.length).map fun i => (Bud.plOf (Bud.ordN (wOrd ws)) as i, Bud.fit (ws.getD i 0)) := ⟨_, rfl⟩
    rw [← hD'] at hD15
    have perm' : D'.Perm (Bud.outs t' 0) := by
      rw [hD']
      exact List.perm_append_comm.trans ((List.Perm.append_left _ perm).trans hheld.symm)
    have hlen' : D'.length ≤ 263 := by
      rw [hD', List.length_append, List.length_map, List.length_range]
      omega
    clear ew14 ee14 etq14 nse14 y14 s15
    -- out and free, and copies
    refine ⟨fun σ H16 => ∃ (l ma mb : Addr) (us fs : List V), σ = [some (.ref a), some (.int (Bud.pw k)), some (.ref x), some (.ref h), v4, some (.ref w), some (.str (dueS t ws (wOrd ws))), some (.ref b), some (.ref hd), some (.ref tq), v10, some (.ref l), none] ∧ Same H15 H16 ∧ l ≠ e ∧ ma ≠ e ∧ mb ≠ e ∧ H16 l = some (.lst [.ref ma, .ref mb]) ∧ H16 ma = some (.lst us) ∧ H16 mb = some (.lst fs) ∧ Prs H16 us (Bud.outs t' 0) ∧ Prs H16 fs (Bud.frees t' 0), ?_, ?_⟩
    · refine rd_out rfl y15 (by rw [← perm'.length_eq]; omega) fun H1 ma us s1 na ea pa => ?_
      refine rd_free rfl (y15.same s1) fun H2 mb fs s2 nb eb pb => ?_
      refine ⟨(by show 2 ≤ sizeLine; decide), fun l hl0 => ?_⟩
      have s3 := same_new (o := .lst [.ref ma, .ref mb]) hl0
      refine ⟨l, ma, mb, us, fs, rfl, (s1.trans s2).trans s3, (ne_of_none ((s1.trans s2) _ _ ee15) hl0).symm, (ne_of_none ee15 na).symm, (ne_of_none (s1 _ _ ee15) nb).symm, upd_same, (s2.trans s3) _ _ ea, s3 _ _ eb, pa.kept (Same.tups (s2.trans s3)), pb.kept (Same.tups s3)⟩
    rintro σ H16 ⟨l, ma, mb, us, fs, rfl, s16, nle, nae, nbe, el16, ea16, eb16, pa16, pb16⟩
    have y16 := y15.same s16
    have ee16 := s16 _ _ ee15
    have etq16 := s16 _ _ etq15
    have hh16 := s16 _ _ hh15
    have hD16 := hD15.kept (Same.tups s16)
    have nse16 : ¬ Spare H16 x e := fun z => nse15 (Spare.same s16 y15.has z)
    clear ew15 ee15 etq15 nse15 y15 hh15 hD15 s16
    refine ⟨fun σ H17 => ∃ (l2 a2 b2 : Addr), σ = [some (.ref a), some (.int (Bud.pw k)), some (.ref x), some (.ref h), v4, some (.ref w), some (.str (dueS t ws (wOrd ws))), some (.ref b), some (.ref hd), some (.ref tq), v10, some (.ref l), some (.ref l2)] ∧ Same H16 H17 ∧ l2 ≠ e ∧ a2 ≠ e ∧ b2 ≠ e ∧ H17 l2 = some (.lst [.ref a2, .ref b2]) ∧ H17 a2 = some (.lst us) ∧ H17 b2 = some (.lst fs), ?_, ?_⟩
    · refine ⟨_, rfl, l, _, 0, V.ref ma, rfl, rfl, SqL.of el16, rfl, ma, us, rfl, SqL.of ea16, fun a2 ha2 => ?_⟩
      have s1 := same_new (o := .lst us) ha2
      refine ⟨_, rfl, l, _, 1, V.ref mb, rfl, rfl, SqL.of (s1 _ _ el16), rfl, mb, fs, rfl, SqL.of (s1 _ _ eb16), fun b2 hb2 => ?_⟩
      have s2 := same_new (o := .lst fs) hb2
      refine ⟨(by show 2 ≤ sizeLine; decide), fun l2 hl2 => ?_⟩
      have s3 := same_new (o := .lst [.ref a2, .ref b2]) hl2
      refine ⟨l2, a2, b2, rfl, (s1.trans s2).trans s3, (ne_of_none ((s1.trans s2) _ _ ee16) hl2).symm, (ne_of_none ee16 ha2).symm, (ne_of_none (s1 _ _ ee16) hb2).symm, upd_same, (s2.trans s3) _ _ upd_same, s3 _ _ upd_same⟩
    rintro σ H17 ⟨l2, a2, b2, rfl, s17, nle2, nae2, nbe2, el2, ea2, eb2⟩
    have y17 := y16.same s17
    have ee17 := s17 _ _ ee16
    have nse17 : ¬ Spare H17 x e := fun z => nse16 (Spare.same s17 y16.has z)
    refine ⟨_, rfl, _, rfl, tq, _, 1, V.ref e, rfl, rfl, SqT.of (s17 _ _ etq16), rfl, _, rfl, x, d, e, h, k, t', (List.range ws.length).map (Bud.plOf (Bud.ordN (wOrd ws)) as), xs, D', rfl, y17, nse17, ee17, ?_, s17 _ _ hh16, hD16.kept (Same.tups s17), perm', by omega, nhe, fun H18 kq => ?_⟩
    · rw [List.length_map, List.length_range]
      omega
    obtain ⟨⟨C, dx, fx, hx⟩, kvs, hdd⟩ := y17.has
    have kl : ∀ {b : Addr} {zs : List V}, H17 b = some (.lst zs) → b ≠ e → H18 b = some (.lst zs) := fun hb ne => kq _ _ hb (ne_of hb hx (by intro z; cases z)) (ne_of hb hdd (by intro z; cases z)) ne
    have kt : TupKept H17 H18 := fun b zs hb => kq _ _ hb (ne_of hb hx (by intro z; cases z)) (ne_of hb hdd (by intro z; cases z)) (ne_of hb ee17 (by intro z; cases z))
    have pa17 := (pa16.kept (Same.tups s17)).kept kt
    have pb17 := (pb16.kept (Same.tups s17)).kept kt
    refine ⟨true, rfl, iteT ?_⟩
    refine ⟨_, rfl, _, rfl, _, _, _, _, ⟨l, ma, mb, us, fs, rfl, kl (s17 _ _ el16) nle, kl (s17 _ _ ea16) nae, kl (s17 _ _ eb16) nbe, pa17, pb17⟩, ⟨l2, a2, b2, us, fs, rfl, kl el2 nle2, kl ea2 nae2, kl eb2 nbe2, pa17, pb17⟩, ?_⟩
    rw [decide_eq_true ⟨rfl, rfl⟩]
    exact kQ _
end
/-! ### the head -/
def fas : List He.Fa := [.free "ValueError",
  .free "bool",
  .free "int",
  .free "isinstance",
  .free "len",
  .free "list",
  .free "max",
  .free "min",
  .free "range",
  .free "set",
  .free "sorted",
  .free "sum",
  .glo "is_size",
  .glo "size_for",
  .glo "twin_of",
  .glo "best_of",
  .glo "without",
  .glo "cut_down",
  .glo "put_back",
  .glo "grown",
  .meth "Yard" "free",
  .meth "Yard" "out",
  .meth "Yard" "owner",
  .meth "Yard" "give",
  .meth "Yard" "take_back",
  .meth "Yard" "resize",
  .glo "by_size",
  .glo "give_all",
  .glo "_law_whole",
  .glo "_law_cell_at",
  .glo "_law_doubled",
  .glo "_law_fitting",
  .glo "_law_yard_size",
  .glo "_law_want",
  .glo "_law_done",
  .glo "_law_touched",
  .glo "_law_due",
  .glo "_law_told",
  .glo "_law_halves",
  .glo "_law_wishes",
  .glo "_law_in_turn",
  .glo "_law_owner",
  .glo "_law_owners",
  .glo "_law_behind",
  .glo "law",
  .glo "YardError",
  .glo "NoYard",
  .glo "NoWish",
  .glo "NoRoom",
  .glo "NotOut",
  .glo "Yard",
  .cls "Yard",
  .noat "Yard" "cells",
  .noat "Yard" "spare",
  .noat "Yard" "given",
  .mkr "Yard",
  .exc "YardError",
  .exc "NoYard",
  .exc "NoWish",
  .exc "NoRoom",
  .exc "NotOut",
  .exm "NoYard" "NoRoom" false,
  .exm "NoWish" "NoRoom" false,
  .exm "NoRoom" "NoRoom" true,
  .exm "NotOut" "NoRoom" false,
  .exm "NoYard" "NoWish" false,
  .exm "NoWish" "NoWish" true,
  .exm "NoRoom" "NoWish" false,
  .exm "NotOut" "NoWish" false,
  .exm "NoYard" "YardError" true,
  .exm "NoWish" "YardError" true,
  .exm "NoRoom" "YardError" true,
  .exm "NotOut" "YardError" true,
  .int "MOST" 1152921504606846976]
def d_is_size : He.DefD := ⟨("is_size", none), "is_size", "is_size", defArgs s_is_size, defBody s_is_size, defScope s_is_size, [], []⟩
def d_size_for : He.DefD := ⟨("size_for", none), "size_for", "size_for", defArgs s_size_for, defBody s_size_for, defScope s_size_for, [], []⟩
def d_twin_of : He.DefD := ⟨("twin_of", none), "twin_of", "twin_of", defArgs s_twin_of, defBody s_twin_of, defScope s_twin_of, [], []⟩
def d_best_of : He.DefD := ⟨("best_of", none), "best_of", "best_of", defArgs s_best_of, defBody s_best_of, defScope s_best_of, [], []⟩
def d_without : He.DefD := ⟨("without", none), "without", "without", defArgs s_without, defBody s_without, defScope s_without, [], []⟩
def d_cut_down : He.DefD := ⟨("cut_down", none), "cut_down", "cut_down", defArgs s_cut_down, defBody s_cut_down, defScope s_cut_down, [], []⟩
def d_put_back : He.DefD := ⟨("put_back", none), "put_back", "put_back", defArgs s_put_back, defBody s_put_back, defScope s_put_back, [], []⟩
def d_grown : He.DefD := ⟨("grown", none), "grown", "grown", defArgs s_grown, defBody s_grown, defScope s_grown, [], []⟩
def d_Yard_init : He.DefD := ⟨("Yard", some "__init__"), "__init__", "Yard.__init__", defArgs s_Yard_init, defBody s_Yard_init, defScope s_Yard_init, [], []⟩
def d_Yard_free : He.DefD := ⟨("Yard", some "free"), "free", "Yard.free", defArgs s_Yard_free, defBody s_Yard_free, defScope s_Yard_free, [], []⟩
def d_Yard_out : He.DefD := ⟨("Yard", some "out"), "out", "Yard.out", defArgs s_Yard_out, defBody s_Yard_out, defScope s_Yard_out, [], []⟩
def d_Yard_owner : He.DefD := ⟨("Yard", some "owner"), "owner", "Yard.owner", defArgs s_Yard_owner, defBody s_Yard_owner, defScope s_Yard_owner, [], []⟩
def d_Yard_give : He.DefD := ⟨("Yard", some "give"), "give", "Yard.give", defArgs s_Yard_give, defBody s_Yard_give, defScope s_Yard_give, [], []⟩
def d_Yard_take_back : He.DefD := ⟨("Yard", some "take_back"), "take_back", "Yard.take_back", defArgs s_Yard_take_back, defBody s_Yard_take_back, defScope s_Yard_take_back, [], []⟩
def d_Yard_resize : He.DefD := ⟨("Yard", some "resize"), "resize", "Yard.resize", defArgs s_Yard_resize, defBody s_Yard_resize, defScope s_Yard_resize, [], []⟩
def d_by_size : He.DefD := ⟨("by_size", none), "by_size", "by_size", defArgs s_by_size, defBody s_by_size, defScope s_by_size, [], []⟩
def d_give_all : He.DefD := ⟨("give_all", none), "give_all", "give_all", defArgs s_give_all, defBody s_give_all, defScope s_give_all, [], []⟩
def d__law_whole : He.DefD := ⟨("_law_whole", none), "_law_whole", "_law_whole", defArgs s__law_whole, defBody s__law_whole, defScope s__law_whole, [], []⟩
def d__law_cell_at : He.DefD := ⟨("_law_cell_at", none), "_law_cell_at", "_law_cell_at", defArgs s__law_cell_at, defBody s__law_cell_at, defScope s__law_cell_at, [], []⟩
def d__law_doubled : He.DefD := ⟨("_law_doubled", none), "_law_doubled", "_law_doubled", defArgs s__law_doubled, defBody s__law_doubled, defScope s__law_doubled, [], []⟩
def d__law_fitting : He.DefD := ⟨("_law_fitting", none), "_law_fitting", "_law_fitting", defArgs s__law_fitting, defBody s__law_fitting, defScope s__law_fitting, [], []⟩
def d__law_yard_size : He.DefD := ⟨("_law_yard_size", none), "_law_yard_size", "_law_yard_size", defArgs s__law_yard_size, defBody s__law_yard_size, defScope s__law_yard_size, [], []⟩
def d__law_want : He.DefD := ⟨("_law_want", none), "_law_want", "_law_want", defArgs s__law_want, defBody s__law_want, defScope s__law_want, [], []⟩
def d__law_done : He.DefD := ⟨("_law_done", none), "_law_done", "_law_done", defArgs s__law_done, defBody s__law_done, defScope s__law_done, [], []⟩
def d__law_touched : He.DefD := ⟨("_law_touched", none), "_law_touched", "_law_touched", defArgs s__law_touched, defBody s__law_touched, defScope s__law_touched, [], []⟩
def d__law_due : He.DefD := ⟨("_law_due", none), "_law_due", "_law_due", defArgs s__law_due, defBody s__law_due, defScope s__law_due, [], []⟩
def d__law_told : He.DefD := ⟨("_law_told", none), "_law_told", "_law_told", defArgs s__law_told, defBody s__law_told, defScope s__law_told, [], []⟩
def d__law_halves : He.DefD := ⟨("_law_halves", none), "_law_halves", "_law_halves", defArgs s__law_halves, defBody s__law_halves, defScope s__law_halves, [], []⟩
def d__law_wishes : He.DefD := ⟨("_law_wishes", none), "_law_wishes", "_law_wishes", defArgs s__law_wishes, defBody s__law_wishes, defScope s__law_wishes, [], []⟩
def d__law_in_turn : He.DefD := ⟨("_law_in_turn", none), "_law_in_turn", "_law_in_turn", defArgs s__law_in_turn, defBody s__law_in_turn, defScope s__law_in_turn, [], []⟩
def d__law_owner : He.DefD := ⟨("_law_owner", none), "_law_owner", "_law_owner", defArgs s__law_owner, defBody s__law_owner, defScope s__law_owner, [], []⟩
def d__law_owners : He.DefD := ⟨("_law_owners", none), "_law_owners", "_law_owners", defArgs s__law_owners, defBody s__law_owners, defScope s__law_owners, [], []⟩
def d__law_behind : He.DefD := ⟨("_law_behind", none), "_law_behind", "_law_behind", defArgs s__law_behind, defBody s__law_behind, defScope s__law_behind, [], []⟩
def d_law : He.DefD := ⟨("law", none), "law", "law", defArgs s_law, defBody s_law, defScope s_law, [], []⟩
def fns : List He.DefD := [d_is_size, d_size_for, d_twin_of, d_best_of, d_without, d_cut_down, d_put_back, d_grown, d_Yard_init, d_Yard_free, d_Yard_out, d_Yard_owner, d_Yard_give, d_Yard_take_back, d_Yard_resize, d_by_size, d_give_all, d__law_whole, d__law_cell_at, d__law_doubled, d__law_fitting, d__law_yard_size, d__law_want, d__law_done, d__law_touched, d__law_due, d__law_told, d__law_halves, d__law_wishes, d__law_in_turn, d__law_owner, d__law_owners, d__law_behind, d_law]
def exs (K : PySem.W.Frag) : Bool := true
abbrev RR : PySem.W.OpenRow := PySem.W.OpenLaw.row PySem.Challenge.rw_buddyyard_k11_whole_many_at_once
abbrev hk : PySem.W.Hook := He.hookX 4 fas fns [] [] exs
def ob (s : PySem.W.SharedT) : He.AlX := He.obsX 4 fas fns [] [] exs (HandSHeadRun.getT s)
theorem ob_eq (s : PySem.W.SharedT) : ob s = hk.obs s.abs := He.obsX_eq (HandSHeadRun.getT_eq s)
def loose : List PySem.Str := (["YardError", "NoYard", "NoWish", "NoRoom", "NotOut", "is_size", "size_for", "twin_of", "by_size", "give_all", "best_of", "without", "cut_down", "put_back", "grown", "Yard", "_law_whole", "_law_cell_at", "_law_doubled", "_law_fitting"] : List PySem.Str) ++ (["_law_yard_size", "_law_want", "_law_done", "_law_touched", "_law_due", "_law_told", "_law_halves", "_law_wishes", "_law_in_turn", "_law_owner", "_law_owners", "_law_behind", "MOST"] : List PySem.Str)
set_option maxHeartbeats 0 in
theorem run (w : World) : HandSHeadRun.RunEq RR (PySem.W.view RR.prog [39]) hk ob 60000 loose w := by
  intro os
  kernel_rfl
theorem txt_of {w : World} {K : PySem.W.Frag} {h : Heap} {mg : Str → Option Value} (X : K.In h) (G : h.Ns mainGlobals mg) (cc : He.SaysX fas fns [] [] exs w h K) : Txt K mg := by
  have c : He.SaysD fas fns K := cc.t.d
  have m : exs K = true := cc.more
  exact
    { n_ValueError := He.free_ok X G (c.fact 0 rfl)
      n_bool := He.free_ok X G (c.fact 1 rfl)
      n_int := He.free_ok X G (c.fact 2 rfl)
      n_isinstance := He.free_ok X G (c.fact 3 rfl)
      n_len := He.free_ok X G (c.fact 4 rfl)
      n_list := He.free_ok X G (c.fact 5 rfl)
      n_max := He.free_ok X G (c.fact 6 rfl)
      n_min := He.free_ok X G (c.fact 7 rfl)
      n_range := He.free_ok X G (c.fact 8 rfl)
      n_set := He.free_ok X G (c.fact 9 rfl)
      n_sorted := He.free_ok X G (c.fact 10 rfl)
      n_sum := He.free_ok X G (c.fact 11 rfl)
      g_is_size := He.glo_ok X G (c.fact 12 rfl)
      g_size_for := He.glo_ok X G (c.fact 13 rfl)
      g_twin_of := He.glo_ok X G (c.fact 14 rfl)
      g_best_of := He.glo_ok X G (c.fact 15 rfl)
      g_without := He.glo_ok X G (c.fact 16 rfl)
      g_cut_down := He.glo_ok X G (c.fact 17 rfl)
      g_put_back := He.glo_ok X G (c.fact 18 rfl)
      g_grown := He.glo_ok X G (c.fact 19 rfl)
      m_Yard_free := He.meth_ok (c.fact 20 rfl)
      m_Yard_out := He.meth_ok (c.fact 21 rfl)
      m_Yard_owner := He.meth_ok (c.fact 22 rfl)
      m_Yard_give := He.meth_ok (c.fact 23 rfl)
      m_Yard_take_back := He.meth_ok (c.fact 24 rfl)
      m_Yard_resize := He.meth_ok (c.fact 25 rfl)
      g_by_size := He.glo_ok X G (c.fact 26 rfl)
      g_give_all := He.glo_ok X G (c.fact 27 rfl)
      g__law_whole := He.glo_ok X G (c.fact 28 rfl)
      g__law_cell_at := He.glo_ok X G (c.fact 29 rfl)
      g__law_doubled := He.glo_ok X G (c.fact 30 rfl)
      g__law_fitting := He.glo_ok X G (c.fact 31 rfl)
      g__law_yard_size := He.glo_ok X G (c.fact 32 rfl)
      g__law_want := He.glo_ok X G (c.fact 33 rfl)
      g__law_done := He.glo_ok X G (c.fact 34 rfl)
      g__law_touched := He.glo_ok X G (c.fact 35 rfl)
      g__law_due := He.glo_ok X G (c.fact 36 rfl)
      g__law_told := He.glo_ok X G (c.fact 37 rfl)
      g__law_halves := He.glo_ok X G (c.fact 38 rfl)
      g__law_wishes := He.glo_ok X G (c.fact 39 rfl)
      g__law_in_turn := He.glo_ok X G (c.fact 40 rfl)
      g__law_owner := He.glo_ok X G (c.fact 41 rfl)
      g__law_owners := He.glo_ok X G (c.fact 42 rfl)
      g__law_behind := He.glo_ok X G (c.fact 43 rfl)
      g_law := He.glo_ok X G (c.fact 44 rfl)
      g_YardError := He.glo_ok X G (c.fact 45 rfl)
      g_NoYard := He.glo_ok X G (c.fact 46 rfl)
      g_NoWish := He.glo_ok X G (c.fact 47 rfl)
      g_NoRoom := He.glo_ok X G (c.fact 48 rfl)
      g_NotOut := He.glo_ok X G (c.fact 49 rfl)
      g_Yard := He.glo_ok X G (c.fact 50 rfl)
      cl := He.cls_ok (c.fact 51 rfl)
      a_cells := He.noat_ok (c.fact 52 rfl)
      a_spare := He.noat_ok (c.fact 53 rfl)
      a_given := He.noat_ok (c.fact 54 rfl)
      mkr := He.mkr_ok (c.fact 55 rfl)
      x_YardError := He.exc_ok (c.fact 56 rfl)
      x_NoYard := He.exc_ok (c.fact 57 rfl)
      x_NoWish := He.exc_ok (c.fact 58 rfl)
      x_NoRoom := He.exc_ok (c.fact 59 rfl)
      x_NotOut := He.exc_ok (c.fact 60 rfl)
      e_NoYard_NoRoom := He.exm_ok (c.fact 61 rfl)
      e_NoWish_NoRoom := He.exm_ok (c.fact 62 rfl)
      e_NoRoom_NoRoom := He.exm_ok (c.fact 63 rfl)
      e_NotOut_NoRoom := He.exm_ok (c.fact 64 rfl)
      e_NoYard_NoWish := He.exm_ok (c.fact 65 rfl)
      e_NoWish_NoWish := He.exm_ok (c.fact 66 rfl)
      e_NoRoom_NoWish := He.exm_ok (c.fact 67 rfl)
      e_NotOut_NoWish := He.exm_ok (c.fact 68 rfl)
      e_NoYard_YardError := He.exm_ok (c.fact 69 rfl)
      e_NoWish_YardError := He.exm_ok (c.fact 70 rfl)
      e_NoRoom_YardError := He.exm_ok (c.fact 71 rfl)
      e_NotOut_YardError := He.exm_ok (c.fact 72 rfl)
      c_MOST := He.int_ok X G (c.fact 73 rfl)
      F_is_size := c.def_ 0 (d := d_is_size) rfl
      F_size_for := c.def_ 1 (d := d_size_for) rfl
      F_twin_of := c.def_ 2 (d := d_twin_of) rfl
      F_best_of := c.def_ 3 (d := d_best_of) rfl
      F_without := c.def_ 4 (d := d_without) rfl
      F_cut_down := c.def_ 5 (d := d_cut_down) rfl
      F_put_back := c.def_ 6 (d := d_put_back) rfl
      F_grown := c.def_ 7 (d := d_grown) rfl
      F_Yard_init := c.def_ 8 (d := d_Yard_init) rfl
      F_Yard_free := c.def_ 9 (d := d_Yard_free) rfl
      F_Yard_out := c.def_ 10 (d := d_Yard_out) rfl
      F_Yard_owner := c.def_ 11 (d := d_Yard_owner) rfl
      F_Yard_give := c.def_ 12 (d := d_Yard_give) rfl
      F_Yard_take_back := c.def_ 13 (d := d_Yard_take_back) rfl
      F_Yard_resize := c.def_ 14 (d := d_Yard_resize) rfl
      F_by_size := c.def_ 15 (d := d_by_size) rfl
      F_give_all := c.def_ 16 (d := d_give_all) rfl
      F__law_whole := c.def_ 17 (d := d__law_whole) rfl
      F__law_cell_at := c.def_ 18 (d := d__law_cell_at) rfl
      F__law_doubled := c.def_ 19 (d := d__law_doubled) rfl
      F__law_fitting := c.def_ 20 (d := d__law_fitting) rfl
      F__law_yard_size := c.def_ 21 (d := d__law_yard_size) rfl
      F__law_want := c.def_ 22 (d := d__law_want) rfl
      F__law_done := c.def_ 23 (d := d__law_done) rfl
      F__law_touched := c.def_ 24 (d := d__law_touched) rfl
      F__law_due := c.def_ 25 (d := d__law_due) rfl
      F__law_told := c.def_ 26 (d := d__law_told) rfl
      F__law_halves := c.def_ 27 (d := d__law_halves) rfl
      F__law_wishes := c.def_ 28 (d := d__law_wishes) rfl
      F__law_in_turn := c.def_ 29 (d := d__law_in_turn) rfl
      F__law_owner := c.def_ 30 (d := d__law_owner) rfl
      F__law_owners := c.def_ 31 (d := d__law_owners) rfl
      F__law_behind := c.def_ 32 (d := d__law_behind) rfl
      F_law := c.def_ 33 (d := d_law) rfl }
end Yd
open PySem PySem.W PySem.Calls PyProof.Rows
set_option maxHeartbeats 0 in
theorem PySem.Challenge.cw_buddyyard_k11_whole_many_at_once_holds : PySem.Challenge.rw_buddyyard_k11_whole_many_at_once.Holds := by
  w_on; o_law
  refine HandSHeadRun.head_any (r := OpenLaw.row PySem.Challenge.rw_buddyyard_k11_whole_many_at_once) (q := view (OpenLaw.row PySem.Challenge.rw_buddyyard_k11_whole_many_at_once).prog [39]) (H := Yd.hk) (ob := Yd.ob) (M := 60000) (loose := Yd.loose) (d := HandSHeadRun.topDef (OpenLaw.row PySem.Challenge.rw_buddyyard_k11_whole_many_at_once).prog 39) (kwd := []) Yd.ob_eq
    (by kernel_rfl) (fun s => by kernel_rfl) Yd.run (by kernel_rfl) (by kernel_rfl) (by kernel_rfl) (by rfl) (by first | assumption | decide +kernel) (by decide +kernel) ⟨rfl, rfl, rfl, rfl, rfl, by decide +kernel⟩ ?hw ?hc
  case hw => w_witness2
  case hc =>
    refine L2.walk_ofE (l := PySem.Challenge.rw_buddyyard_k11_whole_many_at_once) (n := 63) (k := Yd.lawLevel) (x := "_law_script") (CX := L2.CX0) rfl (by decide) (by kernel_rfl) ⟨rfl, by decide, by decide⟩ ?F (fun _ _ _ _ z => z)
    case F =>
      intro w mg fa h Y G hmg0
      obtain ⟨K, KX, c⟩ := Y
      have hmg : mg ("law" : PySem.Str) = some (.ref fa) := by
        have e : (HandSHeadRun.topDef (OpenLaw.row PySem.Challenge.rw_buddyyard_k11_whole_many_at_once).prog 39).name = ("law" : PySem.Str) := by kernel_rfl
        rw [← e]
        exact hmg0
      have T := Yd.txt_of KX G c
      have e := hmg.symm.trans T.g_law
      cases e
      obtain ⟨fd, F⟩ := T.F_law
      exact ⟨K, fd, Yd.spLaw K, KX, fun s v => L2.FunD.bindsA (ps := ["_law_script"]) F Yd.bd_law s [v] rfl, fun H a ns hl _ hS => ⟨a, ns, rfl, hS, hl, fun _ => rfl⟩, fun base h1 h2 => Yd.ok_law T F⟩
#print axioms PySem.Challenge.cw_buddyyard_k11_whole_many_at_once_holds
